/-
  A calculus of values, boxes and code, and what functions of the program compute, proved in it.
  Conditions: none beyond those that the theorems state. (Part 5.)
-/
import Derived.Test.YtfgfjicelfagcaaGreatDoorPart4
import Derived.Test.YtfgfjicelfagcaaGreatDoorProg
import Derived.KernelRfl
import Derived.Shelf.RegionOpenPlain
import Derived.Lib.Strings
import Derived.Lib.Slices
import Derived.Lib.Walk
import Derived.Lib.Builder
import Derived.Lib.AppendStr
import Derived.Lib.UnsafeStr
import Derived.Lib.MakeNoZero
import Derived.WalkKit
import Derived.Laws.Externs
import Derived.Laws.IdiomCopy
import Derived.Laws.BitsLemmas
import GoSem.Claims
import Derived.Deep.LoopGhost
import Derived.ProofKit
import Derived.OpenShut
import Derived.Shelf.Strings.Builder1
import Derived.Shelf.Strings.Builder2
import Derived.Shelf.Strings.OnBuilder
import Derived.Deep.DeepCutAuto
import Derived.Deep.DeepFit
import Derived.Deep.CutBlock
import Derived.Lib.OthersKept
import Derived.Test.YtfgfjicelfagcaaGreatDoorRows
import Derived.Test.YtfgfjicelfagcaaGreatDoorCards
import Derived.Test.YtfgfjicelfagcaaGreatDoorTie
import Derived.LaidMore
import Derived.Stop.Joined
import Derived.SevenTiedAt
import Derived.Lib.LaidU8
import Derived.Lib.IndexAny
import Derived.Lib.Bytealg

set_option linter.unusedSectionVars false
set_option linter.unusedVariables false
set_option linter.unusedSimpArgs false
set_option linter.unnecessarySimpa false

section
namespace Go.Proofs.YtfgfjicelfagcaaGreatDoor
open Go Go.Ab
set_option maxRecDepth 100000
def nus:List (Nat×Nat):=[(10,19),(13,21),(23,109),(25,87),(27,88),(36,66),(37,86),(38,139),(40,110),(41,137),(44,92),(46,38),(55,111),(56,128),(57,129),(60,112),(62,149),(68,93),(70,84),(71,104),(72,85),(73,154),(74,59),(75,60),(76,48),(85,140),(86,108),(87,107),(88,141),(89,130),(90,117),(91,156),(93,158),(94,159),(101,118),(103,120),(106,127),(107,78),(108,79),(115,150),(116,151),(117,142),(118,131),(119,164),(120,165),(121,166),(125,133),(126,134),(127,135),(128,136),(129,105),(172,68),(177,89),(178,90),(179,91),(185,113),(186,114),(187,115),(188,116),(198,155),(199,147),(200,148),(201,138),(202,123),(203,65),(204,94),(205,122),(207,106),(208,81),(210,67),(211,42),(212,25),(421,23),(430,41),(433,62),(434,63),(435,64),(437,32),(438,82),(439,83),(466,6),(468,8),(477,26),(483,51),(485,43),(486,44),(487,45),(488,46),(491,24),(492,69),(493,33),(644,9),(645,13),(647,27),(648,28),(649,47),(650,70),(651,71),(657,5),(658,7),(2071,104),(2092,157),(2106,127)]
def nu(u:Nat):FuncId:=(nus.lookup u).getD 0
def row115:AFx:=⟨3,26,[.t 6,.t 7],b115,none,false⟩
def row116:AFx:=⟨3,25,[.t 6,.t 7],b116,none,false⟩
def row117:AFx:=⟨4,27,[.t 8,.t 9],b117,none,false⟩
def row118:AFx:=⟨3,29,[.t 6,.t 7,.t 8],b118,none,false⟩
def row91:AFx:=⟨1,23,[.t 2],b91,none,false⟩
def row86:AFx:=⟨1,21,[.t 2],b86,none,false⟩
def row106:AFx:=⟨2,15,[.t 4],b106,none,false⟩
def row71:AFx:=⟨1,6,[.t 2],b71,none,false⟩
def row72:AFx:=⟨1,10,[.t 2],b72,none,false⟩
def row73:AFx:=⟨1,28,[.t 2,.t 3],b73,none,false⟩
def row70:AFx:=⟨1,7,[.t 2],b70,none,false⟩
def row87:AFx:=⟨2,49,[.t 4],b87,none,false⟩
def row85:AFx:=⟨2,52,[.t 4],b85,none,false⟩
def row56:AFx:=⟨1,18,[.t 2],b56,none,false⟩
def row88:AFx:=⟨2,49,[.t 4,.t 5],b88,none,false⟩
def row57:AFx:=⟨2,24,[.t 4,.t 5],b57,none,false⟩
def row2106:AFx:=⟨2,15,[.t 4],b2106,(some [false,false]),false⟩
def row89:AFx:=⟨5,45,[],b89,(some [true,false,false,false,false]),false⟩
def row60:AFx:=⟨2,30,[.t 4],b60,none,false⟩
def row92:AFx:=⟨2,57,[.t 4],b92,none,false⟩
def row94:AFx:=⟨2,65,[.t 4],b94,none,false⟩
def row90:AFx:=⟨2,37,[.t 4,.t 5,.t 6],b90,none,false⟩
def row119:AFx:=⟨5,76,[.t 10],b119,none,false⟩
def row120:AFx:=⟨4,66,[.t 8],b120,(some [true,false,false,false]),false⟩
def row121:AFx:=⟨3,44,[],b121,(some [true,false,false]),false⟩
def row93:AFx:=⟨2,70,[.t 4],b93,(some [true,false]),false⟩
def row2071:AFx:=⟨1,6,[.t 2],b2071,(some [false]),false⟩
def row2092:AFx:=⟨2,57,[.t 4],b2092,(some [false,false]),false⟩
def row62:AFx:=⟨2,65,[.t 4,.t 5,.t 6],b62,none,false⟩
def row101:AFx:=⟨1,19,[.t 2],b101,none,false⟩
def row68:AFx:=⟨0,0,[],.prim prim68,none,false⟩
def row103:AFx:=⟨2,37,[.t 4],b103,none,false⟩
def row125:AFx:=⟨2,17,[.t 4],b125,none,false⟩
def row129:AFx:=⟨1,6,[.t 2],b129,none,false⟩
def row76:AFx:=⟨1,18,[.t 2],b76,none,false⟩
def row74:AFx:=⟨1,34,[.t 2],b74,none,false⟩
def row44:AFx:=⟨1,6,[.t 2],b44,none,false⟩
def row108:AFx:=⟨2,12,[.t 4],b108,none,false⟩
def row107:AFx:=⟨1,14,[.t 2],b107,none,false⟩
def row75:AFx:=⟨4,67,[.t 8],b75,none,false⟩
def row46:AFx:=⟨4,35,[.t 8],b46,none,false⟩
def row483:AFx:=⟨1,25,[.t 2],b483,none,false⟩
def row493:AFx:=⟨1,36,[.t 2],b493,none,false⟩
def row491:AFx:=⟨1,19,[.t 2],b491,none,false⟩
def row492:AFx:=⟨1,44,[.t 2],b492,none,false⟩
def row10:AFx:=⟨3,31,[.t 6],b10,none,false⟩
def row13:AFx:=⟨1,31,[.t 2],b13,none,false⟩
def row485:AFx:=⟨3,39,[.t 6],b485,none,false⟩
def row486:AFx:=⟨1,12,[.t 2],b486,none,false⟩
def row487:AFx:=⟨2,22,[.t 4],b487,none,false⟩
def row488:AFx:=⟨5,32,[.cell 10 (some 4)],b488,none,false⟩
def row477:AFx:=⟨3,80,[.cell 6 (some 4)],b477,none,false⟩
def row185:AFx:=⟨1,9,[.t 2],b185,none,false⟩
def row186:AFx:=⟨1,21,[.t 2],b186,none,false⟩
def row187:AFx:=⟨0,0,[],.prim prim187,none,false⟩
def row177:AFx:=⟨1,12,[.t 2],b177,none,false⟩
def row188:AFx:=⟨2,23,[.t 4],b188,none,false⟩
def row179:AFx:=⟨1,8,[.t 2],b179,none,false⟩
def row178:AFx:=⟨2,20,[.t 4],b178,none,false⟩
def row172:AFx:=⟨1,38,[.t 2],b172,none,false⟩
def row466:AFx:=⟨4,64,[.t 8],b466,none,false⟩
def row468:AFx:=⟨1,51,[.cell 2 (some 2)],b468,none,false⟩
def row55:AFx:=⟨2,13,[.cell 4 (some 2)],b55,none,false⟩
def row38:AFx:=⟨1,9,[.cell 2 (some 2)],b38,none,false⟩
def row40:AFx:=⟨1,10,[.cell 2 (some 2)],b40,none,false⟩
def row23:AFx:=⟨2,39,[.cell 4 (some 2)],b23,none,false⟩
def row25:AFx:=⟨2,9,[.cell 4 (some 2)],b25,none,false⟩
def row27:AFx:=⟨2,16,[.cell 4 (some 2)],b27,none,false⟩
def row37:AFx:=⟨1,10,[.t 2],b37,none,false⟩
def row41:AFx:=⟨1,14,[.cell 2 (some 2)],b41,none,false⟩
def row36:AFx:=⟨2,9,[.t 4],b36,none,false⟩
def row198:AFx:=⟨2,12,[.t 4],b198,none,false⟩
def row199:AFx:=⟨2,56,[.t 4],b199,none,false⟩
def row200:AFx:=⟨1,12,[.t 2],b200,none,false⟩
def row201:AFx:=⟨2,37,[.t 4,.t 5],b201,none,false⟩
def row202:AFx:=⟨2,21,[.cell 4 (some 3)],b202,none,false⟩
def row203:AFx:=⟨1,13,[.cell 2 (some 2),.t 3],b203,none,false⟩
def row205:AFx:=⟨1,7,[.cell 2 (some 3)],b205,none,false⟩
def row207:AFx:=⟨1,8,[.cell 2 (some 3)],b207,none,false⟩
def row210:AFx:=⟨2,9,[.cell 4 (some 2)],b210,none,false⟩
def row211:AFx:=⟨2,26,[.t 4],b211,none,false⟩
def row212:AFx:=⟨2,9,[.t 4],b212,none,false⟩
def row204:AFx:=⟨2,12,[.cell 4 (some 3),.t 5],b204,none,false⟩
def row208:AFx:=⟨1,51,[.t 2],b208,none,false⟩
def row421:AFx:=⟨1,6,[.t 2],b421,none,false⟩
def row430:AFx:=⟨1,38,[.t 2],b430,none,false⟩
def row433:AFx:=⟨1,26,[.t 2],b433,none,false⟩
def row434:AFx:=⟨2,92,[.t 4],b434,none,false⟩
def row435:AFx:=⟨2,12,[.t 4],b435,none,false⟩
def row437:AFx:=⟨1,10,[.cell 2 (some 3)],b437,none,false⟩
def row438:AFx:=⟨1,20,[.t 2],b438,none,false⟩
def row439:AFx:=⟨1,21,[.t 2],b439,none,false⟩
def row644:AFx:=⟨2,79,[.cell 4 (some 4),.t 5,.cell 6 (some 4)],b644,none,false⟩
def row645:AFx:=⟨2,48,[.t 4],b645,none,false⟩
def row647:AFx:=⟨0,4,[.t 0],b647,(some []),true⟩
def row648:AFx:=⟨2,44,[.t 4],b648,(some [true,false]),false⟩
def row649:AFx:=⟨3,63,[.t 6],b649,(some [true,false,true]),false⟩
def row650:AFx:=⟨2,61,[.t 4],b650,(some [true,false]),false⟩
def row651:AFx:=⟨1,27,[.cell 2 (some 6)],b651,none,false⟩
def row657:AFx:=⟨2,124,[.t 4],b657,none,false⟩
def row658:AFx:=⟨0,54,[.t 0],b658,none,false⟩
def RowOk(P:Program)(ν:Nat→FuncId)(τ:Nat→Nat)(u:Nat)(af:AFx):Prop:=
 match af.body.isPrim with
 | some f=>∀xs r,f xs=some r→PCall P (ν u) xs (·=r)
 | none=>if af.body.isBad=true then (∀m∈methsA af,methOf P af.np m.1=some (ν m.2))∧(af.res.isEmpty=true→af.np=ν af.nt) else resFn P (ν u)=some (erF ν τ af)
theorem ok_pr{P:Program}{ν:Nat→FuncId}{τ:Nat→Nat}{u:Nat}{af:AFx}{f:List AV→Option AV}(h0:af.body.isPrim=some f)(h:∀xs r,f xs=some r→PCall P (ν u) xs (·=r)):RowOk P ν τ u af:=by unfold RowOk;rw[h0];exact h
theorem ok_fn{P:Program}{ν:Nat→FuncId}{τ:Nat→Nat}{u:Nat}{af:AFx}(h0:af.body.isPrim=none)(h1:af.body.isBad=false)(h:resFn P (ν u)=some (erF ν τ af)):RowOk P ν τ u af:=by unfold RowOk;rw[h0];simp only[h1];exact h
theorem ok_cons{P:Program}{ν:Nat→FuncId}{τ:Nat→Nat}{u:Nat}{af:AFx}{l:List (Nat×AFx)}(h:RowOk P ν τ u af)(hl:∀p∈l,RowOk P ν τ p.1 p.2) :
  ∀p∈(u,af)::l,RowOk P ν τ p.1 p.2:=by
 intro p hp
 rcases List.mem_cons.1 hp with rfl | hp
 ·exact h
 ·exact hl p hp
theorem ok_lookup{P:Program}{ν:Nat→FuncId}{l:List (Nat×AFx)}(hl:∀p∈l,RowOk P ν (tyNum fun u=>l.lookup u) p.1 p.2):TOk P ν (fun u=>l.lookup u):=fun _ _ h=>hl _ (zc7 h)
theorem sub_cons{l l2:List (Nat×AFx)}{u:Nat}{af:AFx}(h:l.lookup u=some af)(h2:∀p∈l2,l.lookup p.1=some p.2):∀p∈(u,af)::l2,l.lookup p.1=some p.2:=by
 intro p hp
 rcases List.mem_cons.1 hp with rfl | hp
 ·exact h
 ·exact h2 p hp
def gTab:List (Nat×AFx):=[(115,row115),(116,row116),(117,row117),(118,row118),(91,row91),(86,row86),(106,row106),(71,row71),(72,row72),(73,row73),(70,row70),(87,row87),(85,row85),(56,row56),(88,row88),(57,row57),(2106,row2106),(89,row89),(60,row60),(92,row92),(94,row94),(90,row90),(119,row119),(120,row120),(121,row121),(93,row93),(2071,row2071),(2092,row2092),(62,row62),(101,row101),(68,row68),(103,row103),(125,row125),(129,row129),(76,row76),(74,row74),(44,row44),(108,row108),(107,row107),(75,row75),(46,row46),(483,row483),(493,row493),(491,row491),(492,row492),(10,row10),(13,row13),(485,row485),(486,row486),(487,row487),(488,row488),(477,row477),(185,row185),(186,row186),(187,row187),(177,row177),(188,row188),(179,row179),(178,row178),(172,row172),(466,row466),(468,row468),(55,row55),(38,row38),(40,row40),(23,row23),(25,row25),(27,row27),(37,row37),(41,row41),(36,row36),(198,row198),(199,row199),(200,row200),(201,row201),(202,row202),(203,row203),(205,row205),(207,row207),(210,row210),(211,row211),(212,row212),(204,row204),(208,row208),(421,row421),(430,row430),(433,row433),(434,row434),(435,row435),(437,row437),(438,row438),(439,row439),(644,row644),(645,row645),(647,row647),(648,row648),(649,row649),(650,row650),(651,row651),(657,row657),(658,row658)]
def lTab:List (Nat×AFx):=[(115,row115),(116,row116),(117,row117),(118,row118),(91,row91),(86,row86),(106,row106),(71,row71),(72,row72),(73,row73),(70,row70),(87,row87),(85,row85),(56,row56),(88,row88),(57,row57),(2106,row2106),(89,row89),(60,row60),(94,row94),(90,row90),(119,row119),(120,row120),(121,row121),(93,row93),(2071,row2071),(2092,row2092),(62,row62),(68,row68),(129,row129),(76,row76),(74,row74),(44,row44),(108,row108),(107,row107),(75,row75),(46,row46),(483,row483),(493,row493),(491,row491),(492,row492),(10,row10),(13,row13),(485,row485),(486,row486),(487,row487),(488,row488),(477,row477),(185,row185),(186,row186),(187,row187),(177,row177),(188,row188),(179,row179),(178,row178),(172,row172),(466,row466),(468,row468),(55,row55),(38,row38),(40,row40),(23,row23),(25,row25),(27,row27),(37,row37),(41,row41),(36,row36),(198,row198),(199,row199),(200,row200),(201,row201),(202,row202),(203,row203),(205,row205),(207,row207),(210,row210),(211,row211),(212,row212),(204,row204),(208,row208),(421,row421),(430,row430),(433,row433),(434,row434),(435,row435),(437,row437),(438,row438),(439,row439),(644,row644),(645,row645),(647,row647),(648,row648),(649,row649),(650,row650),(651,row651),(657,row657),(658,row658)]
def tab:Tbl:=fun u=>gTab.lookup u
def tau_l:Nat→Nat:=tyNum fun u=>lTab.lookup u
theorem resl_115:resFn Tryz.prog (nu 115)=some (erF nu tau_l row115):=by kernel_rfl
theorem resl_116:resFn Tryz.prog (nu 116)=some (erF nu tau_l row116):=by kernel_rfl
theorem resl_117:resFn Tryz.prog (nu 117)=some (erF nu tau_l row117):=by kernel_rfl
theorem resl_118:resFn Tryz.prog (nu 118)=some (erF nu tau_l row118):=by kernel_rfl
theorem resl_91:resFn Tryz.prog (nu 91)=some (erF nu tau_l row91):=by kernel_rfl
theorem resl_86:resFn Tryz.prog (nu 86)=some (erF nu tau_l row86):=by kernel_rfl
theorem resl_106:resFn Tryz.prog (nu 106)=some (erF nu tau_l row106):=by kernel_rfl
theorem resl_71:resFn Tryz.prog (nu 71)=some (erF nu tau_l row71):=by kernel_rfl
theorem resl_72:resFn Tryz.prog (nu 72)=some (erF nu tau_l row72):=by kernel_rfl
theorem resl_73:resFn Tryz.prog (nu 73)=some (erF nu tau_l row73):=by kernel_rfl
theorem resl_70:resFn Tryz.prog (nu 70)=some (erF nu tau_l row70):=by kernel_rfl
theorem resl_87:resFn Tryz.prog (nu 87)=some (erF nu tau_l row87):=by kernel_rfl
theorem resl_85:resFn Tryz.prog (nu 85)=some (erF nu tau_l row85):=by kernel_rfl
theorem resl_56:resFn Tryz.prog (nu 56)=some (erF nu tau_l row56):=by kernel_rfl
theorem resl_88:resFn Tryz.prog (nu 88)=some (erF nu tau_l row88):=by kernel_rfl
theorem resl_57:resFn Tryz.prog (nu 57)=some (erF nu tau_l row57):=by kernel_rfl
theorem resl_2106:resFn Tryz.prog (nu 2106)=some (erF nu tau_l row2106):=by kernel_rfl
theorem resl_89:resFn Tryz.prog (nu 89)=some (erF nu tau_l row89):=by kernel_rfl
theorem resl_60:resFn Tryz.prog (nu 60)=some (erF nu tau_l row60):=by kernel_rfl
theorem resl_94:resFn Tryz.prog (nu 94)=some (erF nu tau_l row94):=by kernel_rfl
theorem resl_90:resFn Tryz.prog (nu 90)=some (erF nu tau_l row90):=by kernel_rfl
theorem resl_119:resFn Tryz.prog (nu 119)=some (erF nu tau_l row119):=by kernel_rfl
theorem resl_120:resFn Tryz.prog (nu 120)=some (erF nu tau_l row120):=by kernel_rfl
theorem resl_121:resFn Tryz.prog (nu 121)=some (erF nu tau_l row121):=by kernel_rfl
theorem resl_93:resFn Tryz.prog (nu 93)=some (erF nu tau_l row93):=by kernel_rfl
theorem resl_2071:resFn Tryz.prog (nu 2071)=some (erF nu tau_l row2071):=by kernel_rfl
theorem resl_2092:resFn Tryz.prog (nu 2092)=some (erF nu tau_l row2092):=by kernel_rfl
theorem resl_62:resFn Tryz.prog (nu 62)=some (erF nu tau_l row62):=by kernel_rfl
theorem resl_129:resFn Tryz.prog (nu 129)=some (erF nu tau_l row129):=by kernel_rfl
theorem resl_76:resFn Tryz.prog (nu 76)=some (erF nu tau_l row76):=by kernel_rfl
theorem resl_74:resFn Tryz.prog (nu 74)=some (erF nu tau_l row74):=by kernel_rfl
theorem resl_44:resFn Tryz.prog (nu 44)=some (erF nu tau_l row44):=by kernel_rfl
theorem resl_108:resFn Tryz.prog (nu 108)=some (erF nu tau_l row108):=by kernel_rfl
theorem resl_107:resFn Tryz.prog (nu 107)=some (erF nu tau_l row107):=by kernel_rfl
theorem resl_75:resFn Tryz.prog (nu 75)=some (erF nu tau_l row75):=by kernel_rfl
theorem resl_46:resFn Tryz.prog (nu 46)=some (erF nu tau_l row46):=by kernel_rfl
theorem resl_483:resFn Tryz.prog (nu 483)=some (erF nu tau_l row483):=by kernel_rfl
theorem resl_493:resFn Tryz.prog (nu 493)=some (erF nu tau_l row493):=by kernel_rfl
theorem resl_491:resFn Tryz.prog (nu 491)=some (erF nu tau_l row491):=by kernel_rfl
theorem resl_492:resFn Tryz.prog (nu 492)=some (erF nu tau_l row492):=by kernel_rfl
theorem resl_10:resFn Tryz.prog (nu 10)=some (erF nu tau_l row10):=by kernel_rfl
theorem resl_13:resFn Tryz.prog (nu 13)=some (erF nu tau_l row13):=by kernel_rfl
theorem resl_485:resFn Tryz.prog (nu 485)=some (erF nu tau_l row485):=by kernel_rfl
theorem resl_486:resFn Tryz.prog (nu 486)=some (erF nu tau_l row486):=by kernel_rfl
theorem resl_487:resFn Tryz.prog (nu 487)=some (erF nu tau_l row487):=by kernel_rfl
theorem resl_488:resFn Tryz.prog (nu 488)=some (erF nu tau_l row488):=by kernel_rfl
theorem resl_477:resFn Tryz.prog (nu 477)=some (erF nu tau_l row477):=by kernel_rfl
theorem resl_185:resFn Tryz.prog (nu 185)=some (erF nu tau_l row185):=by kernel_rfl
theorem resl_186:resFn Tryz.prog (nu 186)=some (erF nu tau_l row186):=by kernel_rfl
theorem resl_177:resFn Tryz.prog (nu 177)=some (erF nu tau_l row177):=by kernel_rfl
theorem resl_188:resFn Tryz.prog (nu 188)=some (erF nu tau_l row188):=by kernel_rfl
theorem resl_179:resFn Tryz.prog (nu 179)=some (erF nu tau_l row179):=by kernel_rfl
theorem resl_178:resFn Tryz.prog (nu 178)=some (erF nu tau_l row178):=by kernel_rfl
theorem resl_172:resFn Tryz.prog (nu 172)=some (erF nu tau_l row172):=by kernel_rfl
theorem resl_466:resFn Tryz.prog (nu 466)=some (erF nu tau_l row466):=by kernel_rfl
theorem resl_468:resFn Tryz.prog (nu 468)=some (erF nu tau_l row468):=by kernel_rfl
theorem resl_55:resFn Tryz.prog (nu 55)=some (erF nu tau_l row55):=by kernel_rfl
theorem resl_38:resFn Tryz.prog (nu 38)=some (erF nu tau_l row38):=by kernel_rfl
theorem resl_40:resFn Tryz.prog (nu 40)=some (erF nu tau_l row40):=by kernel_rfl
theorem resl_23:resFn Tryz.prog (nu 23)=some (erF nu tau_l row23):=by kernel_rfl
theorem resl_25:resFn Tryz.prog (nu 25)=some (erF nu tau_l row25):=by kernel_rfl
theorem resl_27:resFn Tryz.prog (nu 27)=some (erF nu tau_l row27):=by kernel_rfl
theorem resl_37:resFn Tryz.prog (nu 37)=some (erF nu tau_l row37):=by kernel_rfl
theorem resl_41:resFn Tryz.prog (nu 41)=some (erF nu tau_l row41):=by kernel_rfl
theorem resl_36:resFn Tryz.prog (nu 36)=some (erF nu tau_l row36):=by kernel_rfl
theorem resl_198:resFn Tryz.prog (nu 198)=some (erF nu tau_l row198):=by kernel_rfl
theorem resl_199:resFn Tryz.prog (nu 199)=some (erF nu tau_l row199):=by kernel_rfl
theorem resl_200:resFn Tryz.prog (nu 200)=some (erF nu tau_l row200):=by kernel_rfl
theorem resl_201:resFn Tryz.prog (nu 201)=some (erF nu tau_l row201):=by kernel_rfl
theorem resl_202:resFn Tryz.prog (nu 202)=some (erF nu tau_l row202):=by kernel_rfl
theorem resl_203:resFn Tryz.prog (nu 203)=some (erF nu tau_l row203):=by kernel_rfl
theorem resl_205:resFn Tryz.prog (nu 205)=some (erF nu tau_l row205):=by kernel_rfl
theorem resl_207:resFn Tryz.prog (nu 207)=some (erF nu tau_l row207):=by kernel_rfl
theorem resl_210:resFn Tryz.prog (nu 210)=some (erF nu tau_l row210):=by kernel_rfl
theorem resl_211:resFn Tryz.prog (nu 211)=some (erF nu tau_l row211):=by kernel_rfl
theorem resl_212:resFn Tryz.prog (nu 212)=some (erF nu tau_l row212):=by kernel_rfl
theorem resl_204:resFn Tryz.prog (nu 204)=some (erF nu tau_l row204):=by kernel_rfl
theorem resl_208:resFn Tryz.prog (nu 208)=some (erF nu tau_l row208):=by kernel_rfl
theorem resl_421:resFn Tryz.prog (nu 421)=some (erF nu tau_l row421):=by kernel_rfl
theorem resl_430:resFn Tryz.prog (nu 430)=some (erF nu tau_l row430):=by kernel_rfl
theorem resl_433:resFn Tryz.prog (nu 433)=some (erF nu tau_l row433):=by kernel_rfl
theorem resl_434:resFn Tryz.prog (nu 434)=some (erF nu tau_l row434):=by kernel_rfl
theorem resl_435:resFn Tryz.prog (nu 435)=some (erF nu tau_l row435):=by kernel_rfl
theorem resl_437:resFn Tryz.prog (nu 437)=some (erF nu tau_l row437):=by kernel_rfl
theorem resl_438:resFn Tryz.prog (nu 438)=some (erF nu tau_l row438):=by kernel_rfl
theorem resl_439:resFn Tryz.prog (nu 439)=some (erF nu tau_l row439):=by kernel_rfl
theorem resl_644:resFn Tryz.prog (nu 644)=some (erF nu tau_l row644):=by kernel_rfl
theorem resl_645:resFn Tryz.prog (nu 645)=some (erF nu tau_l row645):=by kernel_rfl
theorem resl_647:resFn Tryz.prog (nu 647)=some (erF nu tau_l row647):=by kernel_rfl
theorem resl_648:resFn Tryz.prog (nu 648)=some (erF nu tau_l row648):=by kernel_rfl
theorem resl_649:resFn Tryz.prog (nu 649)=some (erF nu tau_l row649):=by kernel_rfl
theorem resl_650:resFn Tryz.prog (nu 650)=some (erF nu tau_l row650):=by kernel_rfl
theorem resl_651:resFn Tryz.prog (nu 651)=some (erF nu tau_l row651):=by kernel_rfl
theorem resl_657:resFn Tryz.prog (nu 657)=some (erF nu tau_l row657):=by kernel_rfl
theorem resl_658:resFn Tryz.prog (nu 658)=some (erF nu tau_l row658):=by kernel_rfl
theorem lTab_ok(hp68:∀xs r,prim68 xs=some r→PCall Tryz.prog (nu 68) xs (·=r))(hp187:∀xs r,prim187 xs=some r→PCall Tryz.prog (nu 187) xs (·=r)):TOk Tryz.prog nu (fun u=>lTab.lookup u):=ok_lookup (ok_cons (ok_fn rfl rfl resl_115) (ok_cons (ok_fn rfl rfl resl_116) (ok_cons (ok_fn rfl rfl resl_117) (ok_cons (ok_fn rfl rfl resl_118) (ok_cons (ok_fn rfl rfl resl_91) (ok_cons (ok_fn rfl rfl resl_86) (ok_cons (ok_fn rfl rfl resl_106) (ok_cons (ok_fn rfl rfl resl_71) (ok_cons (ok_fn rfl rfl resl_72) (ok_cons (ok_fn rfl rfl resl_73) (ok_cons (ok_fn rfl rfl resl_70) (ok_cons (ok_fn rfl rfl resl_87) (ok_cons (ok_fn rfl rfl resl_85) (ok_cons (ok_fn rfl rfl resl_56) (ok_cons (ok_fn rfl rfl resl_88) (ok_cons (ok_fn rfl rfl resl_57) (ok_cons (ok_fn rfl rfl resl_2106) (ok_cons (ok_fn rfl rfl resl_89) (ok_cons (ok_fn rfl rfl resl_60) (ok_cons (ok_fn rfl rfl resl_94) (ok_cons (ok_fn rfl rfl resl_90) (ok_cons (ok_fn rfl rfl resl_119) (ok_cons (ok_fn rfl rfl resl_120) (ok_cons (ok_fn rfl rfl resl_121) (ok_cons (ok_fn rfl rfl resl_93) (ok_cons (ok_fn rfl rfl resl_2071) (ok_cons (ok_fn rfl rfl resl_2092) (ok_cons (ok_fn rfl rfl resl_62) (ok_cons (ok_pr rfl hp68) (ok_cons (ok_fn rfl rfl resl_129) (ok_cons (ok_fn rfl rfl resl_76) (ok_cons (ok_fn rfl rfl resl_74) (ok_cons (ok_fn rfl rfl resl_44) (ok_cons (ok_fn rfl rfl resl_108) (ok_cons (ok_fn rfl rfl resl_107) (ok_cons (ok_fn rfl rfl resl_75) (ok_cons (ok_fn rfl rfl resl_46) (ok_cons (ok_fn rfl rfl resl_483) (ok_cons (ok_fn rfl rfl resl_493) (ok_cons (ok_fn rfl rfl resl_491) (ok_cons (ok_fn rfl rfl resl_492) (ok_cons (ok_fn rfl rfl resl_10) (ok_cons (ok_fn rfl rfl resl_13) (ok_cons (ok_fn rfl rfl resl_485) (ok_cons (ok_fn rfl rfl resl_486) (ok_cons (ok_fn rfl rfl resl_487) (ok_cons (ok_fn rfl rfl resl_488) (ok_cons (ok_fn rfl rfl resl_477) (ok_cons (ok_fn rfl rfl resl_185) (ok_cons (ok_fn rfl rfl resl_186) (ok_cons (ok_pr rfl hp187) (ok_cons (ok_fn rfl rfl resl_177) (ok_cons (ok_fn rfl rfl resl_188) (ok_cons (ok_fn rfl rfl resl_179) (ok_cons (ok_fn rfl rfl resl_178) (ok_cons (ok_fn rfl rfl resl_172) (ok_cons (ok_fn rfl rfl resl_466) (ok_cons (ok_fn rfl rfl resl_468) (ok_cons (ok_fn rfl rfl resl_55) (ok_cons (ok_fn rfl rfl resl_38) (ok_cons (ok_fn rfl rfl resl_40) (ok_cons (ok_fn rfl rfl resl_23) (ok_cons (ok_fn rfl rfl resl_25) (ok_cons (ok_fn rfl rfl resl_27) (ok_cons (ok_fn rfl rfl resl_37) (ok_cons (ok_fn rfl rfl resl_41) (ok_cons (ok_fn rfl rfl resl_36) (ok_cons (ok_fn rfl rfl resl_198) (ok_cons (ok_fn rfl rfl resl_199) (ok_cons (ok_fn rfl rfl resl_200) (ok_cons (ok_fn rfl rfl resl_201) (ok_cons (ok_fn rfl rfl resl_202) (ok_cons (ok_fn rfl rfl resl_203) (ok_cons (ok_fn rfl rfl resl_205) (ok_cons (ok_fn rfl rfl resl_207) (ok_cons (ok_fn rfl rfl resl_210) (ok_cons (ok_fn rfl rfl resl_211) (ok_cons (ok_fn rfl rfl resl_212) (ok_cons (ok_fn rfl rfl resl_204) (ok_cons (ok_fn rfl rfl resl_208) (ok_cons (ok_fn rfl rfl resl_421) (ok_cons (ok_fn rfl rfl resl_430) (ok_cons (ok_fn rfl rfl resl_433) (ok_cons (ok_fn rfl rfl resl_434) (ok_cons (ok_fn rfl rfl resl_435) (ok_cons (ok_fn rfl rfl resl_437) (ok_cons (ok_fn rfl rfl resl_438) (ok_cons (ok_fn rfl rfl resl_439) (ok_cons (ok_fn rfl rfl resl_644) (ok_cons (ok_fn rfl rfl resl_645) (ok_cons (ok_fn rfl rfl resl_647) (ok_cons (ok_fn rfl rfl resl_648) (ok_cons (ok_fn rfl rfl resl_649) (ok_cons (ok_fn rfl rfl resl_650) (ok_cons (ok_fn rfl rfl resl_651) (ok_cons (ok_fn rfl rfl resl_657) (ok_cons (ok_fn rfl rfl resl_658) (fun p hp=>by cases hp))))))))))))))))))))))))))))))))))))))))))))))))))))))))))))))))))))))))))))))))))))))))))))))))))
theorem lTab_part:Part gTab lTab:=⟨sub_cons (by kernel_rfl) (sub_cons (by kernel_rfl) (sub_cons (by kernel_rfl) (sub_cons (by kernel_rfl) (sub_cons (by kernel_rfl) (sub_cons (by kernel_rfl) (sub_cons (by kernel_rfl) (sub_cons (by kernel_rfl) (sub_cons (by kernel_rfl) (sub_cons (by kernel_rfl) (sub_cons (by kernel_rfl) (sub_cons (by kernel_rfl) (sub_cons (by kernel_rfl) (sub_cons (by kernel_rfl) (sub_cons (by kernel_rfl) (sub_cons (by kernel_rfl) (sub_cons (by kernel_rfl) (sub_cons (by kernel_rfl) (sub_cons (by kernel_rfl) (sub_cons (by kernel_rfl) (sub_cons (by kernel_rfl) (sub_cons (by kernel_rfl) (sub_cons (by kernel_rfl) (sub_cons (by kernel_rfl) (sub_cons (by kernel_rfl) (sub_cons (by kernel_rfl) (sub_cons (by kernel_rfl) (sub_cons (by kernel_rfl) (sub_cons (by kernel_rfl) (sub_cons (by kernel_rfl) (sub_cons (by kernel_rfl) (sub_cons (by kernel_rfl) (sub_cons (by kernel_rfl) (sub_cons (by kernel_rfl) (sub_cons (by kernel_rfl) (sub_cons (by kernel_rfl) (sub_cons (by kernel_rfl) (sub_cons (by kernel_rfl) (sub_cons (by kernel_rfl) (sub_cons (by kernel_rfl) (sub_cons (by kernel_rfl) (sub_cons (by kernel_rfl) (sub_cons (by kernel_rfl) (sub_cons (by kernel_rfl) (sub_cons (by kernel_rfl) (sub_cons (by kernel_rfl) (sub_cons (by kernel_rfl) (sub_cons (by kernel_rfl) (sub_cons (by kernel_rfl) (sub_cons (by kernel_rfl) (sub_cons (by kernel_rfl) (sub_cons (by kernel_rfl) (sub_cons (by kernel_rfl) (sub_cons (by kernel_rfl) (sub_cons (by kernel_rfl) (sub_cons (by kernel_rfl) (sub_cons (by kernel_rfl) (sub_cons (by kernel_rfl) (sub_cons (by kernel_rfl) (sub_cons (by kernel_rfl) (sub_cons (by kernel_rfl) (sub_cons (by kernel_rfl) (sub_cons (by kernel_rfl) (sub_cons (by kernel_rfl) (sub_cons (by kernel_rfl) (sub_cons (by kernel_rfl) (sub_cons (by kernel_rfl) (sub_cons (by kernel_rfl) (sub_cons (by kernel_rfl) (sub_cons (by kernel_rfl) (sub_cons (by kernel_rfl) (sub_cons (by kernel_rfl) (sub_cons (by kernel_rfl) (sub_cons (by kernel_rfl) (sub_cons (by kernel_rfl) (sub_cons (by kernel_rfl) (sub_cons (by kernel_rfl) (sub_cons (by kernel_rfl) (sub_cons (by kernel_rfl) (sub_cons (by kernel_rfl) (sub_cons (by kernel_rfl) (sub_cons (by kernel_rfl) (sub_cons (by kernel_rfl) (sub_cons (by kernel_rfl) (sub_cons (by kernel_rfl) (sub_cons (by kernel_rfl) (sub_cons (by kernel_rfl) (sub_cons (by kernel_rfl) (sub_cons (by kernel_rfl) (sub_cons (by kernel_rfl) (sub_cons (by kernel_rfl) (sub_cons (by kernel_rfl) (sub_cons (by kernel_rfl) (sub_cons (by kernel_rfl) (sub_cons (by kernel_rfl) (sub_cons (by kernel_rfl) (sub_cons (by kernel_rfl) (fun p hp=>by cases hp))))))))))))))))))))))))))))))))))))))))))))))))))))))))))))))))))))))))))))))))))))))))))))))))),by kernel_rfl⟩
def sTab:List (Nat×AFx):=[(118,row118),(86,row86),(106,row106),(71,row71),(70,row70),(90,row90),(101,row101),(103,row103),(125,row125)]
def tau_s:Nat→Nat:=tyNum fun u=>sTab.lookup u
theorem ress_118:resFn Tryz.prog (nu 118)=some (erF nu tau_s row118):=by kernel_rfl
theorem ress_86:resFn Tryz.prog (nu 86)=some (erF nu tau_s row86):=by kernel_rfl
theorem ress_106:resFn Tryz.prog (nu 106)=some (erF nu tau_s row106):=by kernel_rfl
theorem ress_71:resFn Tryz.prog (nu 71)=some (erF nu tau_s row71):=by kernel_rfl
theorem ress_70:resFn Tryz.prog (nu 70)=some (erF nu tau_s row70):=by kernel_rfl
theorem ress_90:resFn Tryz.prog (nu 90)=some (erF nu tau_s row90):=by kernel_rfl
theorem ress_101:resFn Tryz.prog (nu 101)=some (erF nu tau_s row101):=by kernel_rfl
theorem ress_103:resFn Tryz.prog (nu 103)=some (erF nu tau_s row103):=by kernel_rfl
theorem ress_125:resFn Tryz.prog (nu 125)=some (erF nu tau_s row125):=by kernel_rfl
theorem sTab_ok:TOk Tryz.prog nu (fun u=>sTab.lookup u):=ok_lookup (ok_cons (ok_fn rfl rfl ress_118) (ok_cons (ok_fn rfl rfl ress_86) (ok_cons (ok_fn rfl rfl ress_106) (ok_cons (ok_fn rfl rfl ress_71) (ok_cons (ok_fn rfl rfl ress_70) (ok_cons (ok_fn rfl rfl ress_90) (ok_cons (ok_fn rfl rfl ress_101) (ok_cons (ok_fn rfl rfl ress_103) (ok_cons (ok_fn rfl rfl ress_125) (fun p hp=>by cases hp))))))))))
theorem sTab_part:Part gTab sTab:=⟨sub_cons (by kernel_rfl) (sub_cons (by kernel_rfl) (sub_cons (by kernel_rfl) (sub_cons (by kernel_rfl) (sub_cons (by kernel_rfl) (sub_cons (by kernel_rfl) (sub_cons (by kernel_rfl) (sub_cons (by kernel_rfl) (sub_cons (by kernel_rfl) (fun p hp=>by cases hp))))))))),by kernel_rfl⟩
instance:CLimb tab where
 h115:=by kernel_rfl
 h116:=by kernel_rfl
 h117:=by kernel_rfl
 h118:=by kernel_rfl
 h91:=by kernel_rfl
instance:CNat tab where
 h115:=by kernel_rfl
 h116:=by kernel_rfl
 h117:=by kernel_rfl
 h118:=by kernel_rfl
 h91:=by kernel_rfl
 h86:=by kernel_rfl
 h106:=by kernel_rfl
 h71:=by kernel_rfl
 h72:=by kernel_rfl
 h73:=by kernel_rfl
 h70:=by kernel_rfl
 h87:=by kernel_rfl
 h85:=by kernel_rfl
 h56:=by kernel_rfl
 h88:=by kernel_rfl
 h57:=by kernel_rfl
 h2106:=by kernel_rfl
instance:CProd tab where
 h115:=by kernel_rfl
 h116:=by kernel_rfl
 h117:=by kernel_rfl
 h118:=by kernel_rfl
 h91:=by kernel_rfl
 h86:=by kernel_rfl
 h106:=by kernel_rfl
 h71:=by kernel_rfl
 h72:=by kernel_rfl
 h73:=by kernel_rfl
 h70:=by kernel_rfl
 h87:=by kernel_rfl
 h85:=by kernel_rfl
 h56:=by kernel_rfl
 h88:=by kernel_rfl
 h57:=by kernel_rfl
 h2106:=by kernel_rfl
 h89:=by kernel_rfl
 h60:=by kernel_rfl
instance:CTwos tab where
 h92:=by kernel_rfl
 h94:=by kernel_rfl
instance:CQuot tab where
 h90:=by kernel_rfl
 h119:=by kernel_rfl
 h120:=by kernel_rfl
 h121:=by kernel_rfl
 h93:=by kernel_rfl
instance:CQuotD tab where
 h2071:=by kernel_rfl
 h2092:=by kernel_rfl
 h62:=by kernel_rfl
instance:CDigits tab where
 h101:=by kernel_rfl
instance:CText tab where
 h68:=by kernel_rfl
instance:CTrim tab where
 h103:=by kernel_rfl
 h125:=by kernel_rfl
instance:CRef02 tab where
instance:CRef04 tab where
instance:CRef05 tab where
instance:CRef07 tab where
instance:CLenD tab where
 h129:=by kernel_rfl
instance:CTree tab where
 h76:=by kernel_rfl
 h74:=by kernel_rfl
 h44:=by kernel_rfl
 h108:=by kernel_rfl
 h107:=by kernel_rfl
 h75:=by kernel_rfl
 h46:=by kernel_rfl
instance:CTree2 tab where
 h483:=by kernel_rfl
 h493:=by kernel_rfl
 h491:=by kernel_rfl
 h492:=by kernel_rfl
instance:CRef17 tab where
 h10:=by kernel_rfl
instance:CLaw17 tab where
 h13:=by kernel_rfl
instance:CCheck tab where
 h485:=by kernel_rfl
 h486:=by kernel_rfl
 h487:=by kernel_rfl
 h488:=by kernel_rfl
 h477:=by kernel_rfl
instance:CLex tab where
 h185:=by kernel_rfl
 h186:=by kernel_rfl
 h187:=by kernel_rfl
 h177:=by kernel_rfl
 h188:=by kernel_rfl
 h179:=by kernel_rfl
 h178:=by kernel_rfl
 h172:=by kernel_rfl
instance:CJoin tab where
instance:CRef16 tab where
instance:CRef19 tab where
 h466:=by kernel_rfl
instance:CLaw21 tab where
 h468:=by kernel_rfl
instance:CWhole tab where
 h55:=by kernel_rfl
 h38:=by kernel_rfl
 h40:=by kernel_rfl
 h23:=by kernel_rfl
 h25:=by kernel_rfl
 h27:=by kernel_rfl
 h37:=by kernel_rfl
 h41:=by kernel_rfl
 h36:=by kernel_rfl
instance:CCommon tab where
 h198:=by kernel_rfl
 h199:=by kernel_rfl
 h200:=by kernel_rfl
 h201:=by kernel_rfl
instance:CFrac tab where
 h202:=by kernel_rfl
 h203:=by kernel_rfl
 h205:=by kernel_rfl
 h207:=by kernel_rfl
 h210:=by kernel_rfl
 h211:=by kernel_rfl
 h212:=by kernel_rfl
instance:CFrac2 tab where
 h204:=by kernel_rfl
instance:CFrac3 tab where
 h208:=by kernel_rfl
instance:CFrac5 tab where
instance:CPow tab where
instance:CRef06 tab where
instance:CRef08 tab where
instance:CRef09 tab where
instance:CRef11 tab where
instance:CLaw09 tab where
instance:CLaw11 tab where
instance:CTape tab where
 h421:=by kernel_rfl
 h430:=by kernel_rfl
 h433:=by kernel_rfl
 h434:=by kernel_rfl
 h435:=by kernel_rfl
 h437:=by kernel_rfl
 h438:=by kernel_rfl
 h439:=by kernel_rfl
instance:CGauge tab where
instance:CEval tab where
instance:CEval2 tab where
instance:CRow tab where
instance:CRow5 tab where
instance:CComp tab where
 h644:=by kernel_rfl
 h645:=by kernel_rfl
 h647:=by kernel_rfl
 h648:=by kernel_rfl
 h649:=by kernel_rfl
 h650:=by kernel_rfl
 h651:=by kernel_rfl
instance:CLaw25 tab where
 h657:=by kernel_rfl
 h658:=by kernel_rfl
end Go.Proofs.YtfgfjicelfagcaaGreatDoor
end
section
namespace Go.Proofs
open Go.RowKit
theorem Tryz.sizeBuilder:(Tryz.prog.info? 181).map (·.size)=some 2:=by kernel_rfl
theorem Tryz.liesBuilder:liesAt Tryz.prog Tryz.prog.depth 181 (2/Tryz.prog.cellsOf 181) 0 181 1=true:=by kernel_rfl
theorem Tryz.infoByte:(Tryz.prog.info? 5).map (fun i=>(i.zero,i.size,i.bytes))=some (some (.int .u8 0),1,1):=by kernel_rfl
theorem Tryz.cellsByte:Tryz.prog.cellsOf 5=1:=by kernel_rfl
set_option maxHeartbeats 1000000 in
set_option maxRecDepth 100000 in
theorem Tryz.bString(B b:Nat)(l:List UInt8)(w:World)(h:Lib.IsBuilder 181 5 B b (Lib.byteCells l) w)(h0:l≠[]) :
  Calls Tryz.prog 121 #[.pointer (some ⟨b,0,none⟩)] w fun e w'=>e=.returned (.string ⟨l.toArray⟩)∧Below B w w':=by
 obtain⟨p,hB,v,hbk,hown,hne⟩:∃p,Lib.BuilderAt 181 5 B b p (Lib.byteCells l) w:=by
  rcases h with h | h
  ·exact⟨_,h⟩
  ·exact⟨_,h⟩
 have hl0:l.length≠0:=by simpa using h0
 rw[Lib.byteCells_length]at hown
 obtain⟨g,cap,cur,rfl,hbg,hg,hnc,hcm,hcs,htake⟩:∃g cap cur,v=.slice (some ⟨g,0,none⟩) l.length cap∧B≤g∧w.heap[g]? = some (.cells cur 5 (0,0))∧l.length≤cap∧cap≤maxLen∧cur.size=cap*1∧cur.toList.take (l.length*1)=Lib.byteCells l:=by
  rcases hown.2 with ⟨_,hz⟩ | ⟨g,cap,cur,hv,r⟩
  ·exact absurd hz hl0
  ·exact⟨g,cap,cur,hv,r⟩
 have c1:w.drew.cell? ⟨b,1,none⟩=some (.slice (some ⟨g,0,none⟩) l.length cap):=by
  have:w.drew.heap[b]? = some (.cells #[p,.slice (some ⟨g,0,none⟩) l.length cap] 181 (0,0)):=hbk
  rw[Lib.cell_of_heap this];rfl
 have hSD:(Builtin.unsafeSliceData_ #[179] 204 #[.slice (some ⟨g,0,none⟩) l.length cap]).run Tryz.prog w.drew=.ok (.pointer (some ⟨g,0,none⟩)) w.drew:=
  Lib.run_unsafeSliceData_row _ _ _ _ _ _ (by omega)
 have hUS:(Builtin.unsafeString_ #[204,3] 9 #[.pointer (some ⟨g,0,none⟩),.int .i64 l.length]).run Tryz.prog w.drew=.ok (.string ⟨l.toArray⟩) (w.drew.freeze ⟨g,0,none⟩ l.length):=by
  refine Lib.run_unsafeString_row w.drew 204 3 9 5 Tryz.underlying204 Tryz.cellsByte g cur.size (by have hg':w.drew.heap[g]? = some (.cells cur 5 (0,0)):=hg;simp[World.shape?,hg']) l h0 (by omega) (by unfold maxLen at hcm;omega) ?_
  intro j x hx
  have:=hown.cells (g:=g) rfl j (.int .u8 x.toNat) (by simp[Lib.byteCells,hx])
  exact this
 go_enter Tryz.func121,Tryz.ntmps121
 go_wp2
 go_region
 all_goals (go_wp2;go_ret;exact⟨rfl,Lib.below_freeze (Below.drew (Below.refl B w)) (p:=⟨g,0,none⟩) hbg _⟩)
set_option maxHeartbeats 1000000 in
set_option maxRecDepth 100000 in
theorem Tryz.bCheck_used(b:Nat)(w:World)(h0:w.cell? ⟨b,0,none⟩=some (.pointer (some ⟨b,0,none⟩))) :
  Calls Tryz.prog 132 #[.pointer (some ⟨b,0,none⟩)] w fun e w'=>e=.returned (.tuple #[])∧w'=w:=by
 obtain⟨j,hj,_⟩:=Option.map_eq_some_iff.1 Tryz.sizeBuilder
 go_enter Tryz.func132,Tryz.ntmps132
 go_wp2
 rw[Lib.run_neq_ptr_same w _ Tryz.underlying178 hj]
 go_wp2
 go_end0
 exact⟨rfl,rfl⟩
set_option maxHeartbeats 1000000 in
set_option maxRecDepth 100000 in
theorem Tryz.bCheck_fresh(b:Nat)(w:World)(h0:w.cell? ⟨b,0,none⟩=some (.pointer none))(hsh:w.shape? b=some (181,2))(hfz:w.frozen? ⟨b,0,none⟩=false) :
  Calls Tryz.prog 132 #[.pointer (some ⟨b,0,none⟩)] w fun e w'=>e=.returned (.tuple #[])∧w'=w.setCell ⟨b,0,none⟩ (.pointer (some ⟨b,0,none⟩)):=by
 obtain⟨j,hj,hjs⟩:=Option.map_eq_some_iff.1 Tryz.sizeBuilder
 go_enter Tryz.func132,Tryz.ntmps132
 go_wp2
 rw[Lib.run_to_unsafe w ⟨b,0,none⟩ Tryz.underlying178 Tryz.underlying211 hj (by rw[hjs];decide) hsh (Nat.zero_lt_succ 1)]
 simp only[Result.andThen]
 rw[Oper.upon_value]
 go_wp2
 rw[run_callFunc_extern Tryz.func143 (by kernel_rfl) (by kernel_rfl) (by kernel_rfl) (e:=Extern.AbiNoEscape.same) (by kernel_rfl)]
 rw[Lib.run_noEscape]
 simp only[Result.andThen]
 rw[Oper.upon_value]
 go_wp2
 rw[Lib.run_from_unsafe w ⟨b,0,none⟩ Tryz.underlying211 Tryz.underlying178 hj hsh Tryz.liesBuilder]
 simp only[Result.andThen]
 rw[Oper.upon_value]
 go_wp2
 go_end0
 exact⟨rfl,rfl⟩
theorem Tryz.bCheck(B b:Nat)(bs:List Value)(w:World)(h:Lib.IsBuilder 181 5 B b bs w) :
  Calls Tryz.prog 132 #[.pointer (some ⟨b,0,none⟩)] w fun e w'=>e=.returned (.tuple #[])∧(Lib.BuilderAt 181 5 B b (.pointer (some ⟨b,0,none⟩)) bs w'∧Below B w w'):=by
 rcases h with h | h
 ·refine(Tryz.bCheck_fresh b w h.cell0 h.shape h.frozen0).mono ?_
  rintro e w' ⟨rfl,rfl⟩
  exact⟨rfl,h.used _,(Below.refl B w).setCell (p:=⟨b,0,none⟩) h.1 _⟩
 ·refine(Tryz.bCheck_used b w h.cell0).mono ?_
  rintro e w' ⟨rfl,rfl⟩
  exact⟨rfl,h,Below.refl B _⟩
set_option maxHeartbeats 2000000 in
set_option maxRecDepth 100000 in
theorem Tryz.bWrite(B b:Nat)(bs:List Value)(s:ByteArray)(w:World)(h:Lib.IsBuilder 181 5 B b bs w)(hlen:bs.length+s.size≤140737488355328)(hBw:B≤w.heap.size) :
  Calls Tryz.prog 119 #[.pointer (some ⟨b,0,none⟩),.string s] w fun e w'=>e=.returned (.tuple #[.int .i64 s.size,.nilIface])∧(Lib.BuilderAt 181 5 B b (.pointer (some ⟨b,0,none⟩)) (bs++Lib.strCells s) w'∧Below B w w'):=by
 obtain⟨i0,hi,hz0,hz1,hz2⟩:=info_parts Tryz.infoByte
 go_enter Tryz.func119,Tryz.ntmps119
 go_wp2_with (go_at_call 132;refine(Tryz.bCheck B b bs _ h).mono ?_)
 rintro e w1 ⟨rfl,h1,hb1⟩
 obtain⟨hB,v,hbk,hown,hne⟩:=h1
 have c0:w1.cell? ⟨b,0,none⟩=some (.pointer (some ⟨b,0,none⟩)):=by rw[Lib.cell_of_heap hbk];rfl
 have c1:w1.cell? ⟨b,1,none⟩=some v:=by rw[Lib.cell_of_heap hbk];rfl
 go_wp2_with (at_builtin;refine Lib.wpList_append_own_string _ rfl _ _ 179 9 rfl B 5 i0 Tryz.underlying179 Tryz.underlying9 hi hz0 hz1 hz2 _ _ _ rfl hown s rfl ?c3 ?c4 ?c5 ?_)
 case c3=>unfold maxLen;omega
 case c4=>omega
 case c5=>have:=hb1.size;omega
 intro v' w2 hown' hgrow _
 have hlt:b<w1.heap.size:=by
  rcases Nat.lt_or_ge b w1.heap.size with h' | h'
  ·exact h'
  ·simp[Array.getElem?_eq_none h']at hbk
 have hb2:w2.heap[b]? = some (.cells #[.pointer (some ⟨b,0,none⟩),v] 181 (0,0)):=by
  rw[hgrow.block b hlt (fun e=>hne e.symm)]
  exact hbk
 have d0:w2.cell? ⟨b,0,none⟩=some (.pointer (some ⟨b,0,none⟩)):=by rw[Lib.cell_of_heap hb2];rfl
 have d1:w2.cell? ⟨b,1,none⟩=some v:=by rw[Lib.cell_of_heap hb2];rfl
 have f1:w2.frozen? ⟨b,1,none⟩=false:=Lib.frozen_of_heap hb2 1
 obtain⟨ao,n',cap,rfl⟩:∃ao n' cap,v'=.slice ao n' cap:=by
  rcases hown'.2 with ⟨hv,_⟩ | ⟨g,cap,cur,hv,_⟩
  ·exact⟨_,_,_,hv⟩
  ·exact⟨_,_,_,hv⟩
 go_wp2
 go_ret2
 refine⟨rfl,?_,?_⟩
 ·exact Lib.BuilderAt.put (T:=181) (e:=5) hB hb2 (bs':=bs++Lib.strCells s) (by simpa[Lib.strCells_length]using hown') (by decide)
 ·exact(hb1.grown hgrow (by have:=hb1.size;omega) (fun k hk=>(hown.lt k hk).1)).setCell (p:=⟨b,1,none⟩) hB _
end Go.Proofs
end
namespace Go.Ab
def pieces(n:Nat):List (List UInt8):=if h:n=0 then [] else digK 9 (n%1000000000)::pieces (n/1000000000)
termination_by n
decreasing_by exact Nat.div_lt_self (Nat.pos_of_ne_zero h) (by decide)
theorem zb0:pieces 0=[]:=by unfold pieces;simp
theorem zcg{n:Nat}(h:n≠0):pieces n=digK 9 (n%1000000000)::pieces (n/1000000000):=by
 conv=>lhs;unfold pieces
 rw[dif_neg h]
def rowsS(l:List (List UInt8)):List (List AV):=l.map fun s=>[.s s]
@[simp] theorem zxe(l:List (List UInt8)):(rowsS l).length=l.length:=by simp[rowsS]
@[simp] theorem zwn(l:List (List UInt8)):wkL (rowsS l)=rowsS l:=by
 induction l with
 | nil=>rfl
 | cons x l ih=>simpa[rowsS,wkL,wkR]using ih
theorem zuf(l:List (List UInt8))(s:List UInt8):rowsS l++[[.s s]]=rowsS (l++[s]):=by simp[rowsS]
def txL:AX:=
 (.note
 (.seq
 (.seq
  (.reg [⟨(some 11),none,.mov (.t 0)⟩,
   ⟨(some 12),none,.call 70 [(.t 11)]⟩,
   ⟨(some 13),none,.un .not (.t 12)⟩])
  (.cond (.t 13)
  .skip
  (.exit 0)))
 (.block 1
  (.seq
  (.reg [⟨(some 15),none,.mov (.t 0)⟩,
   ⟨(some 16),none,.call 90 [(.t 15),(.c (u32 1000000000))]⟩,
   ⟨(some 14),none,.mov (.t 16)⟩,
   ⟨(some 17),none,.ext (.t 14) 0⟩,
   ⟨(some 18),none,.ext (.t 14) 1⟩,
   ⟨(some 19),none,.ext (.t 14) 2⟩,
   ⟨(some 4),none,.mov (.t 17)⟩,
   ⟨(some 5),none,.mov (.t 18)⟩,
   ⟨(some 6),none,.mov (.t 19)⟩])
  (.seq
   (.reg [⟨(some 20),none,.mov (.t 3)⟩,
    ⟨(some 21),none,.mov (.t 5)⟩,
    ⟨(some 22),none,.call 101 [(.t 21)]⟩,
    ⟨(some 23),none,.bsl 1 [(.s [])] 1 [(0,(.t 22))]⟩,
    ⟨(some 24),none,.app 1 (.t 20) (.t 23)⟩,
    ⟨(some 3),none,.mov (.t 24)⟩])
   (.reg [⟨(some 25),none,.mov (.t 4)⟩,
    ⟨(some 0),none,.mov (.t 25)⟩])))))
 (.norm false [0,3]))
def tx0:AX:=(.reg [⟨(some 2),none,.mov (.c (.s []))⟩])
def txA:AX:=
  (.seq
  (.reg [⟨(some 9),none,.mov (.t 0)⟩,
   ⟨(some 10),none,.call 70 [(.t 9)]⟩])
  (.cond (.t 10)
   (.seq
   (.reg [⟨(some 2),none,.mov (.c (.s [48]))⟩])
   (.pre (.norm false [2]) .ret))
   .skip))
def tx3:AX:=(.note (.reg [⟨(some 3),none,.mov (.c (.sl [] .nl))⟩]) (.nil 3 1))
def txP:AX:=(.lp 0 (.norm false [0,3]) txL (.norm false [3]))
section
variable{T:Tbl}
theorem zac4(x:AV):evX (orc T) T 0 tx0 ⟨argEnv [x],[],1⟩=some (.n,⟨[(2,.s []),(0,x)],[],1⟩):=by
 simp -implicitDefEqProofs[tx0]
end
section
variable{T:Tbl}[CNat T]
theorem z4t(a:List UInt32)(hl:a.length≤1000)(h0:val a=0):evX (orc T) T 0 txA ⟨[(2,.s []),(0,.sl (u32s a) .an)],[],1⟩=some (.r,⟨[(2,.s [48])],[],2⟩):=by
 have hz:=zdy (T:=T) a (by omega)
 simp -implicitDefEqProofs[txA,hz,h0]
end
section
variable{T:Tbl}[CNat T]
theorem z4u(a:List UInt32)(hl:a.length≤1000)(h0:val a≠0):evX (orc T) T 0 txA ⟨[(2,.s []),(0,.sl (u32s a) .an)],[],1⟩ =
  some (.n,⟨[(10,.b false),(9,.sl (u32s a) .an),(2,.s []),(0,.sl (u32s a) .an)],[],1⟩):=by
 have hz:=zdy (T:=T) a (by omega)
 simp -implicitDefEqProofs[txA,hz,h0]
end
section
variable{T:Tbl}[CNat T][CProd T][CTwos T][CQuot T][CDigits T]
def stTp(a:List UInt32)(l:List (List UInt8)):St:=⟨[(0,.sl (u32s a) .an),(3,.bs (.loc 3) 1 1 0 l.length)],[((.loc 3),⟨1,.own,1,rowsS l⟩)],3⟩
theorem zqq(l:List (List UInt8))(s:List UInt8):wkL (List.take l.length (rowsS l)++[[AV.s s]])=rowsS (l++[s]):=by
 rw[List.take_of_length_le (by simp),zuf,zwn]
end
section
variable{T:Tbl}[CNat T][CQuot T][CDigits T]
theorem zwo(N:Nat)(hN:N≤4294967295)(L:List (List UInt8)):∀y:List UInt32×List (List UInt8),(y.1.length≤1000∧y.2++pieces (val y.1)=L∧L.length=N) →
  loopN T 0 0 (Gh.norm false [3]) txL (stTp y.1 y.2)=some (.n,⟨[(3,.bs (.loc 3) 1 1 0 L.length)],[((.loc 3),⟨1,.own,1,rowsS L⟩)],3⟩):=by
 refine zbg (fun y:List UInt32×List (List UInt8)=>stTp y.1 y.2) _ (fun y=>val y.1) _ ?_
 rintro⟨a,l⟩ ⟨ha,hL,hn⟩
 simp only at ha hL hn
 have hz:=zdy (T:=T) a (by omega)
 by_cases h0:val a=0
 ·right
  rw[h0,zb0,List.append_nil]at hL
  subst hL
  constructor<;>simp -implicitDefEqProofs[txL,stTp,hz,h0]
 ·left
  have hq:=zk5 (T:=T) a 1000000000 (by omega) (by omega) (by omega)
  have hn9:=zmq (T:=T) (val a%1000000000) (by omega)
  have hlen:(ofN (val a/1000000000)).length≤a.length:=Nat.le_trans (za0 (Nat.div_le_self _ _)) (zaf a)
  rw[zcg h0]at hL
  have hll:l.length≤4294967295:=by have:=congrArg List.length hL;simp at this;omega
  refine⟨(ofN (val a/1000000000),l++[digK 9 (val a%1000000000)]),⟨by simp only;omega,by simp only[zaj,List.append_assoc,List.singleton_append];exact hL,hn⟩,?_,?_,rfl⟩
  ·simp only[zaj]
   exact Nat.div_lt_self (Nat.pos_of_ne_zero h0) (by decide)
  ·simp -implicitDefEqProofs[txL,stTp,hz,hq,hn9,h0,hll,zqq]
end
section
variable{T:Tbl}[CNat T][CProd T][CTwos T][CQuot T][CDigits T]
theorem zex:∀k n,n<1000000000^k→(pieces n).length≤k
 | 0,n,h=>by
  have:n=0:=by omega
  subst this
  simp[zb0]
 | k+1,n,h=>by
  by_cases h0:n=0
  ·subst h0;simp[zb0]
  ·rw[zcg h0]
   have:=zex k (n/1000000000) (Nat.div_lt_of_lt_mul (by rw[Nat.mul_comm,←Nat.pow_succ];exact h))
   simp only[List.length_cons]
   omega
theorem zlq(a:List UInt32):(pieces (val a)).length≤2*a.length:=by
 refine zex _ _ (Nat.lt_of_lt_of_le (za2 a) ?_)
 rw[Nat.pow_mul]
 exact Nat.pow_le_pow_left (by decide) _
theorem zm8:∀n,∀s∈pieces n,s.length=9:=by
 intro n
 induction n using Nat.strongRecOn with
 | _ n ih=>
  intro s hs
  by_cases h0:n=0
  ·subst h0;simp[zb0]at hs
  ·rw[zcg h0]at hs
   rcases List.mem_cons.1 hs with rfl | hs
   ·exact zea 9 _
   ·exact ih _ (Nat.div_lt_self (Nat.pos_of_ne_zero h0) (by decide)) s hs
theorem zik:∀(k n:Nat),n≠0→n<10^k→(digK k n).dropWhile (· == 48)=textN n
 | 0,n,h0,h=>by omega
 | k+1,n,h0,h=>by
  rw[zdr]
  by_cases h1:n<10
  ·have e:n/10=0:=by omega
   have e2:n%10=n:=by omega
   have hz:∀j,(digK j 0).dropWhile (· == 48)=[]:=by
    intro j
    induction j with
    | zero=>rfl
    | succ j ih=>rw[zdr,List.dropWhile_append,Nat.zero_div,ih];rfl
   rw[e,e2,List.dropWhile_append,hz,zd9 h1]
   have:∀d,d<10→d≠0→List.dropWhile (fun x=>x == 48) [UInt8.ofNat (48+d)]=[UInt8.ofNat (48+d)]:=by decide
   simpa using this n h1 h0
  ·have ih:=zik k (n/10) (by omega) (Nat.div_lt_of_lt_mul (by rw[Nat.mul_comm,←Nat.pow_succ];exact h))
   have hne:textN (n/10)≠[]:=by
    unfold textN
    by_cases h2:n/10<10
    ·rw[zig h2];simp
    ·rw[zoc h2];simp
   rw[List.dropWhile_append,ih,zle h1]
   rw[if_neg (by simpa using hne)]
theorem zok(j:Nat):∀(k n:Nat),digK (j+k) n=digK j (n/10^k)++digK k (n%10^k)
 | 0,n=>by simp[zg6]
 | k+1,n=>by
  rw[←Nat.add_assoc,zdr,zok j k (n/10),zdr,List.append_assoc]
  have e1:n/10/10^k=n/10^(k+1):=by rw[Nat.div_div_eq_div_mul,Nat.pow_succ,Nat.mul_comm]
  have e2:n/10%10^k=n%10^(k+1)/10:=by rw[Nat.pow_succ,Nat.mul_comm,Nat.mod_mul_right_div_self]
  have e3:n%10^(k+1)%10=n%10:=by rw[Nat.pow_succ,Nat.mod_mul_left_mod]
  rw[e1,e2,e3]
theorem zm9:∀n,(pieces n).reverse.flatten=digK (9*(pieces n).length) n:=by
 intro n
 induction n using Nat.strongRecOn with
 | _ n ih=>
  by_cases h0:n=0
  ·subst h0;simp[zb0,zg6]
  ·rw[zcg h0,List.reverse_cons,List.flatten_append,ih _ (Nat.div_lt_self (Nat.pos_of_ne_zero h0) (by decide))]
   simp only[List.length_cons,List.flatten_cons,List.flatten_nil,List.append_nil]
   rw[show 9*((pieces (n/1000000000)).length+1)=9*(pieces (n/1000000000)).length+9 by omega,zok]
theorem zug:∀n,n<10^(9*(pieces n).length):=by
 intro n
 induction n using Nat.strongRecOn with
 | _ n ih=>
  by_cases h0:n=0
  ·subst h0;simp[zb0]
  ·have h:=ih _ (Nat.div_lt_self (Nat.pos_of_ne_zero h0) (by decide:1<1000000000))
   rw[zcg h0,List.length_cons,Nat.mul_add,Nat.pow_add]
   exact(Nat.div_lt_iff_lt_mul (by decide:0<10^(9*1))).1 h
theorem zna(n:Nat)(h:n≠0):((pieces n).reverse.flatten).dropWhile (· == 48)=textN n:=by
 rw[zm9]
 exact zik _ n h (zug n)
theorem zcv:∀(l:List (List UInt8)),(∀s∈l,s.length=9)→l.flatten.length=9*l.length
 | [],_=>rfl
 | s::l,h=>by
  rw[List.flatten_cons,List.length_append,h s List.mem_cons_self,zcv l fun s hs=>h s (List.mem_cons_of_mem _ hs),List.length_cons]
  omega
def stT3(a:List UInt32):St:=⟨[(3,.bs (.loc 3) 1 1 0 0),(3,.sl [] .nl),(10,.b false),(9,.sl (u32s a) .an),(2,.s []),(0,.sl (u32s a) .an)],[(.loc 3,⟨1,.own,1,[]⟩)],2⟩
end
section
variable{T:Tbl}
theorem zac5(a:List UInt32):evX (orc T) T 0 tx3 ⟨[(10,.b false),(9,.sl (u32s a) .an),(2,.s []),(0,.sl (u32s a) .an)],[],1⟩=some (.n,stT3 a):=by
 simp -implicitDefEqProofs[tx3,stT3]
end
section
variable{T:Tbl}[CNat T][CQuot T][CDigits T]
theorem zac6(a:List UInt32)(hl:a.length≤1000):evX (orc T) T 0 txP (stT3 a) =
  some (.n,⟨[(3,.bs (.loc 3) 1 1 0 (pieces (val a)).length)],[((.loc 3),⟨1,.own,1,rowsS (pieces (val a))⟩)],3⟩):=by
 have hp:=zlq a
 have h:=zwo (T:=T) (pieces (val a)).length (by omega) (pieces (val a)) (a,[]) ⟨by simpa using hl,rfl,rfl⟩
 unfold stTp at h
 simp[rowsS]at h
 simp -implicitDefEqProofs[stT3,txP,h,rowsS]
end
section
variable{T:Tbl}
theorem zqb(res:List UInt8):∀l:List UInt8,(l.length≤1000000∧l.dropWhile (· == 48)=res) →
  loopN T 0 0 (.norm false [0]) l125_0 ⟨[(0,.s l),(1,u8 48)],[],2⟩=some (.n,⟨[(0,.s res)],[],2⟩):=by
 refine zbg (fun l:List UInt8=>⟨[(0,.s l),(1,u8 48)],[],2⟩) _ (fun l=>l.length) _ ?_
 rintro l ⟨hl,hr⟩
 cases l with
 | nil=>
  right
  simp at hr
  subst hr
  constructor<;>simp -implicitDefEqProofs[l125_0]
 | cons c r=>
  simp only[List.length_cons]at hl
  have h2:(0:Int)<(r.length:Int)+1:=by omega
  have h3:(1:Int)≤(r.length:Int)+1:=by omega
  by_cases hc:c=48
  ·left
   subst hc
   rw[List.dropWhile_cons_of_pos (by decide)]at hr
   exact⟨r,⟨by omega,hr⟩,Nat.lt_succ_self _,by simp -implicitDefEqProofs[l125_0,h2,h3],rfl⟩
  ·right
   rw[List.dropWhile_cons_of_neg (by simpa using hc)]at hr
   subst hr
   have hc':¬ c.toNat=48:=fun h=>hc (UInt8.toNat_inj.1 h)
   constructor<;>simp -implicitDefEqProofs[l125_0,h2,hc']
end
section
variable{T:Tbl}[CTrim T]
theorem zts(l:List UInt8)(hl:l.length≤1000000):callF T 103 [.s l,.s [48]]=some (.s (l.dropWhile (· == 48))):=by
 have h:=zqb (T:=T) _ l ⟨hl,rfl⟩
 have h1:callF T 125 [.s l,u8 48]=some (.s (l.dropWhile (· == 48))):=by
  rw[f125 _ rfl,b125]
  simp -implicitDefEqProofs[h]
 obtain⟨Z,hZ⟩:∃Z,b103=(.seq
 (.reg [⟨(some 4),none,.mov (.c (.s []))⟩])
 (.seq
  (.seq
  (.reg [⟨(some 7),none,.mov (.t 0)⟩,
   ⟨(some 8),none,.bin .eql (.t 7) (.c (.s []))⟩,
   ⟨(some 9),none,.mov (.t 8)⟩,
   ⟨(some 10),(some (9,false)),.mov (.t 1)⟩,
   ⟨(some 11),(some (9,false)),.bin .eql (.t 10) (.c (.s []))⟩,
   ⟨(some 12),none,.pick (.t 9) (.c (.b true)) (.t 11)⟩])
  (.cond (.t 12)
   (.seq
   (.reg [⟨(some 13),none,.mov (.t 0)⟩,
    ⟨(some 4),none,.mov (.t 13)⟩])
   (.pre (.norm false [4]) .ret))
   .skip))
  (.seq
  (.seq
   (.reg [⟨(some 14),none,.mov (.t 1)⟩,
    ⟨(some 15),none,.lens (.t 14)⟩,
    ⟨(some 16),none,.bin .eql (.t 15) (.c (.i .i64 1))⟩,
    ⟨(some 17),none,.mov (.t 16)⟩,
    ⟨(some 18),(some (17,true)),.mov (.t 1)⟩,
    ⟨(some 19),(some (17,true)),.ixs (.t 18) (.c (.i .i64 0))⟩,
    ⟨(some 20),(some (17,true)),.bin .lss (.t 19) (.c (u8 128))⟩,
    ⟨(some 21),none,.pick (.t 17) (.t 20) (.c (.b false))⟩])
   (.cond (.t 21)
   (.seq
    (.reg [⟨(some 22),none,.mov (.t 0)⟩,
     ⟨(some 23),none,.mov (.t 1)⟩,
     ⟨(some 24),none,.ixs (.t 23) (.c (.i .i64 0))⟩,
     ⟨(some 25),none,.call 125 [(.t 22),(.t 24)]⟩,
     ⟨(some 4),none,.mov (.t 25)⟩])
    (.pre (.norm false [4]) .ret))
   .skip)) Z)):AX):=⟨_,rfl⟩
 rw[f103 _ rfl,hZ]
 by_cases h0:l=[]
 ·subst h0
  simp -implicitDefEqProofs
 ·simp -implicitDefEqProofs[h0,h1]
end
section
variable{P:Program}{ν:Nat→FuncId}{T:Tbl}
theorem zsr(hT:TOk P ν T)(hm:P.follows .mixedOrders=true){cx:Cx}(hP:cx.P=P)(hk:cx.clk0=1)(c:AX){code:Code}{nt:Nat}(hnt:cx.nt=nt)(hres:resCode P nt code=some (er ν (tyNum T) c)){st:St}{e:Ex}{st':St}
  (h:evX (orc T) T 0 c st=some (e,st')) {a:Act} {w:World} (hr:Rel cx st a w) {K:Exit→Act→World→Prop} (hK:∀a' w',Rel cx st' a' w'→K e.out a' w'):code.wp P K a w:=by
 obtain⟨L,h1,h2⟩:=zbw T 0 c st _ _ h
 obtain⟨n,hn⟩:=zmi T h1
 have hev:=zas (GoodO.orcN hT hm n) (k:=0) (cx:=cx) hP hk c st e st' (h2 _ hn)
 subst hP hnt
 refine wp_mono (hev code hres hm a w hr) ?_
 rintro ex a' w' ⟨s,⟨rfl,rfl⟩,hr'⟩
 exact hK a' w' hr'
theorem zss{nt:Nat}{w:World}{S:Nat→Nat→Prop}{cargs:Array Value}{args:List AV}(hl:cargs.size=args.length)(hn:args.length≤nt)
  (hC:∀(j:Nat) (v:Value) (c:AV),cargs[j]? = some v→args[j]? = some c→CP w S v c) (hS:∀k o,S k o→k<w.heap.size) :
  Rel ⟨P,nt,w,S,fun _=>none,1⟩ ⟨argEnv args,[],1⟩ { tmps:=cargs++Array.replicate (nt-cargs.size) undef,defers:=[] } w:=by
 refine⟨S,fun _=>none,by simp;omega,rfl,fun t=>?_,⟨⟨fun b bx hb=>(by simp at hb),fun g m hm=>(by cases hm),fun b bx b' bx' h1=>(by simp at h1),fun g g' k h1=>(by cases h1)⟩,
  Ext.refl _ _ _ _,⟨rfl,rfl,rfl,Nat.le_refl _,fun _ _ _=>rfl⟩,fun k o hs=>.inl hs,hS,fun g k hm=>(by cases hm)⟩⟩
 rw[zhv]
 cases ha:args[t]? with
 | none=>exact .p (.dead _)
 | some x=>
  have htl:=zbh ha
  have hv:cargs[t]? = some (cargs[t]'(by omega)):=Array.getElem?_eq_getElem _
  have e1:(cargs++Array.replicate (nt-cargs.size) undef).getD t undef=cargs[t]'(by omega):=by
   simp only[Array.getD_eq_getD_getElem?]
   rw[Array.getElem?_append_left (by omega),hv]
   rfl
  rw[e1]
  exact .p (hC t _ x hv ha)
theorem Rel.below{nt:Nat}{w0:World}{S:Nat→Nat→Prop}{st:St}{a:Act}{w:World}(h:Rel ⟨P,nt,w0,S,fun _=>none,1⟩ st a w):RowKit.Below w0.heap.size w0 w:=by
 obtain⟨S',M',hr⟩:=h
 exact⟨hr.wr.fr.os,hr.wr.fr.tape,hr.wr.fr.output,hr.wr.fr.size,fun k hk=>hr.wr.fr.block k hk fun⟨g,hg⟩=>(by cases hg)⟩
theorem Rel.strAt{cx:Cx}{st:St}{a:Act}{w:World}(h:Rel cx st a w){t:Nat}{l:List UInt8}(he:st.env.get t=.s l):a.tmps.getD t undef=.string ⟨l.toArray⟩:=by
 obtain⟨S',M',hr⟩:=h
 have:=hr.env t
 rw[he]at this
 generalize a.tmps.getD t undef=v at *
 cases this with
 | p h=>cases h;rfl
theorem Rel.strs{cx:Cx}{st:St}{a:Act}{w:World}(h:Rel cx st a w){t:Nat}{b:BId}{g n:Nat}{ls:List (List UInt8)}(hne:ls≠[])(he:st.env.get t=.bs b g 1 0 n)
  (hb:st.heap.lookup b=some ⟨g,.own,1,ls.map fun s=>[.s s]⟩):∃k arr e cap,a.tmps.getD t undef=.slice (some ⟨k,0,none⟩) n cap∧w.heap[k]? = some (.cells arr e (0,0))∧n≤cap∧cap≤maxLen∧cap≤arr.size ∧
   ∀(i:Nat) (s:List UInt8),ls[i]? = some s→arr[i]? = some (Value.string ⟨s.toArray⟩):=by
 obtain⟨S',M',hr⟩:=h
 have h1:=hr.env t
 rw[he]at h1
 obtain⟨_,_,m,hm,h2⟩:=hr.wr.heap.box b _ hb
 simp only at hm h2
 generalize a.tmps.getD t undef=v at *
 cases h1 with
 | p h=>cases h
 | bs _ _ _ _ _ _ hg hB h1=>
  unfold BsOk at hB
  rw[hm]at hB
  cases m with
  | none=>exact absurd (by simpa using h2.1) hne
  | some k=>
   obtain⟨arr,e,cap,hk,hv,c1,c2,c3⟩:=hB
   obtain⟨arr',e',hk',_,hcells,_⟩:=h2
   rw[hk]at hk'
   cases hk'
   refine⟨k,arr,e,cap,by rw[hv],hk,c1,c2,by omega,fun i s hi=>?_⟩
   obtain⟨u,hu,_,_,hc⟩:=hcells i [.s s] 0 (.s s) (by simp[hi]) rfl
   have:=hc (by simp)
   rw[Nat.mul_one,Nat.add_zero]at hu
   cases this
   exact hu
end
end Go.Ab
section
namespace Go.Proofs.YtfgfjicelfagcaaGreatDoor
open Go Go.Ab Go.RowKit
theorem list_cons{α:Type}{n:Nat}{l:List α}(h:l.length=n+1):∃x t,l=x::t∧t.length=n:=by
 cases l with
 | nil=>simp at h
 | cons x t=>exact⟨x,t,rfl,by simpa using h⟩
set_option maxHeartbeats 2000000 in
set_option maxRecDepth 100000 in
theorem text_calls(hm:Tryz.prog.follows .mixedOrders=true)(a:List UInt32)(hl:a.length≤1000){w0:World}{S:Nat→Nat→Prop}{cargs:Array Value}(hsz:cargs.size=1)
  (hC:∀(j:Nat) (v:Value) (c:AV),cargs[j]? = some v→[AV.sl (u32s a) .an][j]? = some c→CP w0 S v c) (hS:∀k o,S k o→k<w0.heap.size) :
  Calls Tryz.prog 93 cargs w0 fun e w'=>e=.returned (.string ⟨(textN (val a)).toArray⟩)∧Below w0.heap.size w0 w':=by
 refine calls_of_wp Tryz.func93 rfl ?_
 have h0:=zss (P:=Tryz.prog) (nt:=40) (w:=w0) (S:=S) (cargs:=cargs) (args:=[AV.sl (u32s a) .an]) (by simpa using hsz) (by simp) hC hS
 refine wp_seq (zsr sTab_ok hm (cx:=⟨Tryz.prog,40,w0,S,fun _=>none,1⟩) rfl rfl tx0 (nt:=40) rfl (by kernel_rfl) (sTab_part.ev (by kernel_rfl) (zac4 (T:=tab) _)) h0 fun a1 w1 h1=>?_)
 refine wp_seq ?_
 by_cases hz:val a=0
 ·refine zsr sTab_ok hm (cx:=⟨Tryz.prog,40,w0,S,fun _=>none,1⟩) rfl rfl txA (nt:=40) rfl (by kernel_rfl) (sTab_part.ev (by kernel_rfl) (z4t (T:=tab) a hl hz)) h1 fun a2 w2 h2=>?_
  have hv:=h2.strAt (t:=2) (l:=[48]) rfl
  have hb:=h2.below
  have ht:textN (val a)=[48]:=by rw[hz];exact zd9 (by decide)
  obtain⟨_,_,hr2⟩:=h2
  refine(show bodyPost Tryz.prog Tryz.f93 (fun e w'=>e=.returned (.string ⟨(textN (val a)).toArray⟩)∧Below w0.heap.size w0 w') .ret a2 w2 from ?_)
  refine⟨hr2.defers,.string ⟨[48].toArray⟩,?_,by rw[ht],hb⟩
  rw[←hv]
  exact results_tmp rfl _ _ _
 ·refine zsr sTab_ok hm (cx:=⟨Tryz.prog,40,w0,S,fun _=>none,1⟩) rfl rfl txA (nt:=40) rfl (by kernel_rfl) (sTab_part.ev (by kernel_rfl) (z4u (T:=tab) a hl hz)) h1 fun a2 w2 h2=>?_
  refine wp_seq (zsr sTab_ok hm (cx:=⟨Tryz.prog,40,w0,S,fun _=>none,1⟩) rfl rfl tx3 (nt:=40) rfl (by kernel_rfl) (sTab_part.ev (by kernel_rfl) (zac5 (T:=tab) a)) h2 fun a3 w3 h3=>?_)
  refine wp_seq (zsr sTab_ok hm (cx:=⟨Tryz.prog,40,w0,S,fun _=>none,1⟩) rfl rfl txP (nt:=40) rfl (by kernel_rfl) (sTab_part.ev (by kernel_rfl) (zac6 (T:=tab) a hl)) h3 fun a4 w4 h4=>?_)
  have hb4:=h4.below
  have hne:pieces (val a)≠[]:=by rw[zcg hz];simp
  obtain⟨k,arr,e,cap,hv,hk,hc1,hc2,hc3,hcells⟩:=h4.strs (t:=3) (ls:=pieces (val a)) hne rfl (by simp[rowsS])
  obtain⟨_,_,hr4⟩:=h4
  have hdf:=hr4.defers
  have hsz:=hr4.size
  have hpl:=zlq a
  clear hr4 h0 h1 h2 h3
  change Code.wp _ _ _ a4 w4
  obtain⟨tm,df⟩:=a4
  obtain⟨l,rfl⟩:∃l:List Value,tm=l.toArray:=⟨tm.toList,by simp⟩
  simp only[List.size_toArray]at hsz
  simp only at hdf
  subst hdf
  obtain⟨x0,l0,rfl,s0⟩:=list_cons hsz
  obtain⟨x1,l1,rfl,s1⟩:=list_cons s0
  obtain⟨x2,l2,rfl,s2⟩:=list_cons s1
  obtain⟨x3,l3,rfl,s3⟩:=list_cons s2
  obtain⟨x4,l4,rfl,s4⟩:=list_cons s3
  obtain⟨x5,l5,rfl,s5⟩:=list_cons s4
  obtain⟨x6,l6,rfl,s6⟩:=list_cons s5
  obtain⟨x7,l7,rfl,s7⟩:=list_cons s6
  obtain⟨x8,l8,rfl,s8⟩:=list_cons s7
  obtain⟨x9,l9,rfl,s9⟩:=list_cons s8
  obtain⟨x10,l10,rfl,s10⟩:=list_cons s9
  obtain⟨x11,l11,rfl,s11⟩:=list_cons s10
  obtain⟨x12,l12,rfl,s12⟩:=list_cons s11
  obtain⟨x13,l13,rfl,s13⟩:=list_cons s12
  obtain⟨x14,l14,rfl,s14⟩:=list_cons s13
  obtain⟨x15,l15,rfl,s15⟩:=list_cons s14
  obtain⟨x16,l16,rfl,s16⟩:=list_cons s15
  obtain⟨x17,l17,rfl,s17⟩:=list_cons s16
  obtain⟨x18,l18,rfl,s18⟩:=list_cons s17
  obtain⟨x19,l19,rfl,s19⟩:=list_cons s18
  obtain⟨x20,l20,rfl,s20⟩:=list_cons s19
  obtain⟨x21,l21,rfl,s21⟩:=list_cons s20
  obtain⟨x22,l22,rfl,s22⟩:=list_cons s21
  obtain⟨x23,l23,rfl,s23⟩:=list_cons s22
  obtain⟨x24,l24,rfl,s24⟩:=list_cons s23
  obtain⟨x25,l25,rfl,s25⟩:=list_cons s24
  obtain⟨x26,l26,rfl,s26⟩:=list_cons s25
  obtain⟨x27,l27,rfl,s27⟩:=list_cons s26
  obtain⟨x28,l28,rfl,s28⟩:=list_cons s27
  obtain⟨x29,l29,rfl,s29⟩:=list_cons s28
  obtain⟨x30,l30,rfl,s30⟩:=list_cons s29
  obtain⟨x31,l31,rfl,s31⟩:=list_cons s30
  obtain⟨x32,l32,rfl,s32⟩:=list_cons s31
  obtain⟨x33,l33,rfl,s33⟩:=list_cons s32
  obtain⟨x34,l34,rfl,s34⟩:=list_cons s33
  obtain⟨x35,l35,rfl,s35⟩:=list_cons s34
  obtain⟨x36,l36,rfl,s36⟩:=list_cons s35
  obtain⟨x37,l37,rfl,s37⟩:=list_cons s36
  obtain⟨x38,l38,rfl,s38⟩:=list_cons s37
  obtain⟨x39,l39,rfl,s39⟩:=list_cons s38
  cases List.eq_nil_of_length_eq_zero s39
  have hx3:x3=.slice (some ⟨k,0,none⟩) (pieces (val a)).length cap:=hv
  subst hx3
  have hjoin:=zna (val a) hz
  have hall:=zm8 (val a)
  generalize pieces (val a)=ps at *
  have HC:Aside (∀(i:Nat) (s:List UInt8),ps[i]? = some s→arr[i]? = some (Value.string ⟨s.toArray⟩)):=hcells
  have HJ:Aside (List.dropWhile (fun x=>x == 48) ps.reverse.flatten=textN (val a)):=hjoin
  have HN:Aside (∀s∈ps,s.length=9):=hall
  have HB:Aside (Below w0.heap.size w0 w4):=hb4
  have HK:Aside (w4.heap[k]? = some (.cells arr e (0,0))):=hk
  have hk4:k<w4.heap.size:=by
   rcases Nat.lt_or_ge k w4.heap.size with h' | h'
   ·exact h'
   ·simp[Array.getElem?_eq_none h']at hk
  clear hcells hjoin hall hb4 hk
  go_wp2
  go_loopg [8] ps.length (fun g s8 wx=>s8=.int .i64 ((g:Int)-1)∧g≤ps.length∧Aside (Lib.IsBuilder 181 5 w4.heap.size w4.heap.size (Lib.byteCells (ps.drop g).reverse.flatten) wx∧Below w4.heap.size w4 wx))
  case atStart=>exact⟨rfl,Nat.le_refl _,by rw[List.drop_length];exact Lib.fresh_isBuilder 181 5 w4,(Below.refl _ _).alloc (Nat.le_refl _) _⟩
  case round=>
   obtain⟨rfl,hg,HW⟩:=hrel
   cases gk with
   | zero=>
    obtain⟨hBld,hBel⟩:=HW.out
    rw[List.drop_zero]at hBld
    have hne':ps.reverse.flatten≠[]:=by
     intro h
     have:=zcv ps.reverse (fun s hs=>HN.out s (List.mem_reverse.1 hs))
     rw[h]at this
     simp at this
     exact hne (List.eq_nil_of_length_eq_zero (by omega))
    have HT:Aside (ps.reverse.flatten≠[]):=hne'
    clear hne'
    have hlenF:ps.reverse.flatten.length≤1000000:=by
     rw[zcv ps.reverse (fun s hs=>HN.out s (List.mem_reverse.1 hs)),List.length_reverse]
     omega
    have hT:∀W:World,Calls Tryz.prog 120 #[.string ⟨ps.reverse.flatten.toArray⟩,.string ⟨#[48]⟩] W fun e w'=>e=.returned (.string ⟨(textN (val a)).toArray⟩)∧Below W.heap.size W w':=by
     intro W
     have h1:=zgq sTab_ok hm (u:=103) rfl rfl (sTab_part.call (by kernel_rfl) (zts (T:=tab) ps.reverse.flatten hlenF))
     rw[HJ.out]at h1
     refine(h1.2 W (fun _ _=>False) #[.string ⟨ps.reverse.flatten.toArray⟩,.string ⟨#[48]⟩] rfl (fun j v c hv hc=>?_) (fun _ _ h=>h.elim)).mono ?_
     ·match j,hv,hc with
      | 0,hv,hc=>cases hv;cases hc;exact .s _
      | 1,hv,hc=>cases hv;cases hc;exact .s _
     ·rintro e w' ⟨v,r,rfl,rfl,hb,hc⟩
      cases hc
      exact⟨rfl,hb⟩
    have HTT:=hT
    clear hT
    go_wp2_with (go_at_call 121;refine(Tryz.bString w4.heap.size w4.heap.size ps.reverse.flatten wr hBld HT.out).mono ?_)
    rintro e1 w5 ⟨rfl,hb5⟩
    go_wp2_with (go_at_call 120;refine(HTT w5).mono ?_)
    rintro e2 w6 ⟨rfl,hb6⟩
    go_wp2
    go_ret
    refine⟨rfl,?_⟩
    have hs1:=HB.out.size
    have hs5:=(hBel.trans hb5).size
    exact HB.out.trans (((hBel.trans hb5).mono hs1).trans (hb6.mono (by omega)))
   | succ j=>
    obtain⟨hBld,hBel⟩:=HW.out
    obtain⟨s,hs⟩:∃s,ps[j]? = some s:=⟨_,List.getElem?_eq_getElem (by omega)⟩
    have hcell:wr.cell? ⟨k,j,none⟩=some (.string ⟨s.toArray⟩):=by
     rw[hBel.cell (p:=⟨k,j,none⟩) hk4,Lib.cell_of_heap HK.out]
     exact HC.out j s hs
    have hs9:s.length=9:=HN.out s (List.mem_of_getElem? hs)
    have hflen:=zcv (ps.drop (j+1)).reverse (fun s hs=>HN.out s (List.mem_of_mem_drop (List.mem_reverse.1 hs)))
    have HS:Aside (ps[j]? = some s):=hs
    clear hs
    rw[List.length_reverse,List.length_drop]at hflen
    have hbound:(Lib.byteCells (ps.drop (j+1)).reverse.flatten).length+(⟨s.toArray⟩:ByteArray).size≤140737488355328:=by
     rw[Lib.byteCells_length,hflen]
     show _+s.toArray.size≤_
     simp only[List.size_toArray]
     omega
    have HF:Aside ((Lib.byteCells (ps.drop (j+1)).reverse.flatten).length+(⟨s.toArray⟩:ByteArray).size≤140737488355328):=hbound
    clear hflen hbound
    go_wp2_with (go_at_call 119;refine(Tryz.bWrite w4.heap.size w4.heap.size _ ⟨s.toArray⟩ wr hBld HF.out hBel.size).mono ?_)
    rintro e1 w5 ⟨rfl,h5,hb5⟩
    go_wp2
    go_roundg j
    case measure=>omega
    case rel=>
     refine⟨by congr 1,by omega,?_,hBel.trans hb5⟩
     have e1:(ps.drop j).reverse.flatten=(ps.drop (j+1)).reverse.flatten++s:=by
      obtain⟨hj,he⟩:=List.getElem?_eq_some_iff.1 HS.out
      rw[List.drop_eq_getElem_cons hj,he]
      simp
     rw[e1,Lib.byteCells_append]
     exact .inr h5
theorem word_rows:∀(els:List (List AV)) (l:List UInt32),els.mapM wordOf=some l→els=u32s l
 | [],l,h=>by cases h;rfl
 | r::els,l,h=>by
  rw[List.mapM_cons]at h
  obtain⟨x,hx,h1⟩:=bind_some h
  obtain⟨y,hy,h2⟩:=bind_some h1
  cases h2
  rw[word_rows els y hy]
  unfold wordOf at hx
  split at hx
  ·split at hx
   ·cases hx
    rename_i n hn
    have:(w32 n.toNat).toNat=n.toNat:=zae (by omega)
    simp only[u32s,List.map_cons,this,u32]
    rw[Int.toNat_of_nonneg hn.1]
   ·cases hx
  ·cases hx
theorem text_ok(hm:Tryz.prog.follows .mixedOrders=true):∀xs r,prim68 xs=some r→PCall Tryz.prog (nu 68) xs (·=r):=by
 intro xs r h
 unfold prim68 at h
 split at h
 ·split at h
  ·rename_i els hl
   cases hw:els.mapM wordOf with
   | none=>rw[hw]at h;cases h
   | some l=>
    rw[hw]at h
    cases h
    have he:=word_rows els l hw
    subst he
    rw[zgr]at hl
    refine⟨enters_of Tryz.func93 (by kernel_rfl) rfl,fun w S cargs hsz hC hS=>?_⟩
    refine(text_calls hm l hl (by simpa using hsz) hC hS).mono ?_
    rintro e w' ⟨rfl,hb⟩
    exact⟨_,_,rfl,rfl,hb,.s _⟩
  ·cases h
 ·cases h
#print axioms text_ok
end Go.Proofs.YtfgfjicelfagcaaGreatDoor
end
namespace Go.Ab
section
open Go.ChangeShapes Go.WideShapes Go.ChangeAt Go.RowKit
theorem ziq{H:Type}{enc:TypeId×Value→H}{P:Program}{f:Func}{s:ChangeSpec}{apart fresh handsOn again:Bool}{W W':World}{args:Array Value}{v:Value}{ds gs:List (DataW H)}{before pa pv:List MemPlace}
  (hW:DataW.Whole enc P f.params.toList s.vars apart W args.toList ds gs before)
  (hres:∀(b:Nat) (sp:Nat→Bool) (hd:Bool),DataW.TrodAll enc P W' b sp hd f.resultTypes.toList (v.resultList f.resultTypes.size) (s.fn H (ds++gs)).results [])
  (hargs:∀sp:Nat→Bool,(∀p∈before,sp p.block=true)→DataW.TrodAll enc P W' 0 sp true f.params.toList args.toList (s.fn H (ds++gs)).args pa)
  (hvars:∀sp:Nat→Bool,(∀p∈before,sp p.block=true)→DataW.TrodVars enc P W' sp s.vars (s.fn H (ds++gs)).vars pv)
  (hps:before=pa++pv) (hw:Below W.heap.size W W')
  (hok:∀(j:Nat) (t:TypeId) (r:Value),f.resultTypes[j]? = some t→(v.resultList f.resultTypes.size)[j]? = some r→Value.okWide P W' .any 0 t r) :
  s.post enc P f apart fresh handsOn again W args v W':=by
 have hold:∀p∈before,(fun b=>decide (b<W.heap.size)) p.block=true:=fun p hp=>by simpa using hW.lt p hp
 have hlt:∀p∈before,p.block<W.heap.size:=fun p hp=>hW.lt p hp
 refine⟨ds,gs,before,[],pa,pv,hW,hres _ _ _,hargs _ hold,hvars _ hold,World.keptBut_mono (fun p hp=>⟨hp,?_⟩) (hw.frame (·∈before)),fun _=>?_⟩
 ·grind
 ·obtain⟨_,_,_,_,_,hz,hn⟩:=hW
  refine⟨hok,_,_,([]++pa)++pv,⟨[]++pa,pv,trodAll_append (hargs _ (fun _ _=>rfl)) (hres _ _ _),hvars _ (fun _ _=>rfl),rfl,?_,?_⟩,?_⟩
  ·intro b off hp
   have hp':MemPlace.cell b off∈before:=by grind
   rw[hw.frozen (p:=⟨b,off,none⟩) (hlt _ hp')]
   exact hz b off hp'
  all_goals grind
end
section
open Go.ChangeShapes Go.WideShapes Go.ChangeAt Go.RowKit
inductive Ty where
 | int (k:IntKind)
 | bool
 | str
 | sl (r:Ty)
 | nil
 | cons (a:Ty) (r:Ty)
def Ty.z:Ty→Nat
 | .nil=>0
 | .cons a r=>a.z+r.z
 | _=>1
def Ok:Ty→List AV→Prop
 | .int k,cs=>∃n,cs=[.i k n]∧(Lit.int k n).wf=true
 | .bool,cs=>∃b,cs=[.b b]
 | .str,cs=>∃l,cs=[.s l]∧l.length≤maxLen
 | .sl r,cs=>∃els f,cs=[.sl els f]∧els.length≤maxLen∧(f=.nl∧els=[]∨f=.so)∧∀row∈els,Ok r row
 | .nil,cs=>cs=[]
 | .cons a r,cs=>∃c1 c2,cs=c1++c2∧Ok a c1∧Ok r c2
theorem Ok.len:∀{ty:Ty} {cs:List AV},Ok ty cs→cs.length=ty.z
 | .int _,_,⟨_,h,_⟩=>by rw[h];rfl
 | .bool,_,⟨_,h⟩=>by rw[h];rfl
 | .str,_,⟨_,h,_⟩=>by rw[h];rfl
 | .sl _,_,⟨_,_,h,_⟩=>by rw[h];rfl
 | .nil,_,h=>by rw[show _=[] from h];rfl
 | .cons _ _,_,⟨_,_,h,h1,h2⟩=>by rw[h,List.length_append,h1.len,h2.len];rfl
def RowC(w:World)(S:Nat→Nat→Prop)(cs:List Value)(xs:List AV):Prop:=
 xs.length=cs.length∧∀(j:Nat) (v:Value) (c:AV),cs[j]? = some v→xs[j]? = some c→CP w S v c∧v.oneCell'=true
section
variable{H:Type}{enc:TypeId×Value→H}{P:Program}{w:World}{base:Nat}{held:Bool}{S:Nat→Nat→Prop}
theorem RowC.nil:RowC w S [] []:=⟨rfl,fun j v c h=>by grind⟩
theorem RowC.one{v:Value}{c:AV}(h:CP w S v c)(h1:v.oneCell'=true):RowC w S [v] [c]:=by
 refine⟨rfl,fun j v' c' hv hc=>?_⟩
 grind
theorem RowC.append{cs cs':List Value}{xs xs':List AV}(h:RowC w S cs xs)(h':RowC w S cs' xs'):RowC w S (cs++cs') (xs++xs'):=by
 refine⟨by rw[List.length_append,List.length_append,h.1,h'.1],fun j v c hv hc=>?_⟩
 by_cases hj:j<cs.length
 ·rw[List.getElem?_append_left hj]at hv
  rw[List.getElem?_append_left (by rw[h.1];omega)]at hc
  exact h.2 j v c hv hc
 ·rw[List.getElem?_append_right (by omega)]at hv
  rw[List.getElem?_append_right (by rw[h.1];omega),h.1]at hc
  exact h'.2 _ v c hv hc
def fieldsTy(P:Program)(g:TypeId→Option Ty)(tot:Nat):Nat→List Field→Option Ty
 | off,[]=>if off=tot then some .nil else none
 | off,f::fs=>(g f.type).bind fun a=>if f.offset=off∧a.z=P.cellsOf f.type then (fieldsTy P g tot (off+a.z) fs).map (.cons a) else none
def repTy:Nat→Ty→Ty
 | 0,_=>.nil
 | n+1,a=>.cons a (repTy n a)
def tyOf(P:Program):Nat→TypeId→Option Ty
 | 0,_=>none
 | n+1,t=>
  match P.underlying t with
  | some .bool=>some .bool
  | some (.int k)=>some (.int k)
  | some .string=>some .str
  | some (.slice e)=>(tyOf P n e).bind fun r=>if r.z=P.cellsOf e∧0<r.z then some (.sl r) else none
  | some (.struct fs)=>fieldsTy P (tyOf P n) (P.cellsOf t) 0 fs.toList
  | some (.array k e)=>(tyOf P n e).bind fun a=>if a.z=P.cellsOf e∧k*a.z=P.cellsOf t then some (repTy k a) else none
  | _=>none
theorem zrh{α:Type}{Q:Nat→α→Prop}:∀(n:Nat),(∀i,i<n→∃x,Q i x)→∃l:List α,l.length=n∧∀i x,l[i]? = some x→Q i x
 | 0,_=>⟨[],rfl,fun i x h=>by grind⟩
 | n+1,h=>by
  obtain⟨l,hl,hq⟩:=zrh n fun i hi=>h i (by omega)
  obtain⟨x,hx⟩:=h n (by omega)
  refine⟨l++[x],by grind,fun i y hy=>?_⟩
  grind
def Places(S:Nat→Nat→Prop)(ps:List MemPlace):Prop:=∀k o,MemPlace.cell k o∈ps→S k o
theorem zf2{n:Nat}{g:TypeId→Option Ty}{cs:List Value}
  (ih:∀t cs x ty,DataW.trod enc P w base (fun _=>true) held n t cs=some x→g t=some ty→Places S x.2→∃xs,Ok ty xs∧RowC w S cs xs) :
  ∀(fs:List Field) (off:Nat) (ty:Ty) (ys:List (DataW H×List MemPlace)),
   ys.length=fs.length→(∀(i:Nat) (f:Field),fs[i]? = some f→DataW.trod enc P w base (fun _=>true) held n f.type ((cs.drop f.offset).take (P.cellsOf f.type))=ys[i]?) →
   fieldsTy P g cs.length off fs=some ty→Places S (ys.flatMap (·.2))→∃xs,Ok ty xs∧RowC w S (cs.drop off) xs
 | [],off,ty,ys,hl,hm,ht,hp=>by
  simp only[fieldsTy]at ht
  split at ht<;>cases ht
  rename_i ho
  exact⟨[],rfl,by rw[ho,List.drop_length];exact RowC.nil⟩
 | f::fs,off,ty,[],hl,hm,ht,hp=>by grind
 | f::fs,off,ty,y::ys1,hl,hm,ht,hp=>by
  obtain⟨a,ha,ht1⟩:=bind_some ht
  split at ht1
  ·rename_i hc
   obtain⟨ho,hz⟩:=hc
   obtain⟨r,hr,rfl⟩:=map_some ht1
   have hy:=hm 0 f rfl
   rw[ho,←hz]at hy
   obtain⟨xs1,ho1,hr1⟩:=ih _ _ _ _ hy ha fun k o h=>hp k o (by grind)
   obtain⟨xs2,ho2,hr2⟩:=zf2 ih fs _ r ys1 (by grind) (fun i f' hf=>by simpa using hm (i+1) f' (by grind)) hr fun k o h=>hp k o (by
    grind)
   refine⟨xs1++xs2,⟨xs1,xs2,rfl,ho1,ho2⟩,?_⟩
   have e:cs.drop off=(cs.drop off).take a.z++cs.drop (off+a.z):=by rw[←List.drop_drop,List.take_append_drop]
   rw[e]
   exact hr1.append hr2
  grind
theorem zhw{n:Nat}{e:TypeId}{r:Ty}(ih:∀cs x,DataW.trod enc P w base (fun _=>true) held n e cs=some x→Places S x.2→∃xs,Ok r xs∧RowC w S cs xs) :
  ∀(k:Nat) (cs:List Value) (ys:List (DataW H×List MemPlace)),ys.length=k→cs.length=k*r.z →
   (∀(i:Nat),i<k→DataW.trod enc P w base (fun _=>true) held n e ((cs.drop (i*r.z)).take r.z)=ys[i]?)→Places S (ys.flatMap (·.2))→∃xs,Ok (repTy k r) xs∧RowC w S cs xs
 | 0,cs,ys,hl,hc,hm,hp=>by
  rw[Nat.zero_mul,List.length_eq_zero_iff]at hc
  subst hc
  exact⟨[],rfl,RowC.nil⟩
 | k+1,cs,[],hl,hc,hm,hp=>by grind
 | k+1,cs,y::ys,hl,hc,hm,hp=>by
  have hy:=hm 0 (by omega)
  rw[Nat.zero_mul,List.drop_zero]at hy
  obtain⟨xs1,ho1,hr1⟩:=ih _ _ hy fun k o h=>hp k o (by grind)
  obtain⟨xs2,ho2,hr2⟩:=zhw ih k (cs.drop r.z) ys (by grind) (by grind) (fun i hi=>by
   grind[List.drop_drop]) fun k o h=>hp k o (by
    grind)
  refine⟨xs1++xs2,⟨xs1,xs2,rfl,ho1,ho2⟩,?_⟩
  have e:cs=cs.take r.z++cs.drop r.z:=(List.take_append_drop ..).symm
  rw[e]
  exact hr1.append hr2
theorem znr{a:Addr}{m z:Nat}{cs:List Value}(h:w.cells? base (a.add m) z=some cs)(j:Nat)(hj:j<z):w.cell? ((a.add m).add j)=cs[j]? := (World.cells?_some h).2.2 j hj
theorem zri{a:Addr}{v:Value}(h:w.cell? a=some v):a.spot=none:=by
 unfold World.cell? at h
 split at h
 all_goals simp_all
theorem zeh:∀(n m:Nat) (t:TypeId) (cs:List Value) (x:DataW H×List MemPlace) (ty:Ty),
  DataW.trod enc P w base (fun _=>true) held n t cs=some x→tyOf P m t=some ty→Places S x.2→∃xs,Ok ty xs∧RowC w S cs xs
 | 0,_,_,_,_,_,h,_,_=>by simp[DataW.trod]at h
 | n+1,0,_,_,_,_,_,ht,_=>by simp[tyOf]at ht
 | n+1,m+1,t,cs,x,ty,h,ht,hp=>by
  simp only[tyOf]at ht
  split at ht
  ·rename_i hu
   cases ht
   obtain⟨b,rfl,rfl⟩:=DataW.trod_bool hu h
   exact⟨[.b b],⟨b,rfl⟩,RowC.one (.b b) rfl⟩
  ·rename_i k hu
   cases ht
   obtain⟨z,rfl,rfl,hw⟩:=DataW.trod_int hu h
   exact⟨[.i k z],⟨z,rfl,hw⟩,RowC.one (.i k z) rfl⟩
  ·rename_i hu
   cases ht
   obtain⟨s,rfl,rfl,hs⟩:=DataW.trod_string hu h
   exact⟨[.s s.data.toList],⟨_,rfl,by simp_all⟩,RowC.one (.s s.data.toList) rfl⟩
  ·rename_i e hu
   obtain⟨r,hr,ht1⟩:=bind_some ht
   split at ht1
   ·rename_i hz
    cases ht1
    obtain⟨hz,hzp⟩:=hz
    rcases DataW.trod_slice hu h with ⟨rfl,rfl⟩ | ⟨a,len,cap,elems,rest,n',hn',rfl,rfl,hb,hl,hmx,hlen,hel,hsp,hns⟩
    ·exact⟨[.sl [] .nl],⟨[],.nl,rfl,Nat.zero_le _,.inl ⟨rfl,rfl⟩,fun row h=>by grind⟩,RowC.one (.slnil _ (.inl rfl)) rfl⟩
    ·obtain⟨hrl,hrest⟩:=hsp rfl
     have hall:∀i,i<cap→∃y cs',y∈elems++rest∧w.cells? base (a.add (i*P.cellsOf e)) (P.cellsOf e)=some cs'∧DataW.trod enc P w base (fun _=>true) held n e cs'=some y:=by
      intro i hi
      by_cases hil:i<len
      ·have h1:=hel i hil
       rw[List.getElem?_eq_getElem (by omega)]at h1
       obtain⟨cs',h2,h3⟩:=bind_some h1
       grind
      ·have h1:=hrest (i-len) (by omega)
       rw[List.getElem?_eq_getElem (by omega),show len+(i-len)=i by omega]at h1
       obtain⟨cs',h2,h3⟩:=bind_some h1
       grind
     by_cases hcap:cap=0
     ·have hl0:len=0:=by omega
      subst hcap
      subst hl0
      exact⟨[.sl [] .so],⟨[],.so,rfl,Nat.zero_le _,.inr rfl,fun row h=>by grind⟩,RowC.one (.slz a _ (.inl rfl)) rfl⟩
     ·have hspot:a.spot=none:=by
       obtain⟨y,cs',_,h2,_⟩:=hall 0 (by omega)
       have h3:=znr h2 0 (by omega)
       grind[World.cells?_some,zri,Addr.add]
      obtain⟨blk,off,sp⟩:=a
      have hrows:∀i,i<len→∃xs,Ok r xs∧∃cs',w.cells? base ((⟨blk,off,none⟩:Addr).add (i*P.cellsOf e)) (P.cellsOf e)=some cs'∧RowC w S cs' xs:=by
       intro i hi
       obtain⟨y,cs',hy,h2,h3⟩:=hall i (by omega)
       obtain⟨xs,ho,hrc⟩:=zeh n m e cs' y r h3 hr fun k o hk=>hp k o (by
        grind)
       grind
      obtain⟨els,hels,hq⟩:=zrh len hrows
      refine⟨[.sl els .so],⟨els,.so,rfl,by omega,.inr rfl,fun row hrow=>?_⟩,RowC.one ?_ rfl⟩
      ·grind[List.getElem?_of_mem]
      ·have hcell:∀i j,i<els.length→j<r.z→∃v,w.cell? ⟨blk,off+i*r.z+j,none⟩=some v∧v.oneCell'=true∧∀row c,els[i]? = some row→row[j]? = some c→CP w S v c:=by
        intro i j hi hj
        obtain⟨ho,cs',h2,hrc⟩:=hq i _ (List.getElem?_eq_getElem hi)
        have h3:=znr h2 j (by omega)
        have h4:=(World.cells?_some h2).2.1
        rw[za1,za1,←hz,List.getElem?_eq_getElem (by omega)]at h3
        have hlr:=ho.len
        have h5:=hrc.2 j _ _ (List.getElem?_eq_getElem (by omega)) (List.getElem?_eq_getElem (by omega))
        grind
       have hS:∀i j,i<els.length→j<r.z→S blk (off+i*r.z+j):=by
        intro i j hi hj
        refine hp _ _ ?_
        rw[List.mem_append]
        left
        unfold MemPlace.row
        rw[List.mem_map]
        refine⟨i*r.z+j,?_,by rw[Nat.add_assoc]⟩
        have h1:(i+1)*r.z≤(elems.length+rest.length)*r.z:=Nat.mul_le_mul_right _ (by omega)
        grind
       have:=CP.sl (w:=w) (S:=S) blk off r.z cap els .so (fun i j=>(w.cell? ⟨blk,off+i*r.z+j,none⟩).getD undef) (by simp) (by simp) (by omega) hmx
        (fun i row hrow=>(hq i row hrow).1.len) (fun i j hi hj=>?_) (fun i row j c hrow hc=>?_)
       ·grind
       ·grind
       ·have hi:=(List.getElem?_eq_some_iff.1 hrow).1
        have hj:=(List.getElem?_eq_some_iff.1 hc).1
        rw[(hq i row hrow).1.len]at hj
        grind
   grind
  ·rename_i fs hu
   obtain⟨xs,n',hn',rfl,hcl,hxl,hx⟩:=DataW.trod_struct hu h
   cases hn'
   rw[←hcl]at ht
   have:=zf2 (S:=S) (g:=tyOf P m) (cs:=cs) (n:=n) (fun t cs x ty h1 h2 h3=>zeh n m t cs x ty h1 h2 h3) fs.toList 0 ty xs (by omega) (fun i f hf=>hx i f (by grind)) ht hp
   grind
  ·rename_i k e hu
   obtain⟨r,hr,ht1⟩:=bind_some ht
   split at ht1
   ·rename_i hz
    cases ht1
    obtain⟨hz,hzt⟩:=hz
    obtain⟨xs,n',hn',rfl,hcl,hxl,hx⟩:=DataW.trod_array hu h
    cases hn'
    rw[←hz]at hx
    exact zhw (S:=S) (n:=n) (e:=e) (r:=r) (fun cs x h1 h3=>zeh n m e cs x r h1 hr h3) k cs xs hxl (by omega) hx hp
   grind
  grind
end
end
section
open Go.ChangeShapes Go.WideShapes Go.ChangeAt Go.RowKit
def isAgg(P:Program)(t:TypeId):Bool:=match P.underlying t with | some (.struct _)=>true | some (.array _ _)=>true | _=>false
def tysOf(P:Program)(m:Nat):List TypeId→Option (List (Bool×Ty))
 | []=>some []
 | t::ts=>(tyOf P m t).bind fun a=>(tysOf P m ts).map fun r=>(isAgg P t,a)::r
def OkArg:Bool×Ty→AV→Prop
 | (true,ty),x=>∃cs,x=.agg cs∧Ok ty cs
 | (false,ty),x=>Ok ty [x]
def OkArgs:List (Bool×Ty)→List AV→Prop
 | [],xs=>xs=[]
 | a::r,xs=>∃x ys,xs=x::ys∧OkArg a x∧OkArgs r ys
section
variable{H:Type}{enc:TypeId×Value→H}{P:Program}{w:World}{S:Nat→Nat→Prop}
theorem zuy{m:Nat}{t:TypeId}{v:Value}{d:DataW H}{p:List MemPlace}{ty:Ty}{base:Nat}(hA:DataW.Trod enc P w 0 (fun _=>true) true t v d p)(hT:tyOf P m t=some ty)
  (hval:Value.okWide P w .any base t v) (hp:Places S p):∃x,OkArg (isAgg P t,ty) x∧CP w S v x:=by
 obtain⟨fuel,hf⟩:=hA
 obtain⟨xs,ho,hrc⟩:=zeh (S:=S) fuel m t _ _ ty hf hT hp
 have hlen:=ho.len
 cases hu:P.underlying t with
 | none=>cases m<;>simp[tyOf,hu]at hT
 | some desc=>
  have one:∀(hag:isAgg P t=false) (hz:ty.z=1) (hv:v.cells=#[v]),∃x,OkArg (isAgg P t,ty) x∧CP w S v x:=by
   intro hag hz hv
   rw[hag]
   match xs,hlen with
   | [x],_=>
    refine⟨x,ho,?_⟩
    have:=hrc.2 0 v x (by grind) rfl
    grind
   | [],h=>grind
   | _::_::_,h=>grind
  cases m with
  | zero=>simp[tyOf]at hT
  | succ m=>
  cases desc<;>simp only[tyOf,hu]at hT<;>try (cases hT;done)
  case struct fs=>
   have hag:isAgg P t=true:=by simp[isAgg,hu]
   rw[hag]
   unfold Value.okWide at hval
   rw[hu]at hval
   obtain⟨cs,rfl,hcs,_⟩:=hval
   refine⟨.agg xs,⟨xs,rfl,ho⟩,.agg cs xs ?_ ?_ ?_⟩
   ·have:=hrc.1
    simpa[Value.cells]using this.symm
   ·intro j u hu
    have hl:=hrc.1
    have hj:j<cs.size:=(Array.getElem?_eq_some_iff.1 hu).1
    have hj':j<xs.length:=by rw[hl];simpa[Value.cells]using hj
    exact(hrc.2 j u _ (by simpa[Value.cells]using hu) (List.getElem?_eq_getElem hj')).2
   ·intro j u c hu hc
    exact(hrc.2 j u c (by simpa[Value.cells]using hu) hc).1
  case array k e=>
   have hag:isAgg P t=true:=by simp[isAgg,hu]
   rw[hag]
   unfold Value.okWide at hval
   rw[hu]at hval
   obtain⟨cs,rfl,hcs,_⟩:=hval
   refine⟨.agg xs,⟨xs,rfl,ho⟩,.agg cs xs ?_ ?_ ?_⟩
   ·have:=hrc.1
    simpa[Value.cells]using this.symm
   ·intro j u hu
    have hl:=hrc.1
    have hj:j<cs.size:=(Array.getElem?_eq_some_iff.1 hu).1
    have hj':j<xs.length:=by rw[hl];simpa[Value.cells]using hj
    exact(hrc.2 j u _ (by simpa[Value.cells]using hu) (List.getElem?_eq_getElem hj')).2
   ·intro j u c hu hc
    exact(hrc.2 j u c (by simpa[Value.cells]using hu) hc).1
  case bool=>
   cases hT
   unfold Value.okWide Cell.okWide Cell.ok at hval
   refine one (by simp[isAgg,hu]) rfl ?_
   cases v<;>first | rfl | grind
  case int k=>
   cases hT
   unfold Value.okWide Cell.okWide Cell.ok at hval
   rw[hu]at hval
   refine one (by simp[isAgg,hu]) rfl ?_
   cases v<;>first | rfl | grind
  case string=>
   cases hT
   unfold Value.okWide Cell.okWide Cell.ok at hval
   rw[hu]at hval
   refine one (by simp[isAgg,hu]) rfl ?_
   cases v<;>first | rfl | grind
  case slice e=>
   obtain⟨r,hr,ht1⟩:=bind_some hT
   split at ht1<;>cases ht1
   unfold Value.okWide Cell.okWide Cell.ok at hval
   rw[hu]at hval
   refine one (by simp[isAgg,hu]) rfl ?_
   cases v<;>first | rfl | grind
theorem zjz{m base:Nat}:∀(ts:List TypeId) (vs:List Value) (ds:List (DataW H)) (p:List MemPlace) (tys:List (Bool×Ty)),DataW.TrodAll enc P w 0 (fun _=>true) true ts vs ds p→tysOf P m ts=some tys →
  (∀(j:Nat) t v,ts[j]? = some t→vs[j]? = some v→Value.okWide P w .any base t v)→Places S p →
  ∃xs,OkArgs tys xs∧vs.length=xs.length∧∀(j:Nat) (v:Value) (c:AV),vs[j]? = some v→xs[j]? = some c→CP w S v c
 | [],vs,ds,p,tys,hA,hT,hval,hp=>by
  obtain⟨rfl,_,_⟩:=trodAll_nil hA
  cases hT
  exact⟨[],rfl,rfl,fun j v c h=>by grind⟩
 | t::ts,vs,ds,p,tys,hA,hT,hval,hp=>by
  obtain⟨v,vs1,d,ds1,a,b,rfl,rfl,rfl,h1,h2⟩:=trodAll_cons hA
  obtain⟨ty,hty,hT1⟩:=bind_some hT
  obtain⟨r,hr,rfl⟩:=map_some hT1
  obtain⟨x,hx,hC⟩:=zuy (S:=S) h1 hty (hval 0 t v rfl rfl) fun k o h=>hp k o (List.mem_append_left _ h)
  obtain⟨xs,ho,hl,hc⟩:=zjz (m:=m) (base:=base) ts vs1 ds1 b r h2 hr (fun j t v ht hv=>hval (j+1) t v (by grind) (by grind)) fun k o h=>hp k o (List.mem_append_right _ h)
  refine⟨x::xs,⟨x,xs,rfl,hx,ho⟩,by grind,fun j u c hu hcc=>?_⟩
  grind
theorem zns(hl:laidOutB P=true){W W':World}(hb:Below W.heap.size W W'){sp:Nat→Bool}:∀(ts:List TypeId) (vs:List Value) (ds:List (DataW H)) (p:List MemPlace),
  (ts.all fun t=>P.readableRec t&&decide (t<P.types.size))=true→DataW.TrodAll enc P W 0 (fun _=>true) true ts vs ds p→(∀x∈p,x.block<W.heap.size)→(∀x∈p,sp x.block=true)→DataW.TrodAll enc P W' 0 sp true ts vs ds p
 | [],_,_,_,_,hA,_,_=>by
  obtain⟨rfl,rfl,rfl⟩:=trodAll_nil hA
  exact rfl
 | t::ts,vs,ds,p,hr,hA,hlt,hsp=>by
  obtain⟨v,vs1,d,ds1,a,b,rfl,rfl,rfl,h1,h2⟩:=trodAll_cons hA
  rw[List.all_cons,Bool.and_eq_true,Bool.and_eq_true,decide_eq_true_eq]at hr
  exact⟨a,b,WideElems.Trod_stays hl hr.1.1 hr.1.2 h1 (fun x hx=>hb.same (hlt x (List.mem_append_left _ hx))) (fun x hx=>hsp x (List.mem_append_left _ hx)),
   zns hl hb ts vs1 ds1 b hr.2 h2 (fun x hx=>hlt x (List.mem_append_right _ hx)) (fun x hx=>hsp x (List.mem_append_right _ hx)),rfl⟩
theorem zrj:∀(ts:List TypeId) (vs:List Value) (ds:List (DataW H)) (p:List MemPlace),DataW.TrodAll enc P w 0 (fun _=>true) true ts vs ds p→ds.length=ts.length
 | [],_,_,_,hA=>by
  obtain⟨rfl,rfl,rfl⟩:=trodAll_nil hA
  rfl
 | t::ts,vs,ds,p,hA=>by
  obtain⟨v,vs1,d,ds1,a,b,rfl,rfl,rfl,h1,h2⟩:=trodAll_cons hA
  simp[zrj ts vs1 ds1 b h2]
theorem zuz{f:FuncId}{fn:Func}{s:ChangeSpec}{m tb:Nat}{tys:List (Bool×Ty)}{fresh handsOn again:Bool}(hvars:s.vars=[])(hT:tysOf P m fn.params.toList=some tys)(hl:laidOutB P=true)
  (hread:(fn.params.toList.all fun t=>P.readableRec t&&decide (t<P.types.size))=true) (hr:fn.resultTypes=#[tb]) (hb:P.underlying tb=some .bool)
  (hfn:∀ds:List (DataW H),ds.length=fn.params.toList.length→s.fn H ds={ results:=[.lit (.bool true)],args:=ds })
  (hcall:∀xs,OkArgs tys xs→PCall P f xs (·=.b true)) {W:World} {args:Array Value} {ds gs:List (DataW H)} {before:List MemPlace} {base:Nat}
  (hval:∀(j:Nat) t v,fn.params[j]? = some t→args[j]? = some v→Value.okWide P W .any base t v) (hW:DataW.Whole enc P fn.params.toList s.vars false W args.toList ds gs before) :
  Calls P f args W fun e W'=>∃v,e=.returned v∧s.post enc P fn false fresh handsOn again W args v W':=by
 have hW':=hW
 obtain⟨p,q,hA,hV,rfl,hfz,hnd⟩:=hW
 rw[hvars]at hV
 obtain⟨rfl,rfl⟩:=trodVars_none hV
 have hlt:∀x∈p,x.block<W.heap.size:=fun x hx=>hW'.lt x (List.mem_append_left _ hx)
 obtain⟨xs,ho,hlen,hC⟩:=zjz (S:=fun k o=>MemPlace.cell k o∈p) _ _ _ _ _ hA hT (fun j t v ht hv=>hval j t v (by grind) (by grind)) (fun k o h=>h)
 have hc:=(hcall xs ho).2 W (fun k o=>MemPlace.cell k o∈p) args (by omega) (fun j v c hv hc=>hC j v c (by grind) hc) (fun k o h=>hlt _ h)
 refine hc.mono fun e W' ⟨v,r,he,hrr,hbel,hCr⟩=>?_
 subst he hrr
 have hv:v=.bool true:=by cases hCr;rfl
 subst hv
 have hlf:=hfn ds (zrj _ _ _ _ hA)
 refine⟨_,rfl,ziq (pa:=p) (pv:=[]) hW' (fun b sp hd=>?_) (fun sp hsp=>?_) (fun sp _=>?_) rfl hbel (ok_one hr rfl (okWide_bool_mk hb _))⟩
 ·rw[List.append_nil,hlf,hr]
  exact trodAll_mk1 (shut_bool hb _)
 ·grind[zns]
 ·rw[List.append_nil,hlf,hvars]
  exact rfl
end
end
theorem zn6:∀(els:List (List AV)),(∀row∈els,Ok (.int .u32) row)→∃l:List UInt32,els=u32s l
 | [],_=>⟨[],rfl⟩
 | r::els,h=>by
  obtain⟨l,rfl⟩:=zn6 els fun row hr=>h row (List.mem_cons_of_mem _ hr)
  obtain⟨n,rfl,hw⟩:=h r List.mem_cons_self
  have h1:0≤n∧n<4294967296:=by
   simp[Lit.wf,IntKind.min,IntKind.max,IntKind.signed,IntKind.bits]at hw
   omega
  refine⟨w32 n.toNat::l,?_⟩
  have:(w32 n.toNat).toNat=n.toNat:=zae (by omega)
  simp only[u32s,List.map_cons,this,u32]
  rw[Int.toNat_of_nonneg h1.1]
theorem zu8{P:Program}{ν:Nat→FuncId}{T:Tbl}(hT:TOk P ν T)(hm:P.follows .mixedOrders=true){u:Nat}{af:AFx}{xs ys:List AV}{r:AV}(hu:T u=some af)(hl:af.lent=none)(h:callF T u ys=some r)(hx:xs.map wkA=ys):PCall P (ν u) xs (·=r):=by
 subst hx
 have h1:=zgq hT hm hu hl h
 exact PCall.wk (ex:=false) h1
abbrev Fz:=Bool×List UInt32×List UInt32
abbrev celF(x:Fz):List AV:=[.b x.1,.sl (u32s x.2.1) .an,.sl (u32s x.2.2) .an]
abbrev efz(x:Fz):AV:=.agg (celF x)
def fv(x:Fz):Rat:=mkRat (wv x.1 x.2.1) (val x.2.2)
def fz(q:Rat):Fz:=(decide (q.num<0),ofN q.num.natAbs,ofN q.den)
@[simp] theorem z4j(q:Rat):fv (fz q)=q:=by
 unfold fv fz
 rw[zwc,zaj,Rat.mkRat_self]
def fsz(x:Fz):Nat:=max x.2.1.length x.2.2.length
theorem zql(x:Fz):x.2.1.length≤fsz x:=Nat.le_max_left ..
theorem zqm(x:Fz):x.2.2.length≤fsz x:=Nat.le_max_right ..
def sz(q:Rat):Nat:=max (ofN q.num.natAbs).length (ofN q.den).length
theorem z4k(q:Rat):(ofN q.num.natAbs).length≤sz q:=Nat.le_max_left ..
theorem z4l(q:Rat):(ofN q.den).length≤sz q:=Nat.le_max_right ..
theorem zw9{z:Int}{d:Nat}(h:d≠0):(mkRat z d).num.natAbs=z.natAbs/Nat.gcd z.natAbs d:=by
 rw[Rat.num_mkRat,if_neg h,Int.natAbs_ediv_of_dvd (Int.ofNat_dvd_left.2 (Nat.gcd_dvd_right ..)),Int.natAbs_natCast,Nat.gcd_comm]
theorem zxa{z:Int}{d:Nat}(h:d≠0):(mkRat z d).den=d/Nat.gcd z.natAbs d:=by
 rw[Rat.den_mkRat,if_neg h,Nat.gcd_comm]
theorem zxb{z:Int}{d:Nat}(h:d≠0):sgI (mkRat z d).num=sgI z:=by
 rw[Rat.num_mkRat,if_neg h]
 have hg:0<Nat.gcd d z.natAbs:=Nat.gcd_pos_of_pos_left _ (Nat.pos_of_ne_zero h)
 obtain⟨k,hk⟩:((Nat.gcd d z.natAbs:Nat):Int) ∣ z:=Int.ofNat_dvd_left.2 (Nat.gcd_dvd_right ..)
 generalize Nat.gcd d z.natAbs=g at *
 have hg':(0:Int)<g:=by omega
 subst hk
 rw[Int.mul_ediv_cancel_left _ (by omega)]
 unfold sgI
 rcases Int.lt_trichotomy k 0 with h1 | h1 | h1
 ·have:=Int.mul_neg_of_pos_of_neg hg' h1
  rw[if_pos h1,if_pos this]
 ·subst h1;simp
 ·have:=Int.mul_pos hg' h1
  rw[if_neg (by omega),if_neg (by omega),if_neg (by omega),if_neg (by omega)]
theorem zt8(z:Int):decide (z<0)=decide (sgI z<0):=by
 unfold sgI
 split
 ·simp[*]
 ·split<;>simp[*]
theorem z4m{z:Int}{d:Nat}(h:d≠0):decide ((mkRat z d).num<0)=decide (z<0):=by
 rw[zt8,zt8 z,zxb h]
theorem zac0(n:Bool)(x:Nat){d:Nat}(h:d≠0):fz (mkRat (sg n x) d)=(n&&decide (x≠0),ofN (x/Nat.gcd x d),ofN (d/Nat.gcd x d)):=by
 unfold fz
 rw[z4m h,zw9 h,zxa h,zw8,zt2]
theorem zt9:ofN 1=[1]:=by
 rw[zg4 (by decide),show 1/4294967296=0 from rfl,zje]
 rfl
theorem zac1{z:Int}{d L:Nat}(hz:(ofN z.natAbs).length≤L)(hd:(ofN d).length≤L)(h1:1≤L):sz (mkRat z d)≤L:=by
 unfold sz
 by_cases h:d=0
 ·subst h
  rw[Rat.mkRat_zero,Rat.zero_num,Rat.zero_den,zt9]
  simp
  omega
 ·rw[zw9 h,zxa h]
  exact Nat.max_le.2 ⟨Nat.le_trans (za0 (Nat.div_le_self _ _)) hz,Nat.le_trans (za0 (Nat.div_le_self _ _)) hd⟩
theorem zac2{x:Fz}{L:Nat}(h:fsz x≤L)(h1:1≤L):sz (fv x)≤L:=
 zac1 (Nat.le_trans (zff _ _) (Nat.le_trans (zql x) h)) (Nat.le_trans (zaf _) (Nat.le_trans (zqm x) h)) h1
def sgQ(q:Rat):Int:=sgI q.num
theorem z4n{z:Int}{d:Nat}(h:d≠0):sgQ (mkRat z d)=sgI z:=zxb h
theorem zwf{z:Int}:sgI z=0↔z=0:=by
 unfold sgI
 split
 ·constructor<;>intro h<;>omega
 ·split<;>constructor<;>intro h<;>omega
theorem zwg{q:Rat}:sgQ q=0↔q=0:=by
 unfold sgQ
 rw[zwf,Rat.num_eq_zero]
def rowF(l:List Fz):List (List AV):=l.map celF
@[simp] theorem z7v:rowF []=[]:=rfl
def matF(m:List (List Fz)):List (List AV):=m.map fun r=>[.sl (rowF r) .an]
@[simp] theorem z7w:matF []=[]:=rfl
abbrev tyF:Ty:=.cons .bool (.cons (.sl (.int .u32)) (.cons (.sl (.int .u32)) .nil))
theorem zyu{x:AV}(h:OkArg (false,.int .i64) x):∃n:Int,x=.i .i64 n∧-9223372036854775808≤n∧n<9223372036854775808:=by
 obtain⟨n,hx,wf⟩:=h
 cases hx
 refine⟨n,rfl,?_⟩
 simp[Lit.wf,IntKind.min,IntKind.max,IntKind.signed,IntKind.bits]at wf
 omega
theorem zpd{P:Program}{ν:Nat→FuncId}{l l':List (Nat×AFx)}(hT:TOk P ν fun u=>l'.lookup u)(hp:Part l l')(hm:P.follows .mixedOrders=true){u:Nat}{af:AFx}{xs ys:List AV}{r:AV}
  (hu:l'.lookup u=some af) (hl:af.lent=none) (h:callF (fun u=>l.lookup u) u ys=some r) (hx:xs.map wkA=ys):PCall P (ν u) xs (·=r):=
 zu8 hT hm hu hl (hp.call (by rw[hu];rfl) h) hx
end Go.Ab
section
set_option linter.unusedVariables false
namespace Go.Proofs
open Go.Shelf Go.RowKit
variable{P:Program}{ρ:Ren}
structure JL (P:Program) (ρ:Ren):Prop extends Lays.n169 P ρ,Lays.n241 P ρ,Builder.Extra P ρ where
 f156:P.funcs[ρ.f 156]? = some (Body.n156 ρ)
 f165:P.funcs[ρ.f 165]? = some (Body.n165 ρ)
 f166:P.funcs[ρ.f 166]? = some (Body.n166 ρ)
 t4:P.underlying (ρ.t 4)=some (TypeDesc.bool)
 a4:∀w,(isAgg (ρ.t 4)).run P w=.ok false w
 z4:∀w,(Go.sizeOf (ρ.t 4)).run P w=.ok 1 w
 v4:∀w,(zeroValue (ρ.t 4)).run P w=.ok (Value.bool false) w
 t20:P.underlying (ρ.t 20)=some (TypeDesc.interface #[])
 a20:∀w,(isAgg (ρ.t 20)).run P w=.ok false w
 z20:∀w,(Go.sizeOf (ρ.t 20)).run P w=.ok 1 w
 v20:∀w,(zeroValue (ρ.t 20)).run P w=.ok (Value.nilIface) w
 t31:P.underlying (ρ.t 31)=some (TypeDesc.slice (ρ.t 9))
 a31:∀w,(isAgg (ρ.t 31)).run P w=.ok false w
 z31:∀w,(Go.sizeOf (ρ.t 31)).run P w=.ok 1 w
 v31:∀w,(zeroValue (ρ.t 31)).run P w=.ok (Value.slice none 0 0) w
 t75:P.underlying (ρ.t 75)=some (TypeDesc.interface #[("Error",ρ.t 80)])
 a75:∀w,(isAgg (ρ.t 75)).run P w=.ok false w
 z75:∀w,(Go.sizeOf (ρ.t 75)).run P w=.ok 1 w
 v75:∀w,(zeroValue (ρ.t 75)).run P w=.ok (Value.nilIface) w
 t76:P.underlying (ρ.t 76)=some (TypeDesc.tuple #[ρ.t 3,ρ.t 75])
 a76:∀w,(isAgg (ρ.t 76)).run P w=.ok false w
 z76:∀w,(Go.sizeOf (ρ.t 76)).run P w=.ok 1 w
 v76:∀w,(zeroValue (ρ.t 76)).run P w=.ok (Value.tuple #[Value.int IntKind.i64 0,Value.nilIface]) w
 t164:P.underlying (ρ.t 164)=some (TypeDesc.unsafePointer)
 a164:∀w,(isAgg (ρ.t 164)).run P w=.ok false w
 z164:∀w,(Go.sizeOf (ρ.t 164)).run P w=.ok 1 w
 v164:∀w,(zeroValue (ρ.t 164)).run P w=.ok (Value.pointer none) w
 e240:∀args w,(callFunc (ρ.f 240) args).run P w=.ok (.enter (ρ.f 240) args) w
 c240:∀(B b:Nat) (bs:List Value) (w:World),Lib.IsBuilder (ρ.t 72) (ρ.t 5) B b bs w →
  Calls P (ρ.f 240) #[.pointer (some ⟨b,0,none⟩)] w fun e w'=>e=.returned (.tuple #[])∧(Lib.BuilderAt (ρ.t 72) (ρ.t 5) B b (.pointer (some ⟨b,0,none⟩)) bs w'∧Below B w w')
 c240f:∀(b:Nat) (w:World),w.cell? ⟨b,0,none⟩=some (.pointer none)→w.shape? b=some ((ρ.t 72),2)→w.frozen? ⟨b,0,none⟩=false →
  Calls P (ρ.f 240) #[.pointer (some ⟨b,0,none⟩)] w fun e w'=>e=.returned (.tuple #[])∧w'=w.setCell ⟨b,0,none⟩ (.pointer (some ⟨b,0,none⟩))
theorem Jl.hid{p:Prop}(h:p):Hid p:=h
end Go.Proofs
end
section
namespace Go.Proofs
open Go.Shelf Go.RowKit Go.Ab
variable{P:Program}{ρ:Ren}
theorem one_arg{cargs:Array Value}(h:cargs.size=1):∃a,cargs=#[a]:=by
 obtain⟨l⟩:=cargs
 match l,h with
 | [a],_=>exact⟨a,rfl⟩
end Go.Proofs
end
section
namespace Go.Proofs.YtfgfjicelfagcaaGreatDoor
open Go Go.Ab Go.RowKit
def signS:ByteArray:=⟨#[43,45,42,47,94,40,41,91,93,44,59,61]⟩
theorem signS_lt:∀(p:Nat) (h:p<signS.size),(signS[p]'h).toNat<128:=by decide
theorem sign_at(c:Nat)(hc:c<256):signB.contains (UInt8.ofNat c)=decide (∃p,∃h:p<signS.size,(signS[p]'h).toNat=c):=by
 rw[Bool.eq_iff_iff,decide_eq_true_iff]
 have:∀c,c<256→(signB.contains (UInt8.ofNat c)=true↔∃p,∃h:p<signS.size,(signS[p]'h).toNat=c):=by decide +kernel
 exact this c hc
set_option maxHeartbeats 1000000 in
set_option maxRecDepth 100000 in
theorem sign_calls(c:Nat)(hc:c<256)(w:World):Calls Tryz.prog 115 #[.int .u8 (c:Int)] w fun e w'=>e=.returned (.bool (signB.contains (UInt8.ofNat c)))∧Below w.heap.size w w':=by
 rw[sign_at c hc]
 go_enter Tryz.func115,Tryz.ntmps115
 go_wp2
 go_loopw [] (fun wr=>∃pos:Nat,wr.heap[w.heap.size]? = some (.stringIter signS pos)∧Below w.heap.size w wr∧∀j,j<pos→∀h:j<signS.size,(signS[j]'h).toNat≠c) (fun wr=>signS.size-wr.iterPos w.heap.size)
 case atStart=>
  refine⟨0,World.iter_heap w signS 0,?_,fun j hj=>absurd hj (Nat.not_lt_zero _)⟩
  exact(Below.refl _ w).alloc (Nat.le_refl _) _
 case round=>
  obtain⟨pos,hit,hbw,hne⟩:=hrel
  by_cases hp:pos<signS.size
  ·have hnx:∀ty,(Instr.next (.pointer (some ⟨w.heap.size,0,none⟩)) true ty).run Tryz.prog wr=_:=fun ty=>Lib.run_next_ascii_at wr w.heap.size signS pos ty hit hp (signS_lt pos hp)
   have hit2:=Lib.iterAt_heap wr w.heap.size signS pos (pos+1) hit
   have hbw2:=Lib.below_iterAt hbw (k:=w.heap.size) (Nat.le_refl _) signS (pos+1)
   obtain⟨x,hx⟩:∃x:Nat,(signS[pos]'hp).toNat=x:=⟨_,rfl⟩
   have hx1:=signS_lt pos hp
   rw[hx]at hnx hx1
   have hwr:IntKind.u8.wrap (x:Int)=(x:Int):=by rw[IntKind.wrap_u8];omega
   by_cases hxc:x=c
   ·subst hxc
    go_wp2
    go_ret
    exact⟨by rw[decide_eq_true ⟨pos,hp,hx⟩];rfl,hbw2⟩
   ·have hxc':¬ (x:Int)=(c:Int):=by omega
    go_wp2
    go_roundw
    case rel=>
     refine⟨pos+1,hit2,hbw2,fun j hj h=>?_⟩
     rcases Nat.lt_or_ge j pos with h1 | h1
     ·exact hne j h1 h
     ·obtain rfl:j=pos:=by omega
      rw[hx]
      exact hxc
    case measure=>
     simp only[World.iterPos,hit2,hit]
     omega
  ·have hnx:∀ty,(Instr.next (.pointer (some ⟨w.heap.size,0,none⟩)) true ty).run Tryz.prog wr=_:=fun ty=>Lib.run_next_end_at wr w.heap.size signS pos ty hit hp
   go_wp2
   go_ret
   have hno:¬ ∃p,∃h:p<signS.size,(signS[p]'h).toNat=c:=by
    rintro⟨p,h,hpc⟩
    exact hne p (by omega) h hpc
   exact⟨by rw[decide_eq_false hno];rfl,hbw⟩
theorem sign_ok:∀xs r,prim187 xs=some r→PCall Tryz.prog (nu 187) xs (·=r):=by
 have e:nu 187=115:=by kernel_rfl
 rw[e]
 intro xs r h
 unfold prim187 at h
 split at h
 ·rename_i n
  split at h
  ·rename_i hn
   cases h
   refine⟨enters_of Tryz.func115 (by kernel_rfl) rfl,fun w S cargs hsz hC hS=>?_⟩
   obtain⟨v0,rfl⟩:=one_arg hsz
   have c0:v0=.int .u8 n:=by
    have:=hC 0 _ _ rfl rfl
    cases this
    rfl
   subst c0
   obtain⟨c,rfl⟩:∃c:Nat,n=c:=⟨n.toNat,by omega⟩
   refine(sign_calls c (by omega) w).mono ?_
   rintro e w' ⟨rfl,hb⟩
   refine⟨_,_,rfl,?_,hb,.b _⟩
   rw[Int.toNat_natCast]
   rfl
  ·cases h
 ·cases h
abbrev tyW:Ty:=.cons (.int .i64) (.cons .str (.cons (.int .i64) .nil))
end Go.Proofs.YtfgfjicelfagcaaGreatDoor
end
namespace Go.Ab
class CSpan (T:Tbl):Prop where
end Go.Ab
section
namespace Go.Ab
end Go.Ab
end
namespace Go.Ab
section
variable{T:Tbl}
theorem zhh(G:Nat):∀y:Nat×Nat,(y.1<18446744073709551616∧y.2<18446744073709551616∧Nat.gcd y.1 y.2=G) →
  loopN T 0 0 (.norm false [0]) l198_0 ⟨[(0,u64 y.1),(1,u64 y.2)],[],2⟩=some (.n,⟨[(0,u64 G)],[],2⟩):=by
 refine zbg (fun y:Nat×Nat=>⟨[(0,u64 y.1),(1,u64 y.2)],[],2⟩) _ (fun y=>y.2) _ ?_
 rintro⟨x,y⟩ ⟨hx,hy,hG⟩
 simp only at hx hy hG ⊢
 by_cases h:y=0
 ·right
  subst h
  rw[Nat.gcd_zero_right]at hG
  subst hG
  constructor<;>simp -implicitDefEqProofs[l198_0]
 ·left
  have hm:=Nat.mod_lt x (Nat.pos_of_ne_zero h)
  refine⟨(y,x%y),⟨hy,by simp only;omega,by simp only;rw[←hG,Nat.gcd_comm y,←Nat.gcd_rec,Nat.gcd_comm]⟩,hm,?_,trivial⟩
  simp -implicitDefEqProofs[l198_0,h]
end
section
variable{T:Tbl}[CCommon T]
theorem zkv(x y:Nat)(hx:x<18446744073709551616)(hy:y<18446744073709551616):callF T 198 [u64 x,u64 y]=some (u64 (Nat.gcd x y)):=by
 have h:=zhh (T:=T) (Nat.gcd x y) (x,y) ⟨hx,hy,rfl⟩
 simp only at h
 rw[f198 _ rfl,b198]
 simp -implicitDefEqProofs[h]
theorem zpi(a:List UInt32):callF T 200 [.sl (u32s (ofN (val a))) .an]=some (.b (decide (val a=1))):=by
 rw[f200 _ rfl,b200]
 generalize val a=n
 by_cases h0:n=0
 ·subst h0
  simp -implicitDefEqProofs
 ·rw[zg4 h0]
  by_cases h1:n/4294967296=0
  ·have e:ofN (n/4294967296)=[]:=zbz.2 h1
   have e2:n%4294967296=n:=Nat.mod_eq_of_lt (by omega)
   simp -implicitDefEqProofs[e,u32s,zda,e2]
  ·have h2:¬ ofN (n/4294967296)=[]:=fun e=>h1 (zbz.1 e)
   have h3:¬ n=1:=by rintro rfl;simp at h1
   have h4:¬ ((ofN (n/4294967296)).length:Int)+1=1:=by
    have:=List.length_pos_iff.2 h2
    omega
   simp -implicitDefEqProofs[u32s,h3,h4]
end
section
variable{T:Tbl}[CNat T][CProd T][CTwos T][CQuot T][CQuotD T][CCommon T]
theorem zu9(G:Nat):∀y:List UInt32×List UInt32,(y.1.length≤90000∧y.2.length≤90000∧(∃n,y.1=ofN n)∧(∃n,y.2=ofN n)∧Nat.gcd (val y.1) (val y.2)=G) →
  ∃r,(∃a b:List UInt32,r=(Ex.n,(⟨[(0,.sl (u32s a) .an),(1,.sl (u32s b) .an)],[],2⟩:St))∧a.length≤90000∧b.length≤2∧(∃n,a=ofN n)∧(∃n,b=ofN n)∧Nat.gcd (val a) (val b)=G) ∧
   loopN T 0 0 (.norm false [0,1]) l199_0 ⟨[(0,.sl (u32s y.1) .an),(1,.sl (u32s y.2) .an)],[],2⟩=some r:=by
 refine zaw (fun y:List UInt32×List UInt32=>⟨[(0,.sl (u32s y.1) .an),(1,.sl (u32s y.2) .an)],[],2⟩) _ (fun y=>val y.2) _ ?_
 rintro⟨a,b⟩ ⟨ha,hb,hk,hn,hG⟩
 simp only at ha hb hk hn hG ⊢
 by_cases h:2<b.length
 ·left
  have h':(2:Int)<b.length:=by omega
  have hv:val b≠0:=by
   obtain⟨n,rfl⟩:=hn
   rw[zaj]
   rintro rfl
   simp at h
  have hd:=zeu (T:=T) a b ha hb
  rw[if_neg hv]at hd
  have hm:=Nat.mod_lt (val a) (Nat.pos_of_ne_zero hv)
  refine⟨(b,ofN (val a%val b)),⟨hb,?_,hn,⟨_,rfl⟩,?_⟩,?_,?_⟩
  ·have:=za0 (Nat.le_of_lt hm)
   have:=zaf b
   simp only;omega
  ·simp only
   rw[zaj,←hG,Nat.gcd_comm (val b),←Nat.gcd_rec,Nat.gcd_comm]
  ·simp only[zaj]
   exact hm
  ·clear hG hm hn hv hk
   simp -implicitDefEqProofs[l199_0,h',hd]
 ·right
  have h':¬ (2:Int)<b.length:=by omega
  refine⟨_,⟨a,b,rfl,ha,by omega,hk,hn,hG⟩,?_,?_⟩<;>clear hG<;>simp -implicitDefEqProofs[l199_0,h']
theorem zml(a b:List UInt32)(ha:a.length≤90000)(hb:b.length≤90000):callF T 199 [.sl (u32s a) .an,.sl (u32s b) .an]=some (.sl (u32s (ofN (Nat.gcd (val a) (val b)))) .an):=by
 have h1:=zbc (T:=T) a (by omega)
 have h2:=zbc (T:=T) b (by omega)
 have la:=zaf a
 have lb:=zaf b
 obtain⟨G,hG⟩:∃G,G=Nat.gcd (val a) (val b):=⟨_,rfl⟩
 obtain⟨_,⟨x,y,rfl,hx,hy,⟨m,rfl⟩,⟨n,rfl⟩,hg⟩,hr⟩:=zu9 (T:=T) G (ofN (val a),ofN (val b)) ⟨by simp only;omega,by simp only;omega,⟨_,rfl⟩,⟨_,rfl⟩,by simp only[zaj];exact hG.symm⟩
 simp only at hr
 rw[zaj,zaj]at hg
 rw[f199 _ rfl,b199,←hG]
 clear hG
 by_cases h0:n=0
 ·subst h0
  rw[Nat.gcd_zero_right]at hg
  subst hg
  simp -implicitDefEqProofs[h1,h2,hr]
 ·have hv:val (ofN n)≠0:=by rw[zaj];exact h0
  have hd:=zeu (T:=T) (ofN m) (ofN n) hx (by omega)
  rw[if_neg hv,zaj,zaj]at hd
  have hn64:n<18446744073709551616:=by
   have:=za2 (ofN n)
   rw[zaj]at this
   exact Nat.lt_of_lt_of_le this (Nat.pow_le_pow_right (by decide) hy)
  have hm:=Nat.mod_lt m (Nat.pos_of_ne_zero h0)
  have s1:=zk4 (T:=T) (ofN n) (by omega)
  rw[zaj,if_pos hn64]at s1
  have s2:=zk4 (T:=T) (ofN (m%n)) (by have:=za0 (Nat.le_of_lt hm);omega)
  rw[zaj,if_pos (by omega)]at s2
  have s3:=zkv (T:=T) n (m%n) hn64 (by omega)
  have e:Nat.gcd n (m%n)=G:=by rw[←hg,Nat.gcd_comm n,←Nat.gcd_rec,Nat.gcd_comm]
  rw[e]at s3
  have s4:=ztg (T:=T) G (by
   rw[←hg]
   exact Nat.lt_of_le_of_lt (Nat.gcd_le_right _ (Nat.pos_of_ne_zero h0)) hn64)
  have hl:¬ ofN n=[]:=fun e=>h0 (zbz.1 e)
  simp -implicitDefEqProofs[h1,h2,hr,hd,s1,s2,s3,s4,hl,h0]
theorem zhi(a b:List UInt32)(ha:a.length≤90000)(hb:b.length≤90000):callF T 201 [.sl (u32s a) .an,.sl (u32s b) .an] =
  some (.tup [.sl (u32s (ofN (val a/Nat.gcd (val a) (val b)))) .an,.sl (u32s (ofN (val b/Nat.gcd (val a) (val b)))) .an]):=by
 have hg:=zml (T:=T) a b ha hb
 have ho:=zpi (T:=T) (ofN (Nat.gcd (val a) (val b)))
 rw[zaj]at ho
 have ll:(ofN (Nat.gcd (val a) (val b))).length≤90000:=by
  by_cases h:val a=0
  ·rw[h,Nat.gcd_zero_left]
   have:=zaf b
   omega
  ·have:=za0 (Nat.gcd_le_left (val b) (Nat.pos_of_ne_zero h))
   have:=zaf a
   omega
 have d1:=zeu (T:=T) a (ofN (Nat.gcd (val a) (val b))) ha ll
 have d2:=zeu (T:=T) b (ofN (Nat.gcd (val a) (val b))) hb ll
 have n1:=zbc (T:=T) a (by omega)
 have n2:=zbc (T:=T) b (by omega)
 rw[zaj]at d1 d2
 rw[f201 _ rfl,b201]
 by_cases h0:Nat.gcd (val a) (val b)=0
 ·rw[h0]at hg ⊢
  simp only[zje]at hg
  simp -implicitDefEqProofs[hg]
 ·rw[if_neg h0]at d1 d2
  have hl:¬ ofN (Nat.gcd (val a) (val b))=[]:=fun e=>h0 (zbz.1 e)
  by_cases h1:Nat.gcd (val a) (val b)=1
  ·rw[h1]at hg ho hl ⊢
   simp -implicitDefEqProofs[hg,ho,n1,n2,hl]
  ·generalize Nat.gcd (val a) (val b)=g at *
   simp -implicitDefEqProofs[hg,ho,d1,d2,hl,h0,h1]
end
section
variable{T:Tbl}[CWhole T]
theorem zbj(n:Bool)(k:Nat):callF T 55 [.b n,.sl (u32s (ofN k)) .an]=some (ez (sg n k)):=by
 rw[f55 _ rfl,b55,z4d]
 have h:(0<(ofN k).length)=(k≠0):=by
  rw[eq_iff_iff,List.length_pos_iff]
  exact not_congr zbz
 cases n<;>simp -implicitDefEqProofs[h]
end
section
variable{T:Tbl}[CNat T][CWhole T]
theorem zqd(n:Bool)(a:List UInt32)(ha:a.length≤1000000):callF T 38 [wh n a]=some (ez (wv n a)):=by
 have h:=zbc (T:=T) a (by omega)
 have hs:=zbj (T:=T) n (val a)
 rw[f38 _ rfl,b38]
 simp -implicitDefEqProofs[h,hs,wv]
end
section
variable{T:Tbl}[CNat T][CWhole T]
theorem ztw(n:Bool)(a:List UInt32)(ha:a.length≤1000000):callF T 40 [wh n a]=some (ez (-wv n a)):=by
 have h:=zbc (T:=T) a (by omega)
 have hs:=zbj (T:=T) (!n) (val a)
 rw[z4e]at hs
 rw[f40 _ rfl,b40]
 simp -implicitDefEqProofs[h,hs,wv]
end
section
variable{T:Tbl}[CNat T][CWhole T]
theorem zqe(n m:Bool)(a b:List UInt32)(ha:a.length≤90000)(hb:b.length≤90000):callF T 23 [wh n a,wh m b]=some (ez (wv n a+wv m b)):=by
 rw[f23 _ rfl,b23]
 by_cases h:n=m
 ·subst h
  have hn:=zvs (T:=T) [a,b] (by simp) (by simp;omega)
  have hs:=zbj (T:=T) n (val a+val b)
  rw[zm1]at hs
  have e:lls [a,b]=[[.sl (u32s a) .an],[.sl (u32s b) .an]]:=rfl
  have e2:sumL [a,b]=val a+val b:=by simp[sumL]
  rw[e,e2]at hn
  simp -implicitDefEqProofs[hn,hs,wv]
 ·have hg:=zyy (T:=T) a b (by omega) (by omega)
  by_cases hlt:val a<val b
  ·have hs:=zbj (T:=T) m (val b-val a)
   rw[zt3 h hlt]at hs
   simp -implicitDefEqProofs[h,hg,hlt,zc9,hs,wv]
  ·have hs:=zbj (T:=T) n (val a-val b)
   rw[zt4 h hlt]at hs
   simp -implicitDefEqProofs[h,hg,hlt,zc9,hs,wv]
end
section
variable{T:Tbl}[CNat T][CWhole T]
theorem zqf(n m:Bool)(a b:List UInt32)(ha:a.length≤90000)(hb:b.length≤90000):callF T 25 [wh n a,wh m b]=some (ez (wv n a-wv m b)):=by
 obtain⟨z,hz⟩:∃z,z=-wv m b:=⟨_,rfl⟩
 have h1:=ztw (T:=T) m b (by omega)
 have hl:=zff m b
 rw[←zg7,←hz]at hl
 have h2:=zqe (T:=T) n (decide (z<0)) a (ofN z.natAbs) (by omega) (by omega)
 have e:wv n a-wv m b=wv n a+z:=by omega
 rw[zwc,←e]at h2
 rw[←hz]at h1
 rw[f25 _ rfl,b25]
 simp -implicitDefEqProofs[h1,h2]
end
section
variable{T:Tbl}[CProd T][CWhole T]
theorem ztx(n m:Bool)(a b:List UInt32)(ha:a.length≤100000)(hb:b.length≤100000):callF T 27 [wh n a,wh m b]=some (ez (wv n a*wv m b)):=by
 have h1:=zv1 (T:=T) a b ha hb
 have hs:=zbj (T:=T) (n != m) (val a*val b)
 rw[z4f]at hs
 rw[f27 _ rfl,b27]
 simp -implicitDefEqProofs[h1,hs,wv]
end
section
variable{T:Tbl}[CNat T][CWhole T]
theorem zqg(n:Bool)(a:List UInt32)(ha:a.length≤1000000):callF T 37 [wh n a]=some (.i .i64 (sgI (wv n a))):=by
 have h1:=zdy (T:=T) a (by omega)
 rw[f37 _ rfl,b37]
 unfold wv
 rw[z4g]
 by_cases h:val a=0
 ·simp -implicitDefEqProofs[h1,h]
 ·cases n<;>simp -implicitDefEqProofs[h1,h]
end
section
variable{T:Tbl}[CNat T][CWhole T]
theorem zqh(n m:Bool)(a b:List UInt32)(ha:a.length≤90000)(hb:b.length≤90000):callF T 36 [wh n a,wh m b]=some (.i .i64 (sgI (wv n a-wv m b))):=by
 have h1:=zqf (T:=T) n m a b ha hb
 have hl:=zm2 (x:=wv n a) (y:=-wv m b) (L:=90000) (by have:=zff n a;omega) (by rw[zg7];have:=zff m b;omega)
 rw[←Int.sub_eq_add_neg]at hl
 have h2:=zqg (T:=T) (decide (wv n a-wv m b<0)) (ofN (wv n a-wv m b).natAbs) (show (ofN (wv n a-wv m b).natAbs).length≤1000000 by omega)
 rw[zwc]at h2
 rw[f36 _ rfl,b36]
 simp -implicitDefEqProofs[h1,h2]
end
section
variable{T:Tbl}[CNat T][CProd T][CTwos T][CQuot T][CQuotD T][CWhole T][CCommon T][CFrac T]
theorem zmr(p q:Int)(hp:(ofN p.natAbs).length≤90000)(hq:(ofN q.natAbs).length≤90000):callF T 36 [ez p,ez q]=some (.i .i64 (sgI (p-q))):=by
 grind[zqh,zwc]
theorem zpm{x d:Nat}(h:d≠0):decide (x/Nat.gcd x d≠0)=decide (x≠0):=by
 obtain⟨k,hk⟩:=Nat.gcd_dvd_left x d
 grind[Nat.mul_div_cancel_left,Nat.mul_eq_zero]
theorem zfe(n:Bool)(a d:List UInt32)(ha:a.length≤90000)(hd:d.length≤90000)(h:val d≠0) :
  callF T 202 [wh n a,.sl (u32s d) .an]=some (efz (fz (mkRat (wv n a) (val d)))):=by
 have e:=zac0 n (val a) h
 change fz (mkRat (wv n a) (val d))=_ at e
 have hc:=zhi (T:=T) a d ha hd
 have hl:(ofN (val a/Nat.gcd (val a) (val d))).length≤1000000:=by
  have:=za0 (Nat.div_le_self (val a) (Nat.gcd (val a) (val d)))
  have:=zaf a
  omega
 have hn:=zqd (T:=T) n _ hl
 have e2:wv n (ofN (val a/Nat.gcd (val a) (val d)))=sg n (val a/Nat.gcd (val a) (val d)):=by unfold wv;rw[zaj]
 rw[e2,z4d,zpm h]at hn
 rw[e,f202 _ rfl,b202]
 simp -implicitDefEqProofs[hc,hn]
theorem zms(n:Bool)(a d:List UInt32)(ha:a.length≤10000)(hd:d.length≤10000)(h:val d≠0) :
  callF T 202 [wh n a,.sl (u32s d) .an]=some (efz (fz (mkRat (wv n a) (val d)))):=zfe (T:=T) n a d (Nat.le_trans ha (by decide)) (Nat.le_trans hd (by decide)) h
theorem ze6(x:Fz)(hx:fsz x≤100000):∃y:Fz,val y.2.2≠0∧fv y=fv x∧fsz y≤max 1 (fsz x)∧callF T 203 [efz x]=some (.tup [wh y.1 y.2.1,.sl (u32s y.2.2) .an]):=by
 obtain⟨n,a,d⟩:=x
 have h1:=zql (n,a,d)
 have h2:=zqm (n,a,d)
 simp only at h1 h2
 have hz:=zdy (T:=T) d (by omega)
 by_cases h:val d=0
 ·refine⟨(false,[],[1]),by simp,?_,?_,?_⟩
  ·unfold fv
   simp only[h,Rat.mkRat_zero]
   rfl
  ·show 1≤_
   omega
  ·have ho:=ztg (T:=T) 1 (by decide)
   rw[zt9]at ho
   rw[f203 _ rfl,b203]
   simp -implicitDefEqProofs[hz,h,ho]
 ·refine⟨(n,a,d),h,rfl,by omega,?_⟩
  rw[f203 _ rfl,b203]
  simp -implicitDefEqProofs[hz,h]
theorem zpn(x:Fz)(hx:fsz x≤90000):callF T 207 [efz x]=some (efz (fz (fv x))):=by
 obtain⟨⟨n,a,d⟩,h1,h2,h3,hp⟩:=ze6 (T:=T) x (by omega)
 have la:=zql (n,a,d)
 have ld:=zqm (n,a,d)
 simp only at la ld
 have hc:=zfe (T:=T) n a d (by omega) (by omega) h1
 rw[←h2]
 change _=some (efz (fz (mkRat (wv n a) (val d))))
 rw[f207 _ rfl,b207]
 simp -implicitDefEqProofs[hp,hc]
theorem zs3(x:Fz)(hx:fsz x≤10000):callF T 207 [efz x]=some (efz (fz (fv x))):=zpn (T:=T) x (Nat.le_trans hx (by decide))
theorem zgw(n:Bool)(a d:List UInt32)(ha:a.length≤90000)(hd:d.length≤90000):callF T 210 [wh n a,.sl (u32s d) .an]=some (ez (wv n a*(val d:Int))):=by
 have hm:=ztx (T:=T) n false a d (by omega) (by omega)
 rw[show wv false d=(val d:Int) from rfl]at hm
 rw[f210 _ rfl,b210]
 simp -implicitDefEqProofs[hm]
theorem zs4(x x':Fz)(hx:fsz x≤30000)(hx':fsz x'≤30000):callF T 211 [efz x,efz x']=some (.i .i64 (sgQ (fv x-fv x'))):=by
 obtain⟨⟨n,a,d⟩,h1,h2,h3,hp⟩:=ze6 (T:=T) x (by omega)
 obtain⟨⟨m,b,e⟩,h1',h2',h3',hp'⟩:=ze6 (T:=T) x' (by omega)
 have la:=zql (n,a,d)
 have ld:=zqm (n,a,d)
 have lb:=zql (m,b,e)
 have le:=zqm (m,b,e)
 simp only at la ld lb le
 have c1:=zgw (T:=T) n a e (by omega) (by omega)
 have c2:=zgw (T:=T) m b d (by omega) (by omega)
 have l1:(ofN (wv n a*(val e:Int)).natAbs).length≤60000:=by
  have:=zg8 (x:=wv n a) (y:=(val e:Int)) (L:=30000) (M:=30000) (Nat.le_trans (zff n a) (by omega)) (Nat.le_trans (zff false e) (by omega))
  omega
 have l2:(ofN (wv m b*(val d:Int)).natAbs).length≤60000:=by
  have:=zg8 (x:=wv m b) (y:=(val d:Int)) (L:=30000) (M:=30000) (Nat.le_trans (zff m b) (by omega)) (Nat.le_trans (zff false d) (by omega))
  omega
 have e1:sgQ (fv x-fv x')=sgI (wv n a*(val e:Int)-wv m b*(val d:Int)):=by
  rw[←h2,←h2',Rat.sub_eq_add_neg]
  unfold fv
  rw[Rat.neg_mkRat,Rat.mkRat_add_mkRat _ _ h1 h1',z4n (Nat.mul_ne_zero h1 h1'),Int.neg_mul]
  rfl
 generalize wv n a*(val e:Int)=z1 at *
 generalize wv m b*(val d:Int)=z2 at *
 have c3:=zmr (T:=T) z1 z2 (by omega) (by omega)
 rw[e1,f211 _ rfl,b211]
 simp -implicitDefEqProofs[hp,hp',c1,c2,c3]
theorem zpo(x x':Fz)(hx:fsz x≤30000)(hx':fsz x'≤30000):callF T 212 [efz x,efz x']=some (.b (decide (fv x=fv x'))):=by
 have hc:=zs4 (T:=T) x x' hx hx'
 have e:(sgQ (fv x-fv x') == 0)=decide (fv x=fv x'):=by
  grind[zwg]
 rw[f212 _ rfl,b212]
 simp -implicitDefEqProofs[hc,e]
end
def nrm(l:List Fz):List Fz:=l.map fun x=>fz (fv x)
def fzs(l:List Rat):List Fz:=l.map fz
@[simp] theorem z37:rowsT []=[]:=rfl
def textQ(q:Rat):List UInt8:=if q.den=1 then textZ q.num else textZ q.num++47::textN q.den
section
variable{T:Tbl}[CNat T][CProd T][CTwos T][CQuot T][CQuotD T][CText T][CWhole T][CCommon T][CFrac T][CJoin T][CRow T]
def stZe(n i:Nat):St:=⟨[(3,.bs (.loc 9) 1 3 0 n),(10,.i .i64 n),(11,.i .i64 i)],[(.loc 9,⟨1,.own,3,rowF (List.replicate i (fz 0))++List.replicate (n-i) [.b false,.sl [] .an,.sl [] .an]⟩)],3⟩
def stNm(l:List Fz)(i:Nat):St:=⟨[(3,.bs (.loc 3) 1 3 0 i),(6,.sl (rowF l) .an),(7,.i .i64 l.length),(8,.i .i64 i)],[(.loc 3,⟨1,.own,3,rowF (nrm (l.take i))⟩)],3⟩
def scl(c:Rat)(l:List Fz):List Fz:=l.map fun x=>fz (c*fv x)
def stSl(c:Fz)(l:List Fz)(i:Nat):St:=⟨[(2,.ptr (.loc 2) 1 3 0 0),(5,.bs (.loc 5) 2 3 0 i),(8,.sl (rowF l) .an),(9,.i .i64 l.length),(10,.i .i64 i)],[(.loc 2,⟨1,.str,3,[celF c]⟩),(.loc 5,⟨2,.own,3,rowF (scl (fv c) (l.take i))⟩)],4⟩
def dotQ:List Fz→List Fz→Rat
 | x::a,y::b=>fv x*fv y+dotQ a b
 | _,_=>0
def dotK(a b:List Fz)(i:Nat):Rat:=dotQ (a.take i) (b.take i)
abbrev nocell:List AV:=[.b false,.sl [] .an,.sl [] .an]
def stDt(a b:List Fz)(i:Nat):St:=⟨[(1,.sl (rowF b) .an),(4,.ptr (.loc 4) 1 3 0 0),(6,.ptr (.loc 6) 2 3 0 0),(16,.sl (rowF a) .an),(17,.i .i64 a.length),(18,.i .i64 i)],
 [(.loc 4,⟨1,.str,3,[nocell]⟩),(.loc 6,⟨2,.str,3,[celF (fz (dotK a b i))]⟩)],4⟩
def stSm(a b:List Fz)(i:Nat):St:=⟨[(0,.sl (rowF a) .an),(1,.sl (rowF b) .an),(12,.i .i64 a.length),(13,.i .i64 i)],[],2⟩
def txts(l:List Fz):List (List UInt8):=l.map fun x=>textQ (fv x)
def stTt(l:List Fz)(i:Nat):St:=⟨[(3,.bs (.loc 3) 1 1 0 i),(6,.sl (rowF l) .an),(7,.i .i64 l.length),(8,.i .i64 i)],[(.loc 3,⟨1,.own,1,rowsT (txts (l.take i))⟩)],3⟩
end
def mixP(c:Rat)(acc:List Rat)(r:List Fz):List Rat:=List.zipWith (fun q x=>q+c*fv x) acc r
def addP(acc:List Rat)(r:List Fz):List Rat:=List.zipWith (fun q x=>q+fv x) acc r
section
variable{T:Tbl}[CNat T][CProd T][CTwos T][CQuot T][CQuotD T][CText T][CWhole T][CCommon T][CFrac T][CJoin T][CRow T]
def stAi(k j n:Nat)(rest:List (List Fz))(r:List Fz)(L acc:List Rat)(i:Nat):St:=
 ⟨[(4,.bs (.fld (.loc 15) 3) 1 3 0 n),(17,.sl (matF rest) .an),(18,.i .i64 k),(19,.i .i64 j),(28,.sl (rowF r) .an),(29,.i .i64 n),(30,.i .i64 i)],
  [(.fld (.loc 15) 3,⟨1,.own,3,rowF (fzs (L.take i++acc.drop i))⟩)],3⟩
def stAo(n:Nat)(rest:List (List Fz))(acc:List Rat)(j:Nat):St:=
 ⟨[(4,.bs (.fld (.loc 15) 3) 1 3 0 n),(17,.sl (matF rest) .an),(18,.i .i64 rest.length),(19,.i .i64 j)],[(.fld (.loc 15) 3,⟨1,.own,3,rowF (fzs ((rest.take j).foldl addP acc))⟩)],3⟩
end
def mixF(p:List (Fz×List Fz))(acc:List Rat):List Rat:=p.foldl (fun a q=>mixP (fv q.1) a q.2) acc
section
variable{T:Tbl}[CNat T][CProd T][CTwos T][CQuot T][CQuotD T][CText T][CWhole T][CCommon T][CFrac T][CJoin T][CRow T]
def stMi(C:List Fz)(k j n:Nat)(l:List (List Fz))(r:List Fz)(L acc:List Rat)(i:Nat):St:=
 ⟨[(0,.sl (rowF C) .an),(10,.bs (.fld (.loc 40) 9) 1 3 0 n),(11,.i .i64 k),(41,.sl (matF l) .an),(42,.i .i64 j),(43,.i .i64 k),(54,.sl (rowF r) .an),(55,.i .i64 n),(56,.i .i64 i)],
  [(.fld (.loc 40) 9,⟨1,.own,3,rowF (fzs (L.take i++acc.drop i))⟩)],3⟩
def stMo(C:List Fz)(n:Nat)(l:List (List Fz))(acc:List Rat)(k:Nat):St:=
 ⟨[(0,.sl (rowF C) .an),(10,.bs (.fld (.loc 40) 9) 1 3 0 n),(41,.sl (matF l) .an),(42,.i .i64 l.length),(43,.i .i64 k)],[(.fld (.loc 40) 9,⟨1,.own,3,rowF (fzs (mixF ((C.zip l).take k) acc))⟩)],3⟩
def stMc(C:List Fz)(l:List (List Fz))(n i:Nat):St:=⟨[(0,.sl (rowF C) .an),(1,.sl (matF l) .an),(2,.i .i64 n),(28,.sl (matF l) .an),(29,.i .i64 l.length),(30,.i .i64 i)],[],2⟩
end
abbrev agS(t h:Fz)(y0 y1 f0 f1:List Fz):AV:=
 .agg [.b t.1,.sl (u32s t.2.1) .an,.sl (u32s t.2.2) .an,.b h.1,.sl (u32s h.2.1) .an,.sl (u32s h.2.2) .an,.sl (rowF y0) .an,.sl (rowF y1) .an,.sl (rowF f0) .an,.sl (rowF f1) .an]
def prodQ(l:List Fz):Rat:=l.foldl (fun p x=>p*fv x) 1
section
variable{T:Tbl}[CNat T][CProd T][CTwos T][CQuot T][CQuotD T][CText T][CWhole T][CCommon T][CFrac T][CJoin T][CRow T][CSpan T]
def stTm(l:List Fz)(i:Nat):St:=⟨[(2,.ptr (.loc 2) 1 3 0 0),(3,.ptr (.loc 3) 2 3 0 0),(7,.sl (rowF l) .an),(8,.i .i64 l.length),(9,.i .i64 i)],[(.loc 2,⟨1,.str,3,[nocell]⟩),(.loc 3,⟨2,.str,3,[celF (fz (prodQ (l.take i)))]⟩)],4⟩
def rightS(h:Fz)(y0 y1 f0 f1:List Fz):Bool:=decide (0<fv h)&&decide (y0.length≤300)&&decide (y1.length=y0.length)&&decide (f0.length=y0.length)&&decide (f1.length=y0.length)
end
theorem zpe(a b:List AV):wkR (a++b)=wkR a++wkR b:=by rw[zgh,zgh,zgh,List.map_append]
abbrev tyS:Ty:=.cons tyF (.cons tyF (.cons (.sl tyF) (.cons (.sl tyF) (.cons (.sl tyF) (.cons (.sl tyF) .nil)))))
class CRef5 (T:Tbl):Prop where
end Go.Ab
section
namespace Go.Ab
end Go.Ab
end
namespace Go.Ab
section
variable{T:Tbl}
def stDw(Q:List UInt32)(o n s i:Nat):St:=⟨[(0,.bs (.bor 0) 0 1 o n),(1,.i .i64 s),(5,.i .i64 i)],[(.bor 0,⟨0,.own,1,u32s Q⟩)],4⟩
end
section
variable{T:Tbl}[CRef02 T][CRef04 T][CRef05 T][CRef07 T][CRef06 T]
def stLw(Q R:List UInt32)(o n o2 n2 c i:Nat):St:=⟨[(0,.bs (.bor 0) 0 1 o n),(1,.bs (.bor 1) 1 1 o2 n2),(4,u64 c),(5,.i .i64 i)],[(.bor 0,⟨0,.own,1,u32s Q⟩),(.bor 1,⟨1,.own,1,u32s R⟩)],6⟩
def nmX:BId:=.fld (.loc 12) 22
def nmY:BId:=.fld (.loc 14) 22
def nm2(f:Bool):BId×BId:=if f then (nmX,nmY) else (nmY,nmX)
def stGc(f:Bool)(P a S P2 b S2:List UInt32)(m n:Nat):St:=
 ⟨[(5,.bs (nm2 f).1 1 1 P.length a.length),(6,.bs (nm2 f).2 2 1 P2.length b.length),(7,.i .i64 m),(8,.i .i64 n)],[((nm2 f).1,⟨1,.own,1,u32s (P++(a++S))⟩),((nm2 f).2,⟨2,.own,1,u32s (P2++(b++S2))⟩)],4⟩
structure Gc where
 f:Bool
 P:List UInt32
 S:List UInt32
 P2:List UInt32
 S2:List UInt32
 X:Nat
 Y:Nat
end
end Go.Ab
section
namespace Go.Ab
end Go.Ab
end
section
namespace Go.Ab
end Go.Ab
end
namespace Go.Ab
section
variable{T:Tbl}[CRef02 T][CRef04 T][CRef05 T][CRef07 T][CRef06 T][CRef08 T][CRef09 T][CRef11 T]
def stZ1(n i:Nat):St:=⟨[(0,.i .i64 n),(3,.bs (.loc 3) 1 3 0 i),(4,.i .i64 i)],[(.loc 3,⟨1,.own,3,rowF (List.replicate i (fz 0))⟩)],3⟩
def stN1(l:List Fz)(i:Nat):St:=⟨[(0,.sl (rowF l) .an),(3,.bs (.loc 3) 1 3 0 i),(4,.i .i64 i)],[(.loc 3,⟨1,.own,3,rowF (nrm (l.take i))⟩)],3⟩
def stS1(a b:List Fz)(i:Nat):St:=⟨[(0,.sl (rowF a) .an),(1,.sl (rowF b) .an),(5,.i .i64 i)],[],2⟩
def stA1(p q:List Rat)(i:Nat):St:=⟨[(0,.sl (rowF (fzs p)) .an),(1,.sl (rowF (fzs q)) .an),(5,.bs (.loc 5) 1 3 0 i),(6,.i .i64 i)],[(.loc 5,⟨1,.own,3,rowF (fzs ((addP p (fzs q)).take i))⟩)],3⟩
def stD1(p q:List Rat)(i:Nat):St:=⟨[(0,.sl (rowF (fzs p)) .an),(1,.sl (rowF (fzs q)) .an),(4,.ptr (.loc 4) 1 3 0 0),(5,.ptr (.loc 5) 2 3 0 0),(6,.i .i64 i)],
 [(.loc 4,⟨1,.str,3,[nocell]⟩),(.loc 5,⟨2,.str,3,[celF (fz (dotK (fzs p) (fzs q) i))]⟩)],4⟩
def longB(l:List Fz)(many words:Nat):Bool:=decide (many<l.length) || l.any fun x=>decide (words<fsz x)
def stL1(l:List Fz)(many words:Nat)(i:Nat):St:=⟨[(0,.sl (rowF l) .an),(1,.i .i64 many),(2,.i .i64 words),(7,.i .i64 i)],[],2⟩
end
def cap300(n:Int):Nat:=(min (max n 0) 300).toNat
section
variable{T:Tbl}[CNat T][CProd T][CTwos T][CQuot T][CQuotD T][CText T][CWhole T][CCommon T][CFrac T][CJoin T][CRow T]
def unitR(n i:Int):List Rat:=if 0≤i∧i<cap300 n then (List.replicate (cap300 n) 0).set i.toNat 1 else List.replicate (cap300 n) 0
end
section
variable{T:Tbl}[CRef02 T][CRef04 T][CRef05 T][CRef07 T][CRef06 T][CRef08 T][CRef09 T][CRef11 T]
def stZ1x(n:Int)(i:Nat):St:=⟨[(0,.i .i64 n),(3,.bs (.loc 3) 1 3 0 i),(4,.i .i64 i)],[(.loc 3,⟨1,.own,3,rowF (List.replicate i (fz 0))⟩)],3⟩
end
class CGrid (T:Tbl):Prop where
section
variable{T:Tbl}[CRef02 T][CRef04 T][CRef05 T][CRef07 T][CRef06 T][CRef08 T][CRef09 T][CRef11 T][CLaw09 T][CLaw11 T]
def stTo11(l:List Fz)(i:Nat):St:=⟨[(0,.sl (rowF l) .an),(3,.bs (.loc 3) 1 3 0 i),(4,.i .i64 i)],[((.loc 3),⟨1,.own,3,rowF (l.take i)⟩)],3⟩
def stOf11(l:List Fz)(i:Nat):St:=⟨[(0,.sl (rowF l) .an),(3,.bs (.loc 3) 1 3 0 i),(4,.i .i64 i)],[((.loc 3),⟨1,.own,3,rowF (l.take i)⟩)],3⟩
end
def widthM:List (List Fz)→Nat
 | []=>0
 | r::_=>r.length
def rightM(m:List (List Fz)):Bool:=m.all fun r=>decide (r.length=widthM m)
def colM(m:List (List Fz))(j:Nat):List Fz:=m.map fun r=>r.getD j (false,[],[])
def turnM(m:List (List Fz))(k:Nat):List (List Fz):=(List.range k).map fun j=>nrm (colM m j)
def scM(r:List Fz)(m:List (List Fz)):List (List Fz):=List.zipWith (fun x row=>scl (fv x) row) r m
def sumM:List (List Fz)→List Rat
 | []=>[]
 | r::m=>m.foldl addP (r.map fv)
def leftQ(r:List Fz)(m:List (List Fz)):List Rat:=sumM (scM r m)
def applyQ(m:List (List Fz))(c:List Fz):List Rat:=m.map fun r=>dotQ r c
section
variable{T:Tbl}[CNat T][CProd T][CTwos T][CQuot T][CQuotD T][CText T][CWhole T][CCommon T][CFrac T][CJoin T][CRow T][CGrid T]
def stGrR(m:List (List Fz))(i:Nat):St:=⟨[(0,.sl (matF m) .an),(5,.sl (matF m) .an),(6,.i .i64 m.length),(7,.i .i64 i)],[],2⟩
def stGrS(a b:List (List Fz))(i:Nat):St:=⟨[(1,.sl (matF b) .an),(12,.sl (matF a) .an),(13,.i .i64 a.length),(14,.i .i64 i)],[],2⟩
def idQ(k:Nat)(i:Nat):List (List Fz):=(List.range i).map fun j=>fzs ((List.replicate k 0).set j 1)
def stGrI(k:Nat)(i:Nat):St:=⟨[(0,.i .i64 k),(3,.bs (.loc 3) 1 1 0 i),(8,.i .i64 k),(9,.i .i64 i)],[((.loc 3),⟨1,.own,1,matF (idQ k i)⟩)],3⟩
def stGrT(m R:List (List Fz))(k j:Nat)(i:Nat):St:=⟨[(0,.sl (matF m) .an),(3,.bs (.loc 3) 1 1 0 j),(4,.i .i64 j),(5,.bs (.loc 5) 2 3 0 i),(12,.i .i64 k),(13,.i .i64 j),(16,.sl (matF m) .an),(17,.i .i64 m.length),(18,.i .i64 i)],[(.loc 3,⟨1,.own,1,matF R⟩),((.loc 5),⟨2,.own,3,rowF (nrm (colM (m.take i) j))⟩)],4⟩
def stTo12t(m:List (List Fz))(k:Nat)(i:Nat):St:=⟨[(0,.sl (matF m) .an),(3,.bs (.loc 3) 1 1 0 i),(12,.i .i64 k),(13,.i .i64 i)],[((.loc 3),⟨1,.own,1,matF (turnM m i)⟩)],3⟩
end
section
variable{T:Tbl}[CNat T][CProd T][CTwos T][CQuot T][CQuotD T][CText T][CWhole T][CCommon T][CFrac T][CJoin T][CRow T][CGrid T]
def stGrL(r:List Fz)(m:List (List Fz))(i:Nat):St:=⟨[(0,.sl (rowF r) .an),(6,.bs (.loc 6) 1 1 0 i),(19,.sl (matF m) .an),(20,.i .i64 m.length),(21,.i .i64 i)],[((.loc 6),⟨1,.own,1,matF (scM (r.take i) (m.take i))⟩)],3⟩
def stGrA(m:List (List Fz))(c:List Fz)(i:Nat):St:=⟨[(1,.sl (rowF c) .an),(6,.bs (.loc 6) 1 3 0 i),(21,.sl (matF m) .an),(22,.i .i64 m.length),(23,.i .i64 i)],[((.loc 6),⟨1,.own,3,rowF (fzs (applyQ (m.take i) c))⟩)],3⟩
def mulM(a b:List (List Fz)):List (List Fz):=a.map fun r=>fzs (leftQ r b)
def stGrM(a m:List (List Fz))(i:Nat):St:=⟨[(1,.sl (matF m) .an),(6,.bs (.loc 6) 1 1 0 i),(26,.sl (matF a) .an),(27,.i .i64 a.length),(28,.i .i64 i)],[((.loc 6),⟨1,.own,1,matF (mulM (a.take i) m)⟩)],3⟩
def addM(a b:List (List Fz)):List (List Fz):=List.zipWith (fun r s=>fzs (addP (r.map fv) s)) a b
def stGrP(a m:List (List Fz))(i:Nat):St:=⟨[(1,.sl (matF m) .an),(6,.bs (.loc 6) 1 1 0 i),(33,.sl (matF a) .an),(34,.i .i64 a.length),(35,.i .i64 i)],[((.loc 6),⟨1,.own,1,matF (addM (a.take i) (m.take i))⟩)],3⟩
end
def dotR:List Rat→List Rat→Rat
 | x::a,y::b=>x*y+dotR a b
 | _,_=>0
def valM(m:List (List Fz)):List (List Rat):=m.map fun r=>r.map fv
def fzM(L:List (List Rat)):List (List Fz):=L.map fzs
def widthQ:List (List Rat)→Nat
 | []=>0
 | r::_=>r.length
def rightQ(L:List (List Rat)):Bool:=L.all fun r=>decide (r.length=widthQ L)
def colQ(L:List (List Rat))(j:Nat):List Rat:=L.map fun p=>p.getD j 0
def turnQ(L:List (List Rat)):List (List Rat):=(List.range (widthQ L)).map (colQ L)
def applyR(L:List (List Rat))(c:List Rat):List Rat:=L.map fun p=>dotR p c
def leftR(r:List Rat)(L:List (List Rat)):List Rat:=applyR (turnQ L) r
def absQ(q:Rat):Rat:=if q<0 then -q else q
def sclR(c:Rat)(l:List Rat):List Rat:=l.map fun x=>c*x
def addR(a b:List Rat):List Rat:=List.zipWith (· + ·) a b
def maxStep(b x:Rat):Rat:=if b<absQ x then absQ x else b
def normR(l:List Rat):Rat:=l.foldl maxStep 0
def mixR:List (Rat×List Rat)→List Rat→List Rat
 | [],acc=>acc
 | p::l,acc=>mixR l (addR acc (sclR p.1 p.2))
def sqC:List UInt32→Nat
 | []=>0
 | x::r=>4294967296*(x.toNat*val r)+4294967296*4294967296*sqC r
def sqD:List UInt32→Nat
 | []=>0
 | x::r=>x.toNat*x.toNat+4294967296*4294967296*sqD r
section
variable{T:Tbl}[CLimb T][CNat T][CProd T][CTwos T][CPow T]
def stSqA(a X:List UInt32)(i:Nat):St:=
 ⟨[(0,.sl (u32s a) .an),(3,.bs (.loc 14) 1 1 0 (2*a.length+1)),(15,.sl (u32s a) .an),(16,.i .i64 a.length),(17,.i .i64 i)],[(.loc 14,⟨1,.own,1,u32s (X++List.replicate (a.length+1-i) 0)⟩)],3⟩
def stSqD(a X:List UInt32)(U:List (List AV))(i:Nat):St:=
 ⟨[(6,.sl U .an),(7,.bs (.loc 38) 1 1 0 (2*a.length)),(39,.sl (u32s a) .an),(40,.i .i64 a.length),(41,.i .i64 i)],[(.loc 38,⟨1,.own,1,u32s (X++List.replicate (2*a.length-2*i) 0)⟩)],3⟩
end
class CLaw12 (T:Tbl):Prop where
class CRef12 (T:Tbl):Prop where
section
variable{T:Tbl}[CRef02 T][CRef04 T][CRef05 T][CRef07 T][CRef06 T][CRef08 T][CRef09 T][CRef11 T][CRef12 T]
def stR12(m:List (List Fz))(i:Nat):St:=⟨[(0,.sl (matF m) .an),(3,.i .i64 i)],[],2⟩
def stN12(m:List (List Fz))(i:Nat):St:=⟨[(0,.sl (matF m) .an),(3,.bs (.loc 3) 1 1 0 i),(4,.i .i64 i)],[((.loc 3),⟨1,.own,1,matF (fzM (valM (m.take i)))⟩)],3⟩
def stS12(a b:List (List Fz))(i:Nat):St:=⟨[(0,.sl (matF a) .an),(1,.sl (matF b) .an),(5,.i .i64 i)],[],2⟩
def stI12(n:Int)(k:Nat)(i:Nat):St:=⟨[(0,.i .i64 n),(3,.bs (.loc 3) 1 1 0 i),(4,.i .i64 i)],[((.loc 3),⟨1,.own,1,matF (idQ k i)⟩)],3⟩
def stT12i(L:List (List Rat))(R:List (List Fz))(j:Nat)(i:Nat):St:=⟨[(0,.sl (matF (fzM L)) .an),(3,.bs (.loc 3) 1 1 0 j),(4,.i .i64 j),(5,.bs (.loc 5) 2 3 0 i),(6,.i .i64 i)],[(.loc 3,⟨1,.own,1,matF R⟩),((.loc 5),⟨2,.own,3,rowF (fzs (colQ (L.take i) j))⟩)],4⟩
def stT12o(L:List (List Rat))(i:Nat):St:=⟨[(0,.sl (matF (fzM L)) .an),(3,.bs (.loc 3) 1 1 0 i),(4,.i .i64 i)],[((.loc 3),⟨1,.own,1,matF (fzM ((List.range i).map (colQ L)))⟩)],3⟩
def stA12(L:List (List Rat))(c:List Rat)(i:Nat):St:=⟨[(0,.sl (matF (fzM L)) .an),(1,.sl (rowF (fzs c)) .an),(5,.bs (.loc 5) 1 3 0 i),(6,.i .i64 i)],[((.loc 5),⟨1,.own,3,rowF (fzs (applyR (L.take i) c))⟩)],3⟩
def longM(m:List (List Fz))(many words:Nat):Bool:=decide (many<m.length) || m.any fun r=>longB r many words
def stL12(m:List (List Fz))(many words:Nat)(i:Nat):St:=⟨[(0,.sl (matF m) .an),(1,.i .i64 many),(2,.i .i64 words),(7,.i .i64 i)],[],2⟩
end
section
variable{T:Tbl}[CNat T][CProd T][CTwos T][CQuot T][CQuotD T][CText T][CWhole T][CCommon T][CFrac T][CJoin T][CRow T][CGrid T][CRef02 T][CRef04 T][CRef05 T][CRef07 T][CRef06 T][CRef08 T][CRef09 T][CRef11 T][CRef12 T][CLaw09 T][CLaw11 T][CLaw12 T]
def stTo12(m:List (List Fz))(i:Nat):St:=⟨[(0,.sl (matF m) .an),(3,.bs (.loc 3) 1 1 0 i),(4,.i .i64 i)],[((.loc 3),⟨1,.own,1,matF (m.take i)⟩)],3⟩
def stI12s(a b:List (List Fz))(i:Nat):St:=⟨[(0,.sl (matF a) .an),(1,.sl (matF b) .an),(5,.i .i64 i)],[],2⟩
end
class CPoly (T:Tbl):Prop where
def tlen(l:List Rat):Nat→Nat
 | 0=>0
 | n+1=>if l.getD n 0=0 then tlen l n else n+1
def trimR(l:List Rat):List Rat:=l.take (tlen l l.length)
section
variable{T:Tbl}[CNat T][CProd T][CTwos T][CQuot T][CQuotD T][CText T][CWhole T][CCommon T][CFrac T][CJoin T][CRow T][CPoly T]
def evlR:List Rat→Rat→Rat
 | [],_=>0
 | a::l,x=>evlR l x*x+a
def dif(l:List Rat):List Rat:=(List.range (l.length-1)).map fun(i:Nat)=>(((i:Int)+1:Int):Rat)*l.getD (i+1) 0
def stDf(l:List Fz)(i:Nat):St:=⟨[(0,.sl (rowF l) .an),(3,.bs (.loc 3) 1 3 0 i),(4,.i .i64 ((i:Int)+1))],[((.loc 3),⟨1,.own,3,rowF (fzs ((dif (l.map fv)).take i))⟩)],3⟩
end
def sizF(x:Fz):Nat:=blen (val x.2.1)+blen (val x.2.2)
def sizL(l:List Fz):Nat:=l.foldl (fun n x=>max n (sizF x)) 0
section
variable{T:Tbl}[CLimb T][CNat T][CProd T][CTwos T][CQuot T][CQuotD T][CText T][CWhole T][CCommon T][CFrac T][CFrac2 T][CFrac5 T][CPow T][CJoin T][CRow T][CRow5 T]
def bestI(b c:Rat)(i:Nat):Rat:=if i=0 then 0 else if i=1 then b else (if b<c then c else b)
def stMx(b c:Rat)(i:Nat):St:=⟨[(2,.ptr (.loc 2) 1 3 0 0),(3,.ptr (.loc 3) 2 3 0 0),(7,.sl [celF (fz b),celF (fz c)] .an),(8,.i .i64 2),(9,.i .i64 i)],
 [(.loc 2,⟨1,.str,3,[nocell]⟩),(.loc 3,⟨2,.str,3,[celF (fz (bestI b c i))]⟩)],4⟩
def stRn(l:List Fz)(i:Nat):St:=⟨[(2,.ptr (.loc 2) 1 3 0 0),(3,.ptr (.loc 3) 2 3 0 0),(7,.sl (rowF l) .an),(8,.i .i64 l.length),(9,.i .i64 i)],
 [(.loc 2,⟨1,.str,3,[nocell]⟩),(.loc 3,⟨2,.str,3,[celF (fz (normR ((l.map fv).take i)))]⟩)],4⟩
def stRs(l:List Fz)(i:Nat):St:=⟨[(3,.i .i64 (sizL (l.take i))),(6,.sl (rowF l) .an),(7,.i .i64 l.length),(8,.i .i64 i)],[],2⟩
end
section
variable{T:Tbl}[CRef02 T][CRef04 T][CRef05 T][CRef07 T][CRef06 T][CRef08 T][CRef09 T][CRef11 T][CRef5 T]
def stSc(c:Rat)(p:List Rat)(i:Nat):St:=⟨[(1,.sl (rowF (fzs p)) .an),(2,.ptr (.loc 2) 1 3 0 0),(5,.bs (.loc 5) 2 3 0 i),(6,.i .i64 i)],
 [(.loc 2,⟨1,.str,3,[celF (fz c)]⟩),(.loc 5,⟨2,.own,3,rowF (fzs ((sclR c p).take i))⟩)],4⟩
def stRx(p:List Rat)(i:Nat):St:=⟨[(0,.sl (rowF (fzs p)) .an),(2,.ptr (.loc 2) 1 3 0 0),(3,.ptr (.loc 3) 2 3 0 0),(4,.i .i64 i)],
 [(.loc 2,⟨1,.str,3,[nocell]⟩),(.loc 3,⟨2,.str,3,[celF (fz (normR (p.take i)))]⟩)],4⟩
end
structure Ins where
 op:Int
 a:Int
 b:Int
 n:Fz
abbrev celI(i:Ins):List AV:=[.i .i64 i.op,.i .i64 i.a,.i .i64 i.b,.b i.n.1,.sl (u32s i.n.2.1) .an,.sl (u32s i.n.2.2) .an]
def rowI(l:List Ins):List (List AV):=l.map celI
@[simp] theorem zm6(l:List Ins):(rowI l).length=l.length:=by simp[rowI]
@[simp] theorem zac3(l:List Ins):wkL (rowI l)=rowI l:=by rw[zbu];simp[rowI,wkR,wkA]
@[simp] theorem z7x(l:List Ins)(i:Nat)(h:i<(rowI l).length):(rowI l)[i]=celI (l[i]'(by simpa using h)):=by simp[rowI]
theorem zuc(l:List Ins)(x:Ins):rowI l++[celI x]=rowI (l++[x]):=by simp[rowI]
@[simp] theorem z4p(l:List Ins)(n:Nat):(rowI l).take n=rowI (l.take n):=by simp[rowI]
@[simp] theorem z7y:rowI []=[]:=rfl
structure Tp where
 code:List Ins
 outs:List Int
 dim:Int
 par:Int
abbrev etp(t:Tp):AV:=.agg [.sl (rowI t.code) .an,.sl (ints t.outs) .an,.i .i64 t.dim,.i .i64 t.par]
def rightF(x:Fz):Bool:=decide (x=fz (fv x))
def blankF(x:Fz):Bool:=!x.1&&x.2.1.isEmpty&&x.2.2.isEmpty
def readsI(i:Ins):List Int:=if i.op=6∨i.op=11 then [i.a] else if 7≤i.op∧i.op≤10 then [i.a,i.b] else []
def belowB(i m:Int):Bool:=decide (0≤i)&&decide (i<m)
def mayI(dim par p:Int)(i:Ins):Bool:=
 if i.op=1 then decide (i.a=0)&&decide (i.b=0)&&rightF i.n
 else blankF i.n&&(readsI i).all (fun r=>belowB r p) &&
  (if i.op=2 then decide (i.a=0)&&decide (i.b=0)
   else if i.op=3 then belowB i.a dim&&decide (i.b=0)
   else if i.op=4 then belowB i.a par&&decide (i.b=0)
   else if i.op=6 then decide (i.b=0)
   else if i.op=11 then decide (-8≤i.b)&&decide (i.b≤8)
   else decide ((readsI i).length=2))
def firstI(dim par:Int):Nat→List Ins→Int
 | _,[]=>-1
 | p,i::r=>if mayI dim par p i then firstI dim par (p+1) r else p
def wholeT(t:Tp):Bool:=belowB (t.dim-1) 6&&belowB t.par 7&&decide ((t.outs.length:Int)=t.dim)&&decide (t.code.length≤300)
def wrongT(t:Tp):Int:=
 if wholeT t=false then -2 else if firstI t.dim t.par 0 t.code≠-1 then firstI t.dim t.par 0 t.code
 else if (t.outs.all fun o=>belowB o t.code.length)=false then t.code.length else -1
def okT(t:Tp):Bool:=decide (wrongT t=-1)
theorem zii(dim par:Int):∀(l:List Ins) (p:Nat),firstI dim par p l=-1↔∀(k:Nat) (i:Ins),l[k]? = some i→mayI dim par (p+k:Nat) i=true
 | [],p=>by simp[firstI]
 | x::l,p=>by
  have ih:=zii dim par l (p+1)
  unfold firstI
  by_cases h:mayI dim par p x=true
  ·rw[if_pos h,ih]
   constructor
   ·intro H k i hk
    cases k with
    | zero=>simp only[List.getElem?_cons_zero,Option.some.injEq]at hk;subst hk;simpa using h
    | succ k=>have:=H k i (by simpa using hk);rwa [show p+1+k=p+(k+1) by omega]at this
   ·intro H k i hk
    have:=H (k+1) i (by simpa using hk)
    rwa [show p+(k+1)=p+1+k by omega]at this
  ·rw[if_neg h]
   constructor
   ·intro H;omega
   ·intro H;exact absurd (by simpa using H 0 x rfl) h
structure OkTp (t:Tp):Prop where
 d1:1≤t.dim
 d2:t.dim≤6
 p1:0≤t.par
 p2:t.par≤6
 ol:(t.outs.length:Int)=t.dim
 cl:t.code.length≤300
 may:∀(k:Nat) (i:Ins),t.code[k]? = some i→mayI t.dim t.par k i=true
 outs:∀o∈t.outs,0≤o∧o<t.code.length
theorem zzn(t:Tp):okT t=true↔OkTp t:=by
 unfold okT wrongT
 rw[decide_eq_true_eq]
 by_cases h1:wholeT t=false
 ·rw[if_pos h1]
  constructor
  ·intro h;omega
  ·intro h
   exfalso
   have:wholeT t=true:=by
    have:=h.d1;have:=h.d2;have:=h.p1;have:=h.p2
    simp only[wholeT,belowB,Bool.and_eq_true,decide_eq_true_eq]
    exact⟨⟨⟨⟨by omega,by omega⟩,by omega,by omega⟩,h.ol⟩,h.cl⟩
   rw[this]at h1;cases h1
 ·have hw:wholeT t=true:=by simpa using h1
  rw[if_neg h1]
  simp only[wholeT,belowB,Bool.and_eq_true,decide_eq_true_eq]at hw
  obtain⟨⟨⟨⟨a1,a2⟩,a3,a4⟩,a5⟩,a6⟩:=hw
  have hf:=zii t.dim t.par t.code 0
  by_cases h2:firstI t.dim t.par 0 t.code≠-1
  ·rw[if_pos h2]
   constructor
   ·intro h;exact absurd h h2
   ·intro h;exact absurd (hf.2 fun k i hk=>by rw[Nat.zero_add];exact h.may k i hk) h2
  ·have h2':firstI t.dim t.par 0 t.code=-1:=by simpa using h2
   rw[if_neg h2]
   by_cases h3:(t.outs.all fun o=>belowB o t.code.length)=false
   ·rw[if_pos h3]
    constructor
    ·intro h;omega
    ·intro h
     exfalso
     have:(t.outs.all fun o=>belowB o t.code.length)=true:=List.all_eq_true.2 fun o ho=>by
      have:=h.outs o ho
      simp only[belowB,Bool.and_eq_true,decide_eq_true_eq]
      exact this
     rw[this]at h3;cases h3
   ·rw[if_neg h3]
    have h3':(t.outs.all fun o=>belowB o t.code.length)=true:=by simpa using h3
    refine⟨fun _=>⟨by omega,by omega,a3,by omega,a5,a6,fun k i hk=>by have:=hf.1 h2' k i hk;rwa [Nat.zero_add]at this,fun o ho=>?_⟩,fun _=>rfl⟩
    have:=List.all_eq_true.1 h3' o ho
    simpa only[belowB,Bool.and_eq_true,decide_eq_true_eq]using this
structure Po where
 t:Rat
 y:List Rat
 p:List Rat
structure PoF where
 t:Fz
 y:List Fz
 p:List Fz
def PoF.v(x:PoF):Po:=⟨fv x.t,x.y.map fv,x.p.map fv⟩
def Po.f(x:Po):PoF:=⟨fz x.t,fzs x.y,fzs x.p⟩
abbrev ept(x:PoF):AV:=.agg [.b x.t.1,.sl (u32s x.t.2.1) .an,.sl (u32s x.t.2.2) .an,.sl (rowF x.y) .an,.sl (rowF x.p) .an]
def gI(l:List Rat)(i:Int):Rat:=l.getD i.toNat 0
def powZ(x:Rat)(e:Int):Rat:=x^e
def valI(P:Po)(D:List Rat)(i:Ins):Rat×Bool:=
 if i.op=1 then (fv i.n,true)
 else if i.op=3 then (gI P.y i.a,true)
 else if i.op=4 then (gI P.p i.a,true)
 else if i.op=6 then (-gI D i.a,true)
 else if i.op=7 then (gI D i.a+gI D i.b,true)
 else if i.op=8 then (gI D i.a-gI D i.b,true)
 else if i.op=9 then (gI D i.a*gI D i.b,true)
 else if i.op=10 then (gI D i.a/gI D i.b,decide (gI D i.b≠0))
 else if i.op=11 then (if i.b<0∧gI D i.a=0 then (0,false) else (powZ (gI D i.a) i.b,true))
 else (P.t,true)
def sizQ(q:Rat):Nat:=sizF (fz q)
def runR(lim:Nat)(P:Po):List Ins→List Rat→List Rat×Nat×Nat
 | [],D=>(D,0,0)
 | i::r,D=>if (valI P D i).2=false then ([],3,D.length) else if lim<sizQ (valI P D i).1 then ([],6,D.length) else runR lim P r (D++[(valI P D i).1])
abbrev tyI:Ty:=.cons (.int .i64) (.cons (.int .i64) (.cons (.int .i64) (.cons tyF .nil)))
abbrev tyT:Ty:=.cons (.sl tyI) (.cons (.sl (.int .i64)) (.cons (.int .i64) (.cons (.int .i64) .nil)))
abbrev tyP:Ty:=.cons tyF (.cons (.sl tyF) (.cons (.sl tyF) .nil))
structure Nd where
 op:Int
 i:Int
 n:List UInt32
 deriving DecidableEq
abbrev celN(x:Nd):List AV:=[.i .i64 x.op,.i .i64 x.i,.sl (u32s x.n) .an]
def rowN(l:List Nd):List (List AV):=l.map celN
@[simp] theorem zzo(l:List Nd):(rowN l).length=l.length:=by simp[rowN]
@[simp] theorem zzp(l:List Nd):wkL (rowN l)=rowN l:=by rw[zbu];simp[rowN,wkR,wkA]
@[simp] theorem z7z(l:List Nd)(i:Nat)(h:i<(rowN l).length):(rowN l)[i]=celN (l[i]'(by simpa using h)):=by simp[rowN]
theorem zud(l:List Nd)(x:Nd):rowN l++[celN x]=rowN (l++[x]):=by simp[rowN]
@[simp] theorem z4q(l:List Nd)(n:Nat):(rowN l).take n=rowN (l.take n):=by simp[rowN]
@[simp] theorem z70:rowN []=[]:=rfl
theorem zll{m:List Nd}{n:Nat}(h:m.length=n)(x:Nd):wkL (rowN (List.take n m)++[celN x])=rowN (m++[x]):=by
 rw[List.take_of_length_le (by omega),zud,zzp]
@[simp] theorem z4r(l:List Nd):Option.all (fun r:List AV=>decide (r.length=3)) (rowN l).head? = true:=by cases l<;>rfl
@[simp] theorem z4s(l:List Nd):rowZ 3 (rowN l)=true:=by cases l<;>rfl
@[simp] theorem zxd(l:List Nd):(rowN l).isEmpty=l.isEmpty:=by cases l<;>rfl
def rowC(l:List (List Nd)):List (List AV):=l.map fun c=>[.sl (rowN c) .an]
@[simp] theorem zhb(l:List (List Nd)):(rowC l).length=l.length:=by simp[rowC]
@[simp] theorem zue(l:List (List Nd)):wkL (rowC l)=rowC l:=by rw[zbu];simp[rowC,wkR,wkA]
@[simp] theorem z71(l:List (List Nd))(i:Nat)(h:i<(rowC l).length):(rowC l)[i]=[.sl (rowN (l[i]'(by simpa using h))) .an]:=by simp[rowC]
theorem zlm(l:List (List Nd))(x:List Nd):rowC l++[[.sl (rowN x) .an]]=rowC (l++[x]):=by simp[rowC]
@[simp] theorem zwm:rowC []=[]:=rfl
def arN(op:Int):Int:=if 1≤op∧op≤5 then 0 else if op=6∨op=11 then 1 else if 7≤op∧op≤10 then 2 else -1
theorem zbp(op:Int):(arN op=0∧1≤op∧op≤5)∨(arN op=1∧(op=6∨op=11))∨(arN op=2∧7≤op∧op≤10)∨(arN op=-1∧(op<1∨11<op)):=by
 unfold arN
 split
 ·left;omega
 ·split
  ·right;left;omega
  ·split
   ·right;right;left;omega
   ·right;right;right;omega
def wrongL:Nat→Int→List Nd→Int
 | i,o,[]=>if o=1 then -1 else i
 | i,o,x::r=>if arN x.op<0∨o<arN x.op then i else wrongL (i+1) (o+1-arN x.op) r
def wrongN(l:List Nd):Int:=wrongL 0 0 l
def openN(o:Int)(l:List Nd):Int:=l.foldl (fun o x=>o+1-arN x.op) o
def goL:Nat→Int→List Nd→Option Nat×Int
 | _,o,[]=>(none,o)
 | i,o,x::r=>if arN x.op<0∨o<arN x.op then (some i,o) else goL (i+1) (o+1-arN x.op) r
theorem zln:∀(l:List Nd) (i:Nat) (o:Int),wrongL i o l=match goL i o l with
  | (some k,_)=>(k:Int)
  | (none,p)=>if p=1 then -1 else i+l.length
 | [],i,o=>by simp[wrongL,goL]
 | x::r,i,o=>by
  unfold wrongL goL
  by_cases h:arN x.op<0∨o<arN x.op
  ·rw[if_pos h,if_pos h]
  ·rw[if_neg h,if_neg h,zln r (i+1) (o+1-arN x.op)]
   generalize goL (i+1) (o+1-arN x.op) r=G
   obtain⟨_ | k,p⟩:=G
   ·dsimp only
    by_cases hp:p=1
    ·rw[if_pos hp,if_pos hp]
    ·rw[if_neg hp,if_neg hp,List.length_cons];omega
   ·rfl
def wordsB(n:List UInt32):Bool:=decide (n=ofN (val n))&&decide ((textN (val n)).length≤60)
def belB(i m:Int):Bool:=decide (0≤i)&&decide (i<m)
def okN(dim pars lets:Int)(x:Nd):Bool:=
 if x.op=1 then decide (x.i=0)&&wordsB x.n
 else if x.n≠[]∨x.op<1∨11<x.op then false
 else if x.op=3 then belB x.i dim else if x.op=4 then belB x.i pars else if x.op=5 then belB x.i lets
 else if x.op=11 then decide (-8≤x.i)&&decide (x.i≤8)
 else decide (x.i=0)
def placeL(dim pars lets w:Int):Nat→List Nd→Int
 | _,[]=>w
 | i,x::r=>if (i:Int)=w∨okN dim pars lets x=false then i else placeL dim pars lets w (i+1) r
def findL(dim pars lets w:Int):Nat→List Nd→Option Nat
 | _,[]=>none
 | i,x::r=>if (i:Int)=w∨okN dim pars lets x=false then some i else findL dim pars lets w (i+1) r
theorem zhc(dim pars lets w:Int):∀(l:List Nd) (i:Nat),placeL dim pars lets w i l=match findL dim pars lets w i l with
  | some k=>(k:Int)
  | none=>w
 | [],i=>rfl
 | x::r,i=>by
  unfold placeL findL
  by_cases h:(i:Int)=w∨okN dim pars lets x=false
  ·rw[if_pos h,if_pos h]
  ·rw[if_neg h,if_neg h,zhc dim pars lets w r (i+1)]
def placeN(dim pars lets:Int)(l:List Nd):Int:=placeL dim pars lets (wrongN l) 0 l
inductive Tre where
 | leaf (x:Nd)
 | un (x:Nd) (a:Tre)
 | bin (x:Nd) (a b:Tre)
def Tre.flat:Tre→List Nd
 | .leaf x=>[x]
 | .un x a=>a.flat++[x]
 | .bin x a b=>a.flat++(b.flat++[x])
def Tre.ok:Tre→Prop
 | .leaf x=>arN x.op=0
 | .un x a=>arN x.op=1∧a.ok
 | .bin x a b=>arN x.op=2∧a.ok∧b.ok
def Tre.deep:Tre→Nat
 | .leaf _=>1
 | .un _ a=>a.deep+1
 | .bin _ a b=>max a.deep b.deep+1
def flats(s:List Tre):List Nd:=s.flatMap Tre.flat
theorem zdd:∀(l:List Nd) (i:Nat) (s:List Tre),(∀t∈s,t.ok)→wrongL i s.length l=-1→∃t:Tre,t.ok∧t.flat=flats s++l
 | [],i,s,hs,h=>by
  unfold wrongL at h
  by_cases h1:(s.length:Int)=1
  ·obtain⟨t,rfl⟩:=List.length_eq_one_iff.1 (show s.length=1 by omega)
   exact⟨t,hs t (by simp),by simp[flats]⟩
  ·rw[if_neg h1]at h;omega
 | x::r,i,s,hs,h=>by
  unfold wrongL at h
  by_cases h1:arN x.op<0∨(s.length:Int)<arN x.op
  ·rw[if_pos h1]at h;omega
  ·rw[if_neg h1]at h
   rcases zbp x.op with ⟨e,_⟩ | ⟨e,_⟩ | ⟨e,_⟩ | ⟨e,_⟩
   ·rw[e]at h
    obtain⟨t,h2,h3⟩:=zdd r (i+1) (s++[.leaf x]) (by
     intro t ht
     rcases List.mem_append.1 ht with ht | ht
     ·exact hs t ht
     ·rw[List.mem_singleton.1 ht];exact e) (by rw[←h];congr 1;simp)
    exact⟨t,h2,by rw[h3];simp[flats,Tre.flat]⟩
   ·rw[e]at h h1
    obtain⟨s',a,rfl⟩:=List.eq_nil_or_concat s |>.resolve_left (by rintro rfl;simp at h1)
    rw[List.concat_eq_append]at *
    obtain⟨t,h2,h3⟩:=zdd r (i+1) (s'++[.un x a]) (by
     intro t ht
     rcases List.mem_append.1 ht with ht | ht
     ·exact hs t (by simp[ht])
     ·rw[List.mem_singleton.1 ht];exact⟨e,hs a (by simp)⟩) (by rw[←h];congr 1;simp)
    exact⟨t,h2,by rw[h3];simp[flats,Tre.flat]⟩
   ·rw[e]at h h1
    obtain⟨s1,b,rfl⟩:=List.eq_nil_or_concat s |>.resolve_left (by rintro rfl;simp at h1)
    rw[List.concat_eq_append]at *
    obtain⟨s2,a,rfl⟩:=List.eq_nil_or_concat s1 |>.resolve_left (by rintro rfl;simp at h1)
    rw[List.concat_eq_append]at *
    obtain⟨t,h2,h3⟩:=zdd r (i+1) (s2++[.bin x a b]) (by
     intro t ht
     rcases List.mem_append.1 ht with ht | ht
     ·exact hs t (by simp[ht])
     ·rw[List.mem_singleton.1 ht];exact⟨e,hs a (by simp),hs b (by simp)⟩) (by rw[←h];congr 1;simp;omega)
    exact⟨t,h2,by rw[h3];simp[flats,Tre.flat]⟩
   ·omega
theorem zm7{l:List Nd}(h:wrongN l=-1):∃t:Tre,t.ok∧t.flat=l:=by
 obtain⟨t,h1,h2⟩:=zdd l 0 [] (by simp) h
 exact⟨t,h1,by simpa[flats]using h2⟩
theorem zde:∀(t:Tre),t.ok→∀(i:Nat) (o:Int) (r:List Nd),0≤o→wrongL i o (t.flat++r)=wrongL (i+t.flat.length) (o+1) r
 | .leaf x,h,i,o,r,ho=>by
  have e:arN x.op=0:=h
  show wrongL i o (x::r)=_
  rw[wrongL,if_neg (by omega),e]
  simp[Tre.flat]
 | .un x a,h,i,o,r,ho=>by
  have e:arN x.op=1:=h.1
  rw[Tre.flat,List.append_assoc,zde a h.2 i o _ ho]
  show wrongL _ _ (x::r)=_
  rw[wrongL,if_neg (by omega),e]
  congr 1
  ·simp;omega
  ·omega
 | .bin x a b,h,i,o,r,ho=>by
  have e:arN x.op=2:=h.1
  rw[Tre.flat,List.append_assoc,zde a h.2.1 i o _ ho,List.append_assoc,zde b h.2.2 _ _ _ (by omega)]
  show wrongL _ _ (x::r)=_
  rw[wrongL,if_neg (by omega),e]
  congr 1
  ·simp;omega
  ·omega
theorem zeb{t:Tre}(h:t.ok):wrongN t.flat=-1:=by
 have:=zde t h 0 0 [] (by decide)
 rw[List.append_nil]at this
 unfold wrongN
 rw[this];rfl
theorem zds:∀(l:List Nd) (i:Nat) (o:Int),wrongL i o l=-1∨(i≤wrongL i o l∧wrongL i o l≤i+l.length)
 | [],i,o=>by
  unfold wrongL
  split
  ·left;rfl
  ·right;simp
 | x::r,i,o=>by
  unfold wrongL
  split
  ·right;simp;omega
  ·rcases zds r (i+1) (o+1-arN x.op) with h | h
   ·left;exact h
   ·right;simp only[List.length_cons];omega
theorem zhd(dim pars lets w:Int):∀(l:List Nd) (i:Nat),placeL dim pars lets w i l<0→w<0∧∀x∈l,okN dim pars lets x=true
 | [],i,h=>⟨h,by simp⟩
 | x::r,i,h=>by
  unfold placeL at h
  split at h
  ·omega
  ·next h1=>
   obtain⟨h2,h3⟩:=zhd dim pars lets w r (i+1) h
   refine⟨h2,fun y hy=>?_⟩
   rcases List.mem_cons.1 hy with rfl | hy
   ·cases hk:okN dim pars lets y with
    | true=>rfl
    | false=>exact absurd (.inr hk) h1
   ·exact h3 y hy
theorem zlo(dim pars lets w:Int):∀(l:List Nd) (i:Nat),placeL dim pars lets w i l=w∨(i≤placeL dim pars lets w i l∧placeL dim pars lets w i l<i+l.length)
 | [],i=>.inl rfl
 | x::r,i=>by
  unfold placeL
  split
  ·right;simp only[List.length_cons];omega
  ·rcases zlo dim pars lets w r (i+1) with h | h
   ·left;exact h
   ·right;simp only[List.length_cons];omega
theorem zcq{dim pars lets:Int}{l:List Nd}(h:placeN dim pars lets l<0):∃t:Tre,t.ok∧t.flat=l∧∀x∈l,okN dim pars lets x=true:=by
 obtain⟨h1,h2⟩:=zhd dim pars lets _ l 0 h
 have h3:wrongN l=-1:=by
  rcases zds l 0 0 with h | h
  ·exact h
  ·unfold wrongN at h1;omega
 obtain⟨t,h4,h5⟩:=zm7 h3
 exact⟨t,h4,h5,h2⟩
theorem zlp(dim pars lets:Int)(l:List Nd):placeN dim pars lets l=-1∨(0≤placeN dim pars lets l∧placeN dim pars lets l≤l.length):=by
 unfold placeN
 rcases zlo dim pars lets (wrongN l) l 0 with h | h
 ·rw[h]
  unfold wrongN
  rcases zds l 0 0 with h | h<;>omega
 ·right;omega
theorem zij{a:List UInt32}:(ofN (val a)).length=a.length↔a=ofN (val a):=by
 constructor
 ·intro h
  obtain⟨n,h1,h2,_⟩:=zjf a
  have h3:n=a.length:=by
   have:=congrArg List.length h2
   rw[List.length_take,h]at this
   omega
  rw[h3,List.take_length]at h2
  exact h2
 ·intro h;exact(congrArg List.length h).symm
structure Lt where
 name:List UInt8
 code:List Nd
abbrev celLt(x:Lt):List AV:=[.s x.name,.sl (rowN x.code) .an]
def rowLt(l:List Lt):List (List AV):=l.map celLt
@[simp] theorem zfg(l:List Lt):(rowLt l).length=l.length:=by simp[rowLt]
@[simp] theorem zwe(l:List Lt):wkL (rowLt l)=rowLt l:=by rw[zbu];simp[rowLt,wkR,wkA]
@[simp] theorem z4i(l:List Lt)(i:Nat)(h:i<(rowLt l).length):(rowLt l)[i]=celLt (l[i]'(by simpa using h)):=by simp[rowLt]
theorem zqk(l:List Lt)(x:Lt):rowLt l++[celLt x]=rowLt (l++[x]):=by simp[rowLt]
@[simp] theorem zt6:rowLt []=[]:=rfl
structure Fd where
 lets:List Lt
 outs:List (List Nd)
abbrev efd(f:Fd):AV:=.agg [.sl (rowLt f.lets) .an,.sl (rowC f.outs) .an]
def codesD(f:Fd):List (List Nd):=f.lets.map (·.code)++f.outs
abbrev tyN:Ty:=.cons (.int .i64) (.cons (.int .i64) (.cons (.sl (.int .u32)) .nil))
abbrev tyL:Ty:=.cons .str (.cons (.sl tyN) .nil)
abbrev tyD:Ty:=.cons (.sl tyL) (.cons (.sl (.sl tyN)) .nil)
theorem z34{cs:List AV}(h:Ok tyN cs):∃x:Nd,wkR cs=celN x:=by
 obtain⟨c1,c1',rfl,⟨a,rfl,_⟩,c2,c2',rfl,⟨b,rfl,_⟩,c3,c3',rfl,⟨els,f,rfl,_,_,he⟩,rfl⟩:=h
 obtain⟨l,rfl⟩:=zn6 els he
 exact⟨⟨a,b,l⟩,by simp[wkA,wkR]⟩
theorem zkt:∀(els:List (List AV)),(∀r∈els,Ok tyN r)→∃l:List Nd,wkL els=rowN l
 | [],_=>⟨[],rfl⟩
 | r::els,h=>by
  obtain⟨l,hl⟩:=zkt els fun r hr=>h r (List.mem_cons_of_mem _ hr)
  obtain⟨x,hx⟩:=z34 (h r List.mem_cons_self)
  refine⟨x::l,?_⟩
  simp only[wkL,hx,hl]
  rfl
theorem zh7{cs:List AV}(h:Ok (.sl tyN) cs):∃l:List Nd,wkR cs=[.sl (rowN l) .an]:=by
 obtain⟨els,f,rfl,_,_,he⟩:=h
 obtain⟨l,hl⟩:=zkt els he
 exact⟨l,by simp[wkR,wkA,hl]⟩
theorem zh8:∀(els:List (List AV)),(∀r∈els,Ok (.sl tyN) r)→∃l:List (List Nd),wkL els=rowC l
 | [],_=>⟨[],rfl⟩
 | r::els,h=>by
  obtain⟨l,hl⟩:=zh8 els fun r hr=>h r (List.mem_cons_of_mem _ hr)
  obtain⟨x,hx⟩:=zh7 (h r List.mem_cons_self)
  refine⟨x::l,?_⟩
  simp only[wkL,hx,hl]
  rfl
theorem zku:∀(els:List (List AV)),(∀r∈els,Ok tyL r)→∃l:List Lt,wkL els=rowLt l
 | [],_=>⟨[],rfl⟩
 | r::els,h=>by
  obtain⟨l,hl⟩:=zku els fun r hr=>h r (List.mem_cons_of_mem _ hr)
  obtain⟨c1,c1',hr,⟨s,rfl,_⟩,c2,c2',rfl,h2,rfl⟩:=h r List.mem_cons_self
  obtain⟨x,hx⟩:=zh7 h2
  refine⟨⟨s,x⟩::l,?_⟩
  subst hr
  simp only[wkL,zpe,hx,hl]
  rfl
theorem zsq{x:AV}(h:OkArg (true,tyD) x):∃f:Fd,wkA x=efd f:=by
 obtain⟨cs,rfl,c1,c1',rfl,⟨els,f,rfl,_,_,he⟩,c2,c2',rfl,⟨els2,f2,rfl,_,_,he2⟩,rfl⟩:=h
 obtain⟨l,hl⟩:=zku els he
 obtain⟨m,hm⟩:=zh8 els2 he2
 refine⟨⟨l,m⟩,?_⟩
 simp[wkA,wkR,hl,hm]
abbrev tyIn:Ty:=.cons (.sl tyF) (.cons (.int .i64) .nil)
end Go.Ab
section
namespace Go.Proofs.YtfgfjicelfagcaaGreatDoor
open Go Go.Ab Go.ChangeShapes Go.WideShapes Go.ChangeAt Go.RowKit
theorem Tryz.own:ownKnob Tryz.prog.godebug=none:=by kernel_rfl
theorem Tryz.laidOut:laidOutB Tryz.prog=true:=by kernel_rfl
theorem Tryz.mixed:Tryz.prog.follows .mixedOrders=true:=by kernel_rfl
theorem Tryz.rowed:mapsRowed Tryz.prog=true:=by kernel_rfl
theorem Tryz.heard:Tryz.prog.stopsHeard=true:=by kernel_rfl
theorem Tryz.enters:Tryz.prog.mayEnter=true:=by kernel_rfl
theorem Tryz.keys:Tryz.prog.plainKeys=Rows.compFieldsRow.plainKeys:=by kernel_rfl
theorem Tryz.lifts:Tryz.prog.liftsFinal=Rows.compFieldsRow.lifted:=by kernel_rfl
theorem Tryz.makes:Tryz.prog.make=some Rows.compFieldsRow.make:=by kernel_rfl
def laid2:List (String×DataW Unit):=[("unicode/utf8.acceptRanges",Rows.laid_unicode_utf8_acceptRanges),("unicode/utf8.first",Rows.laid_unicode_utf8_first)]
noncomputable def laidWorld(os:Os):World:=
 let put (h:Array Obj) (g:Nat) (cs:Array Value):Array Obj:=h.modify g fun
  | .cells _ t frozen=>.cells cs t frozen
  | o=>o
 let w0:=World.holding Tryz.prog os ⟨#[],#[],[]⟩
 let h1:=put w0.heap 0 (Lib.firstTab.map fun z=>Value.int .u8 z).toArray
 let h2:=put h1 1 ((List.range 16).flatMap fun i=>[Value.int .u8 (Lib.accLo i),Value.int .u8 (Lib.accHi i)]).toArray
 { w0 with heap:=h2 }
theorem laid_met(os:Os)(args:Array Value):laidMetH Tryz.prog laid2 ((laidWorld os).forCall (fun _ _=>0) ⟨#[],args,[]⟩).memory:=
 laidMetH_of_parts3 (fuel:=8) (laidMet_of_run' 8 (by kernel_rfl) (by kernel_rfl)) (by kernel_rfl) (by kernel_rfl)
theorem laid_shaped(os:Os):(laidWorld os).Shaped Tryz.prog:=World.shaped_of_RefB (by kernel_rfl) (by kernel_rfl)
theorem tab_all:TOk Tryz.prog nu (fun u=>lTab.lookup u):=lTab_ok (text_ok Tryz.mixed) (sign_ok)
end Go.Proofs.YtfgfjicelfagcaaGreatDoor
end
namespace Go.Ab
section
variable{T:Tbl}[CTree T]
theorem zbx(op:Int):callF T 76 [.i .i64 op]=some (.i .i64 (arN op)):=by
 rw[f76 _ rfl,b76]
 by_cases h:1≤op∧op≤11
 ·rcases(show op=1∨op=2∨op=3∨op=4∨op=5∨op=6∨op=7∨op=8∨op=9∨op=10∨op=11 by omega) with rfl | rfl | rfl | rfl | rfl | rfl | rfl | rfl | rfl | rfl | rfl<;>simp -implicitDefEqProofs[arN]
 ·have e:arN op=-1:=by rcases zbp op with h1 | h1 | h1 | h1<;>omega
  have h1:op≠1:=by omega
  have h2:op≠2:=by omega
  have h3:op≠3:=by omega
  have h4:op≠4:=by omega
  have h5:op≠5:=by omega
  have h6:op≠6:=by omega
  have h7:op≠7:=by omega
  have h8:op≠8:=by omega
  have h9:op≠9:=by omega
  have h10:op≠10:=by omega
  have h11:op≠11:=by omega
  rw[e]
  simp -implicitDefEqProofs[h1,h2,h3,h4,h5,h6,h7,h8,h9,h10,h11]
def stWr(l:List Nd)(p:Nat×Int):St:=⟨[(0,.sl (rowN l) .an),(3,.i .i64 p.2),(7,.sl (rowN l) .an),(8,.i .i64 l.length),(9,.i .i64 p.1)],[],2⟩
theorem zg2(l:List Nd)(hl:l.length≤4294967296):∀p:Nat×Int,(p.1≤l.length∧0≤p.2∧p.2≤p.1)→loopN T 0 0 (.norm false [0,3]) l74_0 (stWr l p) =
  match goL p.1 p.2 (l.drop p.1) with
  | (some k,_)=>some (.r,⟨[(2,.i .i64 (k:Nat))],[],2⟩)
  | (none,o)=>some (.n,⟨[(0,.sl (rowN l) .an),(3,.i .i64 o)],[],2⟩):=by
 refine zbg (stWr l) _ (fun p=>l.length-p.1) _ ?_
 rintro⟨i,o⟩ ⟨hi,ho,ho2⟩
 dsimp only at *
 by_cases h:i<l.length
 ·have hg:l[i]? = some (l[i]'h):=List.getElem?_eq_getElem h
  have hd:l.drop i=l[i]'h::l.drop (i+1):=List.drop_eq_getElem_cons h
  have ca:=zbx (T:=T) (l[i]'h).op
  have h':(i:Int)<l.length:=by omega
  have hws:=zbq h (by omega)
  rw[hd,goL]
  generalize hx:l[i]'h=x at *
  clear hd
  rcases zbp x.op with ⟨e,_⟩ | ⟨e,_⟩ | ⟨e,_⟩ | ⟨e,_⟩
  ·left
   rw[e]at ca ⊢
   have hw:IntKind.wrap .i64 (o+1)=o+1:=zac _ (by omega)
   refine⟨(i+1,o+1),⟨by omega,by omega,by dsimp only;omega⟩,by dsimp only;omega,?_,?_⟩
   ·unfold stWr
    simp -implicitDefEqProofs[l74_0,h,h',hg,hx,hws,ca,hw,ho]
   ·rw[if_neg (by omega)]
    simp
  ·rw[e]at ca ⊢
   by_cases hc:o<1
   ·right
    rw[if_pos (by omega)]
    unfold stWr
    constructor<;>simp -implicitDefEqProofs[l74_0,h,h',hg,hx,ca,hc]
   ·left
    have hw:IntKind.wrap .i64 o=o:=zac _ (by omega)
    refine⟨(i+1,o),⟨by omega,by omega,by dsimp only;omega⟩,by dsimp only;omega,?_,?_⟩
    ·unfold stWr
     simp -implicitDefEqProofs[l74_0,h,h',hg,hx,hws,ca,hw,hc]
    ·rw[if_neg (by omega)]
     simp
  ·rw[e]at ca ⊢
   by_cases hc:o<2
   ·right
    rw[if_pos (by omega)]
    unfold stWr
    constructor<;>simp -implicitDefEqProofs[l74_0,h,h',hg,hx,ca,hc]
   ·left
    have hw:IntKind.wrap .i64 (o + -1)=o-1:=zac _ (by omega)
    refine⟨(i+1,o-1),⟨by omega,by omega,by dsimp only;omega⟩,by dsimp only;omega,?_,?_⟩
    ·unfold stWr
     simp -implicitDefEqProofs[l74_0,h,h',hg,hx,hws,ca,hw,hc]
    ·rw[if_neg (by omega)]
     dsimp only
     rw[show o+1-2=o-1 by omega]
  ·right
   rw[e]at ca ⊢
   rw[if_pos (by omega)]
   unfold stWr
   constructor<;>simp -implicitDefEqProofs[l74_0,h,h',hg,hx,ca]
 ·have:i=l.length:=by omega
  subst this
  right
  rw[List.drop_length,goL]
  unfold stWr
  constructor<;>simp -implicitDefEqProofs[l74_0]
theorem zid(l:List Nd)(hl:l.length≤4294967296):callF T 74 [.sl (rowN l) .an]=some (.i .i64 (wrongN l)):=by
 have hlo:=zg2 (T:=T) l hl (0,0) ⟨Nat.zero_le _,by decide,by decide⟩
 have hw:=zln l 0 0
 unfold wrongN
 rw[hw]
 unfold stWr at hlo
 simp only[List.drop_zero,Int.natCast_zero]at hlo
 rw[f74 _ rfl,b74]
 generalize goL 0 0 l=G at *
 obtain⟨_ | k,o⟩:=G
 ·dsimp only at hlo ⊢
  by_cases h:o=1
  ·subst h
   simp -implicitDefEqProofs[hlo]
  ·simp -implicitDefEqProofs[hlo,h]
 ·dsimp only at hlo ⊢
  simp -implicitDefEqProofs[hlo]
theorem zp7(l:List Nd)(hl:l.length≤4294967296):callF T 44 [.sl (rowN l) .an]=some (.b (decide (wrongN l=-1))):=by
 have c:=zid (T:=T) l hl
 have e:decide (wrongN l<0)=decide (wrongN l=-1):=by
  rcases zds l 0 0 with h | h
  ·unfold wrongN;rw[h];rfl
  ·have:¬ wrongN l<0:=by unfold wrongN;omega
   have h2:¬ wrongN l=-1:=by omega
   rw[decide_eq_false this,decide_eq_false h2]
 rw[f44 _ rfl,b44,←e]
 generalize wrongN l=w at *
 simp -implicitDefEqProofs[c]
theorem zd8(i m:Int):callF T 108 [.i .i64 i,.i .i64 m]=some (.b (belB i m)):=by
 rw[f108 _ rfl,b108]
 unfold belB
 by_cases h:0≤i
 ·by_cases h2:i<m<;>simp -implicitDefEqProofs[h,h2]
 ·simp -implicitDefEqProofs[h]
variable[CLimb T][CNat T][CText T][CLenD T]
theorem lenD(n:Nat)(h:(ofN n).length≤1000):callF T 129 [.sl (u32s (ofN n)) .an]=some (.i .i64 (textN n).length):=by
 have c:callF T 68 [.sl (u32s (ofN n)) .an]=some (.s (textN n)):=by
  rw[p68,zg5 _ (by omega),zaj]
 rw[f129 _ rfl,b129]
 generalize ofN n=N at *
 simp -implicitDefEqProofs[c]
theorem zla(n:List UInt32)(hn:n.length≤1000):callF T 107 [.sl (u32s n) .an]=some (.b (wordsB n)):=by
 have c1:=zbc (T:=T) n (by omega)
 unfold wordsB
 by_cases h:n=ofN (val n)
 ·have c2:=lenD (T:=T) (val n) (by rw[←h];exact hn)
  rw[←h]at c1 c2
  rw[decide_eq_true h]
  rw[f107 _ rfl,b107]
  generalize (textN (val n)).length=L at *
  by_cases h2:L≤60
  ·have h2':(L:Int)≤60:=by omega
   simp -implicitDefEqProofs[c1,c2,h2,h2']
  ·have h2':¬ (L:Int)≤60:=by omega
   simp -implicitDefEqProofs[c1,c2,h2,h2']
 ·have h2:¬ ((ofN (val n)).length:Int)=n.length:=fun hh=>h (zij.1 (by omega))
  have h3:¬ (ofN (val n)).length=n.length:=fun hh=>h (zij.1 hh)
  rw[decide_eq_false h]
  rw[f107 _ rfl,b107]
  generalize ofN (val n)=N at *
  simp -implicitDefEqProofs[c1,h2,h3]
theorem zp8(x:Nd)(dim pars lets:Int)(hn:x.n.length≤1000):callF T 75 [.agg (celN x),.i .i64 dim,.i .i64 pars,.i .i64 lets]=some (.b (okN dim pars lets x)):=by
 have c1:=zla (T:=T) x.n hn
 have c3:=zd8 (T:=T) x.i dim
 have c4:=zd8 (T:=T) x.i pars
 have c5:=zd8 (T:=T) x.i lets
 have ca:=zbx (T:=T) x.op
 obtain⟨op,i,n⟩:=x
 dsimp only at *
 rw[f75 _ rfl,b75]
 unfold okN
 dsimp only
 generalize wordsB n=W at *
 generalize belB i dim=B3 at *
 generalize belB i pars=B4 at *
 generalize belB i lets=B5 at *
 by_cases h1:op=1
 ·subst h1
  by_cases hi:i=0
  ·subst hi
   simp -implicitDefEqProofs[c1]
  ·simp -implicitDefEqProofs[hi]
 rw[if_neg h1]
 by_cases hne:n=[]
 ·subst hne
  by_cases h3:op=3
  ·subst h3;simp -implicitDefEqProofs[c3]
  by_cases h4:op=4
  ·subst h4;simp -implicitDefEqProofs[c4]
  by_cases h5:op=5
  ·subst h5;simp -implicitDefEqProofs[c5]
  by_cases h11:op=11
  ·subst h11
   by_cases ha:-8≤i
   ·by_cases hb:i≤8<;>simp -implicitDefEqProofs[ha,hb]
   ·simp -implicitDefEqProofs[ha]
  by_cases hi:i=0
  ·subst hi
   rcases zbp op with ⟨e,h⟩ | ⟨e,h⟩ | ⟨e,h⟩ | ⟨e,h⟩
   ·rw[e]at ca
    have g1:¬ op<1:=by omega
    have g2:¬ 11<op:=by omega
    simp -implicitDefEqProofs[h1,h3,h4,h5,h11,ca,g1,g2]
   ·rw[e]at ca
    have g1:¬ op<1:=by omega
    have g2:¬ 11<op:=by omega
    simp -implicitDefEqProofs[h1,h3,h4,h5,h11,ca,g1,g2]
   ·rw[e]at ca
    have g1:¬ op<1:=by omega
    have g2:¬ 11<op:=by omega
    simp -implicitDefEqProofs[h1,h3,h4,h5,h11,ca,g1,g2]
   ·rw[e]at ca
    simp -implicitDefEqProofs[h1,h3,h4,h5,h11,ca,h]
  ·have hb:(if (([]:List UInt32)≠[]∨op<1∨11<op) then false else if op=3 then B3 else if op=4 then B4 else if op=5 then B5 else if op=11 then decide (-8≤i)&&decide (i≤8) else decide (i=0))=false:=by
    split
    ·rfl
    ·exact decide_eq_false hi
   rw[hb]
   simp -implicitDefEqProofs[h1,h3,h4,h5,h11,hi]
 ·have hp:0<n.length:=List.length_pos_iff.2 hne
  rw[if_pos (.inl hne)]
  simp -implicitDefEqProofs[h1,hp,hne]
def stPl(l:List Nd)(dim pars lets w:Int)(i:Nat):St:=⟨[(1,.i .i64 dim),(2,.i .i64 pars),(3,.i .i64 lets),(9,.i .i64 w),(14,.sl (rowN l) .an),(15,.i .i64 l.length),(16,.i .i64 i)],[],2⟩
theorem zfi(l:List Nd)(dim pars lets w:Int)(hl:l.length≤4294967296)(hn:∀x∈l,x.n.length≤1000)(hw:w<0∨(w:Int)≤l.length):loopN T 0 0 (.norm false [9]) l46_0 (stPl l dim pars lets w 0) =
  match findL dim pars lets w 0 l with
  | some k=>some (.r,⟨[(8,.i .i64 (k:Nat))],[],2⟩)
  | none=>some (.n,⟨[(9,.i .i64 w)],[],2⟩):=by
 have e0:l.drop 0=l:=rfl
 rw[←e0]
 refine zaz (stPl l dim pars lets w) l.length (fun i=>match findL dim pars lets w i (l.drop i) with
  | some k=>some (.r,⟨[(8,.i .i64 (k:Nat))],[],2⟩)
  | none=>some (.n,⟨[(9,.i .i64 w)],[],2⟩)) (fun i hi=>?_) ?_
 ·have hg:l[i]? = some (l[i]'hi):=List.getElem?_eq_getElem hi
  have hd:l.drop i=l[i]'hi::l.drop (i+1):=List.drop_eq_getElem_cons hi
  have cn:=zp8 (T:=T) (l[i]'hi) dim pars lets (hn _ (List.getElem_mem hi))
  have hi':(i:Int)<l.length:=by omega
  have hws:=zbq hi (by omega)
  generalize hx:l[i]'hi=x at *
  rw[hd,findL]
  clear hd
  by_cases h1:(i:Int)=w
  ·right
   rw[if_pos (.inl h1)]
   subst h1
   unfold stPl
   constructor<;>simp -implicitDefEqProofs[l46_0,hi,hi',hg,hx]
  ·generalize okN dim pars lets x=B at *
   cases B with
   | false=>
    right
    rw[if_pos (.inr rfl)]
    unfold stPl
    constructor<;>simp -implicitDefEqProofs[l46_0,hi,hi',hg,hx,h1,cn]
   | true=>
    left
    refine⟨?_,by rw[if_neg (by simp[h1])]⟩
    unfold stPl
    simp -implicitDefEqProofs[l46_0,hi,hi',hg,hx,h1,cn,hws]
 ·rw[List.drop_length,findL]
  unfold stPl
  constructor<;>simp -implicitDefEqProofs[l46_0]
theorem zm0(l:List Nd)(dim pars lets:Int)(hl:l.length≤4294967296)(hn:∀x∈l,x.n.length≤1000):callF T 46 [.sl (rowN l) .an,.i .i64 dim,.i .i64 pars,.i .i64 lets]=some (.i .i64 (placeN dim pars lets l)):=by
 have cw:=zid (T:=T) l hl
 have hlo:=zfi (T:=T) l dim pars lets (wrongN l) hl hn (by
  rcases zds l 0 0 with h | h
  ·left;unfold wrongN;omega
  ·right;unfold wrongN;omega)
 unfold stPl at hlo
 simp only[Int.natCast_zero]at hlo
 have hf:=zhc dim pars lets (wrongN l) l 0
 unfold placeN
 rw[hf]
 rw[f46 _ rfl,b46]
 generalize wrongN l=w at *
 generalize findL dim pars lets w 0 l=F at *
 cases F with
 | none=>
  dsimp only at hlo ⊢
  simp -implicitDefEqProofs[cw,hlo]
 | some k=>
  dsimp only at hlo ⊢
  simp -implicitDefEqProofs[cw,hlo]
end
def joinN(op:Int)(l:List (List Nd)):List Nd:=l.flatten++[⟨op,0,[]⟩]
def kNd(n:Int):List Nd:=[⟨1,0,if n=0 then [] else [w32 n.toNat]⟩]
def powN(a:List Nd)(e:Int):List Nd:=a++[⟨11,e,[]⟩]
def timesN(op:Int)(d o:List Nd)(first:Bool):List Nd:=if d=[] then [] else if first then joinN op [d,o] else joinN op [o,d]
def bothN(op:Int)(a b:List Nd):List Nd:=if b=[] then a else if a≠[] then joinN op [a,b] else if op=8 then joinN 6 [b] else b
def oneN(x:Nd)(a da:List Nd):List Nd:=
 if da=[]∨(x.op=11∧x.i=0) then [] else if x.op=6 then joinN 6 [da]
 else if 0<x.i then joinN 9 [joinN 9 [kNd x.i,powN a (x.i-1)],da]
 else joinN 6 [joinN 10 [joinN 9 [joinN 9 [kNd (-x.i),powN a x.i],da],a]]
def lowN(d b o:List Nd):List Nd:=if timesN 9 d o false=[] then [] else joinN 10 [timesN 9 d o false,joinN 9 [b,b]]
def twoN(op:Int)(a da b db:List Nd):List Nd:=
 if op=9 then bothN 7 (timesN 9 da b true) (timesN 9 db a false)
 else if op=10 then bothN 8 (timesN 10 da b true) (lowN db b a)
 else bothN op da db
def Tre.der(u:Nd):Tre→List Nd
 | .leaf x=>if x.op=u.op∧x.i=u.i then kNd 1 else []
 | .un x a=>oneN x a.flat (a.der u)
 | .bin x a b=>twoN x.op a.flat (a.der u) b.flat (b.der u)
def catN(a b:List Nd)(op i:Int):List Nd:=a++b++[⟨op,i,[]⟩]
def thin(w:Nat)(l:List Nd):Prop:=∀x∈l,x.n.length≤w
def pushT(s:List Tre)(x:Nd):List Tre:=
 if arN x.op=0 then .leaf x::s else
  match s with
  | []=>[]
  | a::s1=>if arN x.op=1 then .un x a::s1 else
   match s1 with
   | []=>[]
   | b::s2=>.bin x b a::s2
abbrev Pc:=List Nd×List Nd
def pcs(u:Nd)(s:List Tre):List Pc:=s.reverse.map fun t=>(t.flat,t.der u)
def lenP(l:List Pc):Nat:=(l.map fun p=>p.1.length).sum
def dps(l:List Nat):List (List AV):=l.map fun n=>[.i .i64 (n:Nat)]
@[simp] theorem z1f(l:List Nat):(dps l).length=l.length:=by simp[dps]
@[simp] theorem z38(l:List Nat):wkL (dps l)=dps l:=by rw[zbu];simp[dps,wkR,wkA]
@[simp] theorem zacy(l:List Nat)(i:Nat)(h:i<(dps l).length):(dps l)[i]=[.i .i64 (l[i]'(by simp_all):Nat)]:=by simp[dps]
@[simp] theorem z7u(l:List Nat)(n:Nat):(dps l).take n=dps (l.take n):=by simp[dps]
@[simp] theorem zy9:dps []=[]:=rfl
theorem zv4{m:List Nat}{n:Nat}(x:Nat):wkL (dps (List.take n m)++[[.i .i64 (x:Nat)]])=dps (List.take n m++[x]):=by
 grind[dps,z38]
def depE(s:List Nat)(x:Nd):List Nat:=if arN x.op=0 then 1::s else if arN x.op=1 then (s.headD 0+1)::s.tail else (max (s.headD 0) (s.tail.headD 0)+1)::s.tail.tail
def depS:List Nat→List Nd→List Nat
 | s,[]=>s
 | s,x::r=>depS (depE s x) r
def depN(l:List Nd):Nat:=if wrongN l=-1 then (depS [] l).headD 0 else 0
theorem zlb{m:List (List Nd)}{n:Nat}(h:m.length=n)(x:List Nd):wkL (rowC (List.take n m)++[[.sl (rowN x) .an]])=rowC (m++[x]):=by
 rw[List.take_of_length_le (by omega),zlm,zue]
@[simp] theorem z39(l:List (List Nd))(n:Nat):(rowC l).take n=rowC (l.take n):=by simp[rowC]
section
variable{T:Tbl}[CTree T][CTree2 T]
theorem zg3(l:List Nd)(hl:l.length≤4294967295)(hn:thin 1000 l):callF T 483 [.sl (rowN l) .an]=some (.sl (rowN l) .an):=by
 have hlo:loopN T 0 0 (.norm false [3]) l483_0 ⟨[(3,.bs (.loc 3) 1 3 0 0),(6,.sl (rowN l) .an),(7,.i .i64 l.length),(8,.i .i64 0)],[(.loc 3,⟨1,.own,3,[]⟩)],3⟩ =
   some (.n,⟨[(3,.bs (.loc 3) 1 3 0 l.length)],[(.loc 3,⟨1,.own,3,rowN l⟩)],3⟩):=by
  have:=zap (T:=T) (k:=0) (id:=0) (g2:=.norm false [3]) (c:=l483_0) (fun i=>⟨[(3,.bs (.loc 3) 1 3 0 i),(6,.sl (rowN l) .an),(7,.i .i64 l.length),(8,.i .i64 (i:Int))],[(.loc 3,⟨1,.own,3,rowN (l.take i)⟩)],3⟩) l.length
   (some (.n,⟨[(3,.bs (.loc 3) 1 3 0 l.length)],[(.loc 3,⟨1,.own,3,rowN l⟩)],3⟩)) (fun i hi=>?_) ?_
  ·simp_all
  ·have hi':(i:Int)<l.length:=by omega
   have hws:=zbq hi (by omega)
   have hs:l.take (i+1)=l.take i++[l[i]'hi]:=by simp_all
   have hp:=zll (n:=i) (show (l.take i).length=i by grind) (l[i]'hi)
   have hle:i≤(l.take i).length:=by grind
   have h32:i+1≤4294967296:=by omega
   have hth:=hn _ (List.getElem_mem hi)
   rw[hs]
   generalize hx:l[i]'hi=x at *
   generalize l.take i=m at *
   obtain⟨op,j,n⟩:=x
   dsimp only at hth
   have hn32:n.length≤4294967296:=by omega
   simp -implicitDefEqProofs[l483_0,hi,hi',hx,hws,hp,hle,h32,hn32]
  ·constructor<;>simp -implicitDefEqProofs[l483_0]
 rw[f483 _ rfl,b483]
 simp -implicitDefEqProofs[hlo]
def thinD(w n:Nat)(f:Fd):Prop:=∀c∈codesD f,c.length≤n∧thin w c
theorem zie(f:Fd)(h1:f.lets.length≤100000)(h2:f.outs.length≤100000)(hn:thinD 1000 4294967295 f):callF T 493 [efd f]=some (.sl (rowC (codesD f)) .an):=by
 obtain⟨L,O⟩:=f
 dsimp only at h1 h2
 have hL:loopN T 0 0 (.norm false [1,3]) l493_0 ⟨[(1,.ptr (.loc 1) 1 2 0 0),(3,.bs (.loc 3) 2 1 0 0),(9,.sl (rowLt L) .an),(10,.i .i64 L.length),(11,.i .i64 0)],[(.loc 1,⟨1,.str,2,[[.sl (rowLt L) .an,.sl (rowC O) .an]]⟩),(.loc 3,⟨2,.own,1,[]⟩)],4⟩ =
   some (.n,⟨[(1,.ptr (.loc 1) 1 2 0 0),(3,.bs (.loc 3) 2 1 0 L.length)],[(.loc 1,⟨1,.str,2,[[.sl (rowLt L) .an,.sl (rowC O) .an]]⟩),(.loc 3,⟨2,.own,1,rowC (L.map (·.code))⟩)],4⟩):=by
  have:=zap (T:=T) (k:=0) (id:=0) (g2:=.norm false [1,3]) (c:=l493_0) (fun i=>⟨[(1,.ptr (.loc 1) 1 2 0 0),(3,.bs (.loc 3) 2 1 0 i),(9,.sl (rowLt L) .an),(10,.i .i64 L.length),(11,.i .i64 (i:Int))],[(.loc 1,⟨1,.str,2,[[.sl (rowLt L) .an,.sl (rowC O) .an]]⟩),(.loc 3,⟨2,.own,1,rowC ((L.take i).map (·.code))⟩)],4⟩) L.length
   (some (.n,⟨[(1,.ptr (.loc 1) 1 2 0 0),(3,.bs (.loc 3) 2 1 0 L.length)],[(.loc 1,⟨1,.str,2,[[.sl (rowLt L) .an,.sl (rowC O) .an]]⟩),(.loc 3,⟨2,.own,1,rowC (L.map (·.code))⟩)],4⟩)) (fun i hi=>?_) ?_
  ·simp_all
  ·have hi':(i:Int)<L.length:=by omega
   have hws:=zbq hi (by omega)
   have hs:(L.take (i+1)).map (·.code)=(L.take i).map (·.code)++[(L[i]'hi).code]:=by grind[List.take_succ_eq_append_getElem]
   have hml:((L.take i).map (·.code)).length=i:=by grind
   have hp:=zlb (n:=i) hml (L[i]'hi).code
   have hle:i≤((L.take i).map (·.code)).length:=by omega
   have h32:i+1≤4294967296:=by omega
   obtain⟨hc1,hc2⟩:=hn (L[i]'hi).code (List.mem_append.2 (.inl (List.mem_map.2 ⟨_,List.getElem_mem hi,rfl⟩)))
   have cc:=zg3 (T:=T) (L[i]'hi).code hc1 hc2
   rw[hs]
   generalize hx:L[i]'hi=x at *
   generalize (L.take i).map (·.code)=m at *
   obtain⟨nm,code⟩:=x
   simp -implicitDefEqProofs[l493_0,hi,hi',hx,hws,hp,hle,h32,cc]
  ·constructor<;>simp -implicitDefEqProofs[l493_0]
 have hO:loopN T 0 2 (.norm false [3]) l493_1 ⟨[(3,.bs (.loc 3) 1 1 0 L.length),(23,.sl (rowC O) .an),(24,.i .i64 O.length),(25,.i .i64 0)],[(.loc 3,⟨1,.own,1,rowC (L.map (·.code))⟩)],3⟩ =
   some (.n,⟨[(3,.bs (.loc 3) 1 1 0 (L.length+O.length:Nat))],[(.loc 3,⟨1,.own,1,rowC (L.map (·.code)++O)⟩)],3⟩):=by
  have:=zap (T:=T) (k:=0) (id:=2) (g2:=.norm false [3]) (c:=l493_1) (fun i=>⟨[(3,.bs (.loc 3) 1 1 0 (L.length+i:Nat)),(23,.sl (rowC O) .an),(24,.i .i64 O.length),(25,.i .i64 (i:Int))],[(.loc 3,⟨1,.own,1,rowC (L.map (·.code)++O.take i)⟩)],3⟩) O.length
   (some (.n,⟨[(3,.bs (.loc 3) 1 1 0 (L.length+O.length:Nat))],[(.loc 3,⟨1,.own,1,rowC (L.map (·.code)++O)⟩)],3⟩)) (fun i hi=>?_) ?_
  ·grind
  ·have hi':(i:Int)<O.length:=by omega
   have hws:=zbq hi (by omega)
   have hs:L.map (·.code)++O.take (i+1)=(L.map (·.code)++O.take i)++[O[i]'hi]:=by simp_all
   have hml:(L.map (·.code)++O.take i).length=L.length+i:=by grind
   have hp:=zlb hml (O[i]'hi)
   have hle:L.length+i≤(L.map (·.code)++O.take i).length:=by omega
   have h32:L.length+i+1≤4294967296:=by omega
   obtain⟨hc1,hc2⟩:=hn (O[i]'hi) (List.mem_append.2 (.inr (List.getElem_mem hi)))
   have cc:=zg3 (T:=T) (O[i]'hi) hc1 hc2
   have hw2:L.length+(i+1)=L.length+i+1:=by omega
   rw[hs,hw2]
   generalize hx:O[i]'hi=x at *
   generalize L.map (·.code)++O.take i=m at *
   simp -implicitDefEqProofs[l493_1,hi,hi',hx,hws,hp,hle,h32,cc]
  ·constructor<;>simp -implicitDefEqProofs[l493_1]
 unfold codesD
 have hM:(L.map (·.code)).length=L.length:=List.length_map _
 rw[f493 _ rfl,b493]
 simp -implicitDefEqProofs[hL,hO]
 grind
theorem zp9{l:List (List Nd)}(i:Nat):((l.take i).map List.length).sum≤(l.map List.length).sum:=by
 grind[List.take_append_drop]
def sizeD(f:Fd):Nat:=((codesD f).map List.length).sum
theorem zlc(f:Fd)(h1:f.lets.length≤100000)(h2:f.outs.length≤100000)(hn:thinD 1000 4294967295 f)(hs:sizeD f≤4294967295):callF T 491 [efd f]=some (.i .i64 (sizeD f)):=by
 have c:=zie (T:=T) f h1 h2 hn
 have hlen:(codesD f).length≤200000:=by grind[codesD]
 unfold sizeD at *
 obtain⟨L,O⟩:=f
 generalize codesD ⟨L,O⟩=M at *
 have hlo:loopN T 0 0 (.norm false [3]) l491_0 ⟨[(3,.i .i64 0),(7,.sl (rowC M) .an),(8,.i .i64 M.length),(9,.i .i64 0)],[],2⟩ =
   some (.n,⟨[(3,.i .i64 ((M.map List.length).sum:Nat))],[],2⟩):=by
  have:=zap (T:=T) (k:=0) (id:=0) (g2:=.norm false [3]) (c:=l491_0) (fun i=>⟨[(3,.i .i64 (((M.take i).map List.length).sum:Nat)),(7,.sl (rowC M) .an),(8,.i .i64 M.length),(9,.i .i64 (i:Int))],[],2⟩) M.length
   (some (.n,⟨[(3,.i .i64 ((M.map List.length).sum:Nat))],[],2⟩)) (fun i hi=>?_) ?_
  ·grind
  ·have hi':(i:Int)<M.length:=by omega
   have hws:=zbq hi (by omega)
   have hs1:((M.take (i+1)).map List.length).sum=((M.take i).map List.length).sum+(M[i]'hi).length:=by grind[List.take_succ_eq_append_getElem]
   have hle:=zp9 (l:=M) (i+1)
   have hw:IntKind.wrap .i64 ((((M.take i).map List.length).sum:Nat)+(M[i]'hi).length)=((((M.take i).map List.length).sum+(M[i]'hi).length:Nat):Int):=by rw[zac _ (by omega)];omega
   rw[hs1]
   generalize hx:M[i]'hi=x at *
   generalize ((M.take i).map List.length).sum=k at *
   simp -implicitDefEqProofs[l491_0,hi,hi',hx,hws,hw]
  ·constructor<;>simp -implicitDefEqProofs[l491_0]
 rw[f491 _ rfl,b491]
 simp -implicitDefEqProofs[c,hlo]
def mxT(F:List Nat)(k:Nat):Nat→Nat
 | 0=>0
 | j+1=>max (mxT F k j) (F.getD (k-j-1) 0)
def stDi(l:List Nd)(F:List Nat)(i k a j:Nat):St:=⟨[(3,.bs (.loc 3) 1 1 0 (k-j)),(6,.i .i64 (mxT F k j:Nat)),(10,.sl (rowN l) .an),(11,.i .i64 l.length),(12,.i .i64 i),(18,.i .i64 a),(19,.i .i64 j)],[(.loc 3,⟨1,.own,1,dps F⟩)],3⟩
theorem ztq(F:List Nat)(k w:Nat)(h:∀n∈F,n≤w):∀j,mxT F k j≤w
 | 0=>Nat.zero_le _
 | j+1=>by
  have h1:=ztq F k w h j
  have h2:F.getD (k-j-1) 0≤w:=by
   rw[List.getD_eq_getElem?_getD]
   cases hg:F[k-j-1]? with
   | none=>grind
   | some x=>exact h x (List.mem_of_getElem? hg)
  exact Nat.max_le.2 ⟨h1,h2⟩
theorem z4a(l:List Nd)(F:List Nat)(i k a:Nat)(ha:a≤k)(hk:k≤F.length)(hF:∀n∈F,n≤100000)(hkk:k≤100000) :
  loopN T 0 2 (.norm false [3,6,10,11,12]) l492_0 (stDi l F i k a 0) =
   some (.n,⟨[(3,.bs (.loc 3) 1 1 0 (k-a)),(6,.i .i64 (mxT F k a:Nat)),(10,.sl (rowN l) .an),(11,.i .i64 l.length),(12,.i .i64 i)],[(.loc 3,⟨1,.own,1,dps F⟩)],3⟩):=by
 refine zap (T:=T) (stDi l F i k a) a _ (fun j hj=>?_) ?_
 ·have hq:k-j=(k-j-1)+1:=by omega
  have hq2:k-(j+1)=k-j-1:=by omega
  have hlt:k-j-1<F.length:=by omega
  have hg:F[k-j-1]? = some (F.getD (k-j-1) 0):=by grind
  have hge:F[k-j-1]'hlt=F.getD (k-j-1) 0:=by grind
  have hmx:=ztq F k 100000 hF j
  have hws:=zbq hj (by omega)
  have hj':(j:Int)<a:=by omega
  have hmm:mxT F k (j+1)=max (mxT F k j) (F.getD (k-j-1) 0):=rfl
  unfold stDi
  rw[hq2,hq,hmm]
  generalize F.getD (k-j-1) 0=v at *
  generalize mxT F k j=m at *
  clear hF
  generalize k-j-1=q at *
  have hw:IntKind.wrap .i64 (q:Int)=q:=zac _ (by omega)
  have h1:(q:Int)<(q:Int)+1:=by omega
  have h2:(q:Int)≤(q:Int)+1:=by omega
  clear hq hq2 hmm
  simp -implicitDefEqProofs[l492_0,hj',hge,hlt,hws,hw,h1,h2]
  omega
 ·unfold stDi
  constructor<;>simp -implicitDefEqProofs[l492_0]
theorem zjc{F:List Nat}{a:Nat}{r:List Nat}(h:F.take (a::r).length=(a::r).reverse):F.take r.length=r.reverse∧F.getD r.length 0=a∧r.length<F.length:=by
 grind[List.length_reverse,List.take_succ_eq_append_getElem,List.append_inj']
def stDo(l:List Nd)(F:List Nat)(k i:Nat):St:=⟨[(3,.bs (.loc 3) 1 1 0 k),(10,.sl (rowN l) .an),(11,.i .i64 l.length),(12,.i .i64 i)],[(.loc 3,⟨1,.own,1,dps F⟩)],3⟩
theorem ztr(l:List Nd)(hl:l.length≤50000)(F s:List Nat)(i:Nat)(hi:i<l.length)(h1:F.take s.length=s.reverse)(h2:s.length≤F.length)(h3:s.length≤i)(h4:∀n∈F,n≤i)(ha0:0≤arN (l[i]'hi).op)(ha:arN (l[i]'hi).op≤s.length) :
  ∃F':List Nat,(F'.take (depE s (l[i]'hi)).length=(depE s (l[i]'hi)).reverse∧(depE s (l[i]'hi)).length≤F'.length∧∀n∈F',n≤i+1)∧evX (orc T) T 0 l492_1 (stDo l F s.length i)=some (.n,stDo l F' (depE s (l[i]'hi)).length (i+1)):=by
 have ca:=zbx (T:=T) (l[i]'hi).op
 have hi':(i:Int)<l.length:=by omega
 have hws:=zbq hi (by omega)
 generalize hx:l[i]'hi=x at *
 obtain⟨a,hea⟩:∃a:Nat,arN x.op=a:=⟨(arN x.op).toNat,by omega⟩
 have hak:a≤s.length:=by omega
 have hin:=z4a (T:=T) l F i s.length a hak h2 (fun n hn=>Nat.le_trans (h4 n hn) (by omega)) (by omega)
 have hm1:mxT F s.length a≤i:=ztq F s.length i h4 a
 -- the stack behind the node
 obtain⟨s',hs',hde⟩:∃s':List Nat,(F.take s'.length=s'.reverse∧s'.length=s.length-a)∧depE s x=(mxT F s.length a+1)::s':=by
  unfold depE
  rcases zbp x.op with ⟨e,_⟩ | ⟨e,_⟩ | ⟨e,_⟩ | ⟨e,_⟩
  ·have:a=0:=by omega
   subst this
   rw[if_pos e]
   exact⟨s,⟨h1,rfl⟩,rfl⟩
  ·have:a=1:=by omega
   subst this
   rw[if_neg (by omega),if_pos e]
   cases s with
   | nil=>grind
   | cons u r=>
    obtain⟨t1,t2,t3⟩:=zjc h1
    refine⟨r,⟨t1,by simp⟩,?_⟩
    show (u+1)::r=(max 0 (F.getD (r.length+1-0-1) 0)+1)::r
    grind
  ·have:a=2:=by omega
   subst this
   rw[if_neg (by omega),if_neg (by omega)]
   cases s with
   | nil=>grind
   | cons u r=>
    obtain⟨t1,t2,t3⟩:=zjc h1
    cases r with
    | nil=>grind
    | cons v q=>
     obtain⟨w1,w2,w3⟩:=zjc t1
     refine⟨q,⟨w1,by simp⟩,?_⟩
     show (max u v+1)::q=(max (max 0 (F.getD (q.length+1+1-0-1) 0)) (F.getD (q.length+1+1-1-1) 0)+1)::q
     grind
  omega
 rw[hde]
 generalize mxT F s.length a=v at *
 obtain⟨hs1,hs2⟩:=hs'
 have hle:s'.length≤F.length:=by omega
 refine⟨F.take s'.length++[v+1],⟨?_,?_,?_⟩,?_⟩
 ·rw[List.length_cons,List.take_of_length_le (by grind),hs1,List.reverse_cons]
 ·grind
 ·grind
 ·have hp:=zv4 (m:=F) (n:=s'.length) (v+1)
  rw[hea]at ca
  rw[←hs2]at hin
  have hwv:IntKind.wrap .i64 ((v:Int)+1)=((v+1:Nat):Int):=zac _ (by omega)
  have h32:s'.length+1≤4294967296:=by omega
  unfold stDi at hin
  unfold stDo
  simp only[mxT,Nat.sub_zero,Int.natCast_zero]at hin
  obtain⟨op,j,n⟩:=x
  simp -implicitDefEqProofs[l492_1,hi,hi',hx,hws,hle,h32,ca,hin,hwv]
  grind
theorem zoa(hl:True):∀(l:List Nd) (i:Nat) (s:List Nat),wrongL i s.length l=-1→(depS s l).length=1
 | [],i,s,h=>by
  unfold wrongL at h
  by_cases h1:(s.length:Int)=1
  ·show s.length=1;omega
  ·omega
 | x::r,i,s,h=>by
  unfold wrongL at h
  by_cases h1:arN x.op<0∨(s.length:Int)<arN x.op
  ·omega
  ·rw[if_neg h1]at h
   refine zoa hl r (i+1) (depE s x) ?_
   rw[←h]
   congr 1
   unfold depE
   rcases zbp x.op with ⟨e,_⟩ | ⟨e,_⟩ | ⟨e,_⟩ | ⟨e,_⟩
   ·rw[if_pos e,e];simp
   ·rw[if_neg (by omega),if_pos e,e,List.length_cons,List.length_tail];omega
   ·rw[if_neg (by omega),if_neg (by omega),e,List.length_cons,List.length_tail,List.length_tail];omega
   ·omega
theorem zv5{s:List Nat}{x:Nd}(h0:0≤arN x.op)(h1:arN x.op≤s.length):((depE s x).length:Int)=s.length+1-arN x.op:=by
 grind[depE,zbp]
theorem zqa(l:List Nd)(hl:l.length≤50000):callF T 492 [.sl (rowN l) .an]=some (.i .i64 (depN l)):=by
 have c:=zp7 (T:=T) l (by omega)
 by_cases hw:wrongN l=-1
 ·rw[decide_eq_true hw]at c
  have e:depN l=(depS [] l).headD 0:=by unfold depN;grind
  have hone:=zoa trivial l 0 [] hw
  have hlo:∃r,(∃F:List Nat,F[0]? = some ((depS [] l).headD 0)∧r=(Ex.n,(⟨[(3,.bs (.loc 3) 1 1 0 1)],[(.loc 3,⟨1,.own,1,dps F⟩)],3⟩:St)))∧loopN T 0 0 (.norm false [3]) l492_1 (stDo l [] 0 0)=some r:=by
   refine zaw (fun p:Nat×List Nat×List Nat=>stDo l p.2.2 p.2.1.length p.1)
    (fun p=>p.1≤l.length∧p.2.2.take p.2.1.length=p.2.1.reverse∧p.2.1.length≤p.2.2.length∧p.2.1.length≤p.1∧(∀n∈p.2.2,n≤p.1)∧(∃j,wrongL j p.2.1.length (l.drop p.1)=-1)∧depS p.2.1 (l.drop p.1)=depS [] l)
    (fun p=>l.length-p.1) _ ?_ (0,[],[]) ⟨Nat.zero_le _,rfl,Nat.le_refl _,Nat.le_refl _,by simp,⟨0,hw⟩,rfl⟩
   rintro⟨i,s,F⟩ ⟨hi,h1,h2,h3,h4,⟨j,h5⟩,h6⟩
   by_cases hlt:i<l.length
   ·left
    have hd:l.drop i=l[i]'hlt::l.drop (i+1):=List.drop_eq_getElem_cons hlt
    rw[hd]at h5 h6
    have hc:¬ (arN (l[i]'hlt).op<0∨(s.length:Int)<arN (l[i]'hlt).op):=by
     grind[wrongL]
    unfold wrongL at h5
    have ha0:0≤arN (l[i]'hlt).op:=by omega
    have ha1:arN (l[i]'hlt).op≤s.length:=by omega
    obtain⟨F',⟨g1,g2,g3⟩,g4⟩:=ztr (T:=T) l hl F s i hlt h1 h2 h3 h4 ha0 ha1
    have hln:=zv5 ha0 ha1
    refine⟨(i+1,depE s (l[i]'hlt),F'),⟨by omega,g1,g2,by grind,g3,⟨j+1,?_⟩,h6⟩,by omega,g4⟩
    grind
   ·right
    have hil:i=l.length:=by omega
    subst hil
    rw[List.drop_length]at h5 h6
    have hs:depS s []=s:=rfl
    rw[hs]at h6
    subst h6
    obtain⟨a,ha⟩:∃a,depS [] l=[a]:=List.length_eq_one_iff.1 hone
    rw[ha]at h1 h2 ⊢
    have hF0:F[0]? = some a:=by
     grind
    refine⟨_,⟨F,hF0,rfl⟩,?_⟩
    unfold stDo
    clear h4 h1
    constructor<;>simp -implicitDefEqProofs[l492_1]
  obtain⟨_,⟨F,hF,rfl⟩,hlo⟩:=hlo
  rw[e]
  unfold stDo at hlo
  simp only[Int.natCast_zero,zy9]at hlo
  obtain⟨hlt,hge⟩:=List.getElem?_eq_some_iff.1 hF
  rw[f492 _ rfl,b492]
  simp -implicitDefEqProofs[c,hlo,hge,hlt]
 ·rw[decide_eq_false hw]at c
  have e:depN l=0:=by unfold depN;grind
  rw[e,f492 _ rfl,b492]
  simp -implicitDefEqProofs[c]
end
section
variable{T:Tbl}[CJoin T][CLex T]
theorem zk0(c:UInt8):callF T 185 [u8 c.toNat]=some (.b (isD c)):=by
 rw[f185 _ rfl,b185]
 by_cases h1:48≤c.toNat
 ·simp -implicitDefEqProofs[isD,h1]
 ·simp -implicitDefEqProofs[isD,h1]
theorem zia(c:UInt8):callF T 186 [u8 c.toNat]=some (.b (isL c)):=by
 rw[f186 _ rfl,b186]
 by_cases h1:97≤c.toNat<;>by_cases h2:c.toNat≤122<;>by_cases h3:65≤c.toNat<;>by_cases h4:c.toNat≤90<;>by_cases h5:c.toNat=95 <;>
  simp -implicitDefEqProofs[isL,h1,h2,h3,h4,h5]
theorem zvg(c:UInt8):callF T 187 [u8 c.toNat]=some (.b (isS c)):=by rw[p187,zqn]
theorem zvh(c:UInt8):callF T 177 [u8 c.toNat]=some (.i .i64 (kindN c)):=by
 have h1:=zk0 (T:=T) c
 have h2:=zia (T:=T) c
 have h3:=zvg (T:=T) c
 rw[f177 _ rfl,b177]
 cases e1:isD c<;>cases e2:isL c<;>cases e3:isS c<;>simp -implicitDefEqProofs[kindN,h1,h2,h3,e1,e2,e3]
theorem zvi(k:Nat)(c:UInt8):callF T 188 [.i .i64 k,u8 c.toNat]=some (.b (moreN k c)):=by
 have h1:=zk0 (T:=T) c
 have h2:=zia (T:=T) c
 rw[f188 _ rfl,b188]
 by_cases k1:k=1
 ·subst k1
  cases e1:isD c<;>cases e2:isL c<;>simp -implicitDefEqProofs[moreN,h1,e1,e2]
 ·have k1':¬ (k:Int)=1:=by omega
  by_cases k2:k=2
  ·subst k2
   cases e1:isD c<;>cases e2:isL c<;>simp -implicitDefEqProofs[moreN,h1,h2,e1,e2]
  ·have k2':¬ (k:Int)=2:=by omega
   simp -implicitDefEqProofs[moreN,k1,k2,k1',k2']
theorem zvj(k:Nat):callF T 179 [.i .i64 k]=some (.i .i64 (mostN k)):=by
 rw[f179 _ rfl,b179]
 by_cases k1:k=1
 ·subst k1
  simp -implicitDefEqProofs[mostN]
 ·have k1':¬ (k:Int)=1:=by omega
  by_cases k2:k=2
  ·subst k2
   simp -implicitDefEqProofs[mostN]
  ·have k2':¬ (k:Int)=2:=by omega
   simp -implicitDefEqProofs[mostN,k1,k2,k1',k2']
theorem zpt(s:List UInt8)(hs:s.length≤1000000)(k F:Nat):∀n:Nat,(n≤s.length∧n+((s.drop n).takeWhile (moreN k)).length=F) →
  loopN T 0 0 (.norm false [5]) l178_0 ⟨[(0,.s s),(1,.i .i64 k),(5,.i .i64 n)],[],2⟩=some (.n,⟨[(5,.i .i64 F)],[],2⟩):=by
 refine zbg (fun n:Nat=>⟨[(0,.s s),(1,.i .i64 k),(5,.i .i64 n)],[],2⟩) _ (fun n=>s.length-n) _ ?_
 rintro n ⟨hn,hF⟩
 by_cases h0:n<s.length
 ·have hd:=List.drop_eq_getElem_cons h0
  have hgo:=zvi (T:=T) k (s[n]'h0)
  have hw:IntKind.wrap .i64 ((n:Int)+1)=((n+1:Nat):Int):=zac _ (by omega)
  by_cases hc:moreN k (s[n]'h0)=true
  ·left
   rw[hd,List.takeWhile_cons_of_pos hc]at hF
   refine⟨n+1,⟨h0,by grind⟩,by omega,?_,rfl⟩
   simp -implicitDefEqProofs[l178_0,h0,hgo,hc,hw]
  ·right
   rw[hd,List.takeWhile_cons_of_neg hc]at hF
   subst hF
   constructor<;>simp -implicitDefEqProofs[l178_0,h0,hgo,hc]
 ·right
  have:n=s.length:=by omega
  subst this
  rw[List.drop_length]at hF
  subst hF
  constructor<;>simp -implicitDefEqProofs[l178_0]
theorem zs7(c:UInt8)(r:List UInt8)(hs:r.length≤100000)(k:Nat):callF T 178 [.s (c::r),.i .i64 k]=some (.i .i64 (firstN k r)):=by
 have h:=zpt (T:=T) (c::r) (by grind) k (firstN k r) 1 ⟨by simp,rfl⟩
 rw[f178 _ rfl,b178]
 simp_all
def wdR(w:Wd):List AV:=[.i .i64 w.1,.s w.2.1,.i .i64 w.2.2]
def rowsW(l:List Wd):List (List AV):=l.map wdR
def stScL(s:List UInt8)(i:Nat)(acc:List Wd):St:=
 ⟨[(0,.s s),(3,.ptr (.loc 3) 1 4 0 0),(4,.bs (.loc 4) 2 3 0 acc.length),(5,.i .i64 i)],[(.loc 3,⟨1,.str,4,[[.i .i64 0,.i .i64 0,.i .i64 0,.i .i64 0]]⟩),(.loc 4,⟨2,.own,3,rowsW acc⟩)],4⟩
def resSc:Except Nat (List Wd)→Option (Ex×St)
 | .ok ws=>some (.n,⟨[(3,.ptr (.loc 3) 1 4 0 0),(4,.bs (.loc 4) 2 3 0 ws.length)],[(.loc 3,⟨1,.str,4,[[.i .i64 0,.i .i64 0,.i .i64 0,.i .i64 0]]⟩),(.loc 4,⟨2,.own,3,rowsW ws⟩)],4⟩)
 | .error e=>some (.r,⟨[(2,.sl [] .an),(3,.ptr (.loc 3) 1 4 0 0)],[(.loc 3,⟨1,.str,4,[[.i .i64 1,.i .i64 0,.i .i64 0,.i .i64 e]]⟩)],3⟩)
def ansScan(r:Except Nat (List Wd)):AV:=
 match r with
 | .ok ws=>.tup [.sl (rowsW ws) .an,.agg [.i .i64 0,.i .i64 0,.i .i64 0,.i .i64 0]]
 | .error e=>.tup [.sl [] .an,.agg [.i .i64 1,.i .i64 0,.i .i64 0,.i .i64 e]]
def scanT(s:List UInt8):Except Nat (List Wd):=if 4000<s.length then .error 4000 else scanL (s.drop (skipC false s)) (skipC false s) []
def rightB(k:Int)(t:List UInt8):Bool:=
 match t with
 | []=>false
 | c::r=>decide (k≠0)&&decide ((kindN c:Int)=k)&&decide (firstN (kindN c) r=r.length+1)&&decide (r.length+1≤mostN (kindN c))
theorem zs8(k a:Int)(t:List UInt8)(ht:t.length≤100000):callF T 172 [.agg [.i .i64 k,.s t,.i .i64 a]]=some (.b (rightB k t)):=by
 rw[f172 _ rfl,b172]
 cases t with
 | nil=>simp -implicitDefEqProofs[rightB]
 | cons c r=>
  simp only[List.length_cons]at ht
  have hk:=zvh (T:=T) c
  have hf:=zs7 (T:=T) c r (by omega) (kindN c)
  have hm:=zvj (T:=T) (kindN c)
  by_cases h0:k=0
  ·simp -implicitDefEqProofs[rightB,h0]
  ·by_cases h1:(kindN c:Int)=k
   ·subst h1
    have h0':¬ kindN c=0:=by omega
    by_cases h2:firstN (kindN c) r=r.length+1
    ·by_cases h3:r.length+1≤mostN (kindN c)
     ·have h3':(r.length:Int)+1≤(mostN (kindN c):Nat):=by omega
      simp -implicitDefEqProofs[rightB,h0',hk,hf,hm,h2,h3,h3']
     ·have h3':¬ (r.length:Int)+1≤(mostN (kindN c):Nat):=by omega
      simp -implicitDefEqProofs[rightB,h0',hk,hf,hm,h2,h3,h3']
    ·have h2':¬ ((firstN (kindN c) r:Nat):Int)=(r.length:Int)+1:=by omega
     simp -implicitDefEqProofs[rightB,h0',hk,hf,h2,h2']
   ·simp -implicitDefEqProofs[rightB,h0,hk,h1]
abbrev Wz:=Int×List UInt8×Int
def wzR(w:Wz):List AV:=[.i .i64 w.1,.s w.2.1,.i .i64 w.2.2]
def rowsZ(l:List Wz):List (List AV):=l.map wzR
def stTe(l:List Wz)(i:Nat)(b:BId):St:=
 ⟨[(3,.bs (.loc 3) 1 1 0 i),(6,.sl (rowsZ l) .an),(7,.i .i64 l.length),(8,.i .i64 i)],[(.loc 3,⟨1,.own,1,rowsT ((l.take i).map (·.2.1))⟩)],3⟩
end
def nameB(s:List UInt8):Bool:=rightB 2 s&&decide (s≠[116])&&decide (s≠[121])&&decide (s≠[112])&&decide (s≠[108,101,116])
def twB(l:List Lt)(nm:List UInt8):Bool:=l.any fun x=>decide (x.name=nm)
def ptA(dim pars lets:Int)(c:List Nd):Int:=if placeN dim pars lets c<0∧40<depN c then c.length else placeN dim pars lets c
def chkL(dim pars:Int)(L:List Lt):Nat→List Lt→Option (Int×Int×Int)
 | _,[]=>none
 | i,x::r=>if nameB x.name=false∨twB (L.take i) x.name=true then some ((i:Int)+1,1,0) else if 0≤ptA dim pars i x.code then some ((i:Int)+1,0,ptA dim pars i x.code) else chkL dim pars L (i+1) r
def chkO(dim pars:Int)(n:Nat):Nat→List (List Nd)→Option (Int×Int×Int)
 | _,[]=>none
 | i,c::r=>if 0≤ptA dim pars n c then some (((n+i:Nat):Int)+1,0,ptA dim pars n c) else chkO dim pars n (i+1) r
def whB(f:Fd)(dim pars:Int):Bool:=decide (1≤dim∧dim≤6∧0≤pars∧pars≤6∧(f.outs.length:Int)=dim∧f.lets.length≤10∧sizeD f≤300)
def chkD(f:Fd)(dim pars:Int):Option (Int×Int×Int):=
 if whB f dim pars=false then some (0,0,0) else match chkL dim pars f.lets 0 f.lets with
  | some q=>some q
  | none=>chkO dim pars f.lets.length 0 f.outs
theorem zdc{α:Type}{motive:List α→Prop}(nil:motive [])(append_singleton:∀(l:List α) (x:α),motive l→motive (l++[x]))(l:List α):motive l:=by
 have key:∀l:List α,motive l.reverse:=by
  intro l
  induction l with
  | nil=>exact nil
  | cons x l ih=>rw[List.reverse_cons];exact append_singleton _ x ih
 rw[←List.reverse_reverse l]
 exact key _
def inE(E:List (List Nd))(c:List Nd):List Nd:=c.flatMap fun x=>if x.op=5 then (E[x.i.toNat]?).getD [] else [x]
def tabE(L:List (List Nd)):List (List Nd):=L.foldl (fun E c=>E++[inE E c]) []
def refB(b:Nat)(c:List Nd):Prop:=∀x∈c,x.op=5→0≤x.i∧x.i<b
theorem refB.mono{b b':Nat}{c:List Nd}(h:refB b c)(hb:b≤b'):refB b' c:=fun x hx ho=>by have:=h x hx ho;omega
def refT(L:List (List Nd)):Prop:=∀(i:Nat) (c:List Nd),L[i]? = some c→refB i c
def noLet(c:List Nd):Prop:=∀x∈c,x.op≠5
def szC(S:List Nat)(c:List Nd):Nat:=c.foldl (fun n x=>min (n+if x.op=5 then (S[x.i.toNat]?).getD 0 else 1) 1201) 0
def szT(L:List (List Nd)):List Nat:=L.foldl (fun S c=>S++[szC S c]) []
def allE(E:List (List Nd))(O:List (List Nd)):Nat:=(O.map fun c=>(inE E c).length).sum
theorem zt7{dim pars lets:Int}{c:List Nd}(h:ptA dim pars lets c<0):placeN dim pars lets c<0∧depN c≤40:=by
 unfold ptA at h
 by_cases h1:placeN dim pars lets c<0∧40<depN c
 ·rw[if_pos h1]at h;omega
 ·rw[if_neg h1]at h
  exact⟨h,by omega⟩
theorem zlh{dim pars:Int}{L:List Lt}:∀(l:List Lt) (i:Nat),chkL dim pars L i l=none→∀k x,l[k]? = some x→ptA dim pars ((i+k:Nat):Int) x.code<0
 | [],i,h,k,x,hk=>by simp at hk
 | y::r,i,h,k,x,hk=>by
  unfold chkL at h
  split at h
  ·cases h
  ·split at h
   ·cases h
   ·next h2=>
    cases k with
    | zero=>
     simp only[List.getElem?_cons_zero,Option.some.injEq]at hk
     subst hk
     rw[Nat.add_zero];omega
    | succ k=>
     rw[List.getElem?_cons_succ]at hk
     have:=zlh r (i+1) h k x hk
     rwa [show i+1+k=i+(k+1) by omega]at this
theorem zli{dim pars:Int}{n:Nat}:∀(l:List (List Nd)) (i:Nat),chkO dim pars n i l=none→∀c∈l,ptA dim pars n c<0
 | [],i,h,c,hc=>by simp at hc
 | y::r,i,h,c,hc=>by
  unfold chkO at h
  split at h
  ·cases h
  ·rcases List.mem_cons.1 hc with rfl | hc
   ·omega
   ·exact zli r (i+1) h c hc
structure FineD (f:Fd) (dim pars:Int):Prop where
 wh:1≤dim∧dim≤6∧0≤pars∧pars≤6∧(f.outs.length:Int)=dim∧f.lets.length≤10∧sizeD f≤300
 lets:∀k x,f.lets[k]? = some x→placeN dim pars (k:Nat) x.code<0
 outs:∀c∈f.outs,placeN dim pars f.lets.length c<0
theorem zha{f:Fd}{dim pars:Int}(h:chkD f dim pars=none):FineD f dim pars:=by
 unfold chkD at h
 cases hW:whB f dim pars with
 | false=>rw[hW,if_pos rfl]at h;cases h
 | true=>
  rw[hW,if_neg (by decide)]at h
  have hw:=by simpa[whB]using hW
  cases hL:chkL dim pars f.lets 0 f.lets with
  | some q=>rw[hL]at h;cases h
  | none=>
   rw[hL]at h
   refine⟨hw,fun k x hk=>?_,fun c hc=>(zt7 (zli _ _ h c hc)).1⟩
   have:=zlh _ _ hL k x hk
   rw[Nat.zero_add]at this
   exact(zt7 this).1
theorem zjh{dim pars lets:Int}{x:Nd}(h:okN dim pars lets x=true)(ho:x.op=5):0≤x.i∧x.i<lets:=by
 unfold okN at h
 rw[ho,if_neg (by decide)]at h
 split at h
 ·cases h
 ·simpa[belB]using h
theorem FineD.refT{f:Fd}{dim pars:Int}(h:FineD f dim pars):refT (f.lets.map (·.code)):=by
 intro i c hc x hx ho
 rw[List.getElem?_map]at hc
 obtain⟨y,hy,rfl⟩:=Option.map_eq_some_iff.1 hc
 obtain⟨_,_,_,hok⟩:=zcq (h.lets i y hy)
 exact zjh (hok x hx) ho
theorem FineD.refB{f:Fd}{dim pars:Int}(h:FineD f dim pars):∀c∈f.outs,refB f.lets.length c:=by
 intro c hc x hx ho
 obtain⟨_,_,_,hok⟩:=zcq (h.outs c hc)
 exact zjh (hok x hx) ho
theorem zqp{l:List Nat}{n:Nat}(h:n∈l):n≤l.sum:=by
 induction l with
 | nil=>cases h
 | cons m l ih=>
  rw[List.sum_cons]
  rcases List.mem_cons.1 h with rfl | h
  ·omega
  ·have:=ih h;omega
theorem FineD.len{f:Fd}{dim pars:Int}(h:FineD f dim pars):∀c∈codesD f,c.length≤300:=by
 intro c hc
 have:=h.wh.2.2.2.2.2.2
 unfold sizeD at this
 have h2:c.length≤((codesD f).map List.length).sum:=zqp (List.mem_map.2 ⟨c,hc,rfl⟩)
 omega
theorem zfa{f:Fd}{x:Lt}(h:x∈f.lets):x.code∈codesD f:=List.mem_append_left _ (List.mem_map.2 ⟨x,h,rfl⟩)
theorem zfb{f:Fd}{c:List Nd}(h:c∈f.outs):c∈codesD f:=List.mem_append_right _ h
def letsB(f:Fd):Bool:=decide (0<f.lets.length) || f.outs.any fun c=>c.any fun x=>decide (x.op=5)
abbrev tabF(f:Fd):List (List Nd):=tabE (f.lets.map (·.code))
def hasP(f:Fd):Bool:=decide (chkD f f.outs.length 6=none)&&decide (allE (tabF f) f.outs≤1200)
def outsP(f:Fd):List (List Nd):=f.outs.map (inE (tabF f))
class CRow2 (T:Tbl):Prop where
class CFig (T:Tbl):Prop where
def prim344:List AV→Option AV
 | [.s s,.s [47,46]]=>if s.length≤1000000 then some (.i .i64 (Lib.indexAny s [47,46])) else none
 | _=>none
def prim194:List AV→Option AV
 | [.s s,.s [c]]=>some (.i .i64 (Lib.indexByte s c))
 | _=>none
def prim361:List AV→Option AV
 | [.s s,.s [c]]=>some (.i .i64 (Lib.countByte s c))
 | _=>none
def prim343:List AV→Option AV
 | [.s [48],.i .i64 n]=>if 0≤n∧n≤64 then some (.s (List.replicate n.toNat 48)) else none
 | _=>none
class CStr (T:Tbl):Prop where
class CSplit (T:Tbl):Prop where
def splitC(c:UInt8):List UInt8→List (List UInt8)
 | []=>[[]]
 | b::l=>if b=c then []::splitC c l else match splitC c l with
  | []=>[[b]]
  | p::r=>(b::p)::r
section
variable{T:Tbl}[CStr T][CSplit T]
def stSp(c:UInt8)(N:Nat)(ps:List (List UInt8))(s:List UInt8):St:=
 ⟨[(0,.s s),(1,.s [c]),(2,.i .i64 0),(3,.i .i64 ((N:Int)-1)),(9,.bs (.loc 31) 1 1 0 N),(10,.i .i64 ps.length)],[(.loc 31,⟨1,.own,1,rowsT ps++List.replicate (N-ps.length) [.s []]⟩)],3⟩
end
abbrev flt(k a:Int):AV:=.agg [.i .i64 k,.i .i64 0,.i .i64 0,.i .i64 a]
def isCut(c:UInt8):Bool:=c == 47 || c == 46
def cutN:List UInt8→Nat
 | []=>0
 | c::r=>if isCut c then 0 else cutN r+1
def figB(z:Int)(neg:Bool)(s:List UInt8)(c:UInt8)(at_:Nat):Rat×Int×Int:=
 let rest:=s.drop at_
 if 0≤wrongI rest then (0,1,wrongI rest+at_)
 else if c=47 then (if rd rest=0 then (0,2,at_) else (mkRat z (rd rest),0,0))
 else (mkRat (sg neg (z.natAbs*10^rest.length+rd rest)) (10^rest.length),0,0)
def figR(s:List UInt8):Rat×Int×Int:=
 let first:=s.take (cutN s)
 if 0≤wrongZ first then (0,1,wrongZ first+minus first)
 else if cutN s<s.length then figB (readZ first) (s.head? = some 45) s (s.getD (cutN s) 0) (cutN s+1)
 else (mkRat (readZ first) 1,0,0)
def readL:List (List UInt8)→Nat→List Rat→List Rat×Int×Int
 | [],_,acc=>(acc,0,0)
 | w::ws,k,acc=>if (figR w).2.1=0 then readL ws (k+w.length+1) (acc++[(figR w).1]) else ([],(figR w).2.1,(figR w).2.2+k)
def rowR(s:List UInt8):List Rat×Int×Int:=if s=[] then ([],0,0) else readL (splitC 44 s) 0 []
section
variable{T:Tbl}[CLimb T][CNat T][CProd T][CTwos T][CQuot T][CQuotD T][CDigits T][CText T][CWhole T][CCommon T][CFrac T][CFrac2 T][CStr T][CSplit T][CPow T][CFig T][CJoin T][CRow T][CRow2 T]
def stRR(ws:List (List UInt8))(y:Nat×Nat×List Rat):St:=
 ⟨[(3,.ptr (.loc 3) 1 4 0 0),(4,.bs (.loc 4) 2 3 0 y.2.2.length),(5,.i .i64 y.2.1),(14,.sl (rowsT ws) .an),(15,.i .i64 ws.length),(16,.i .i64 y.1)],
  [(.loc 3,⟨1,.str,4,[[.i .i64 0,.i .i64 0,.i .i64 0,.i .i64 0]]⟩),(.loc 4,⟨2,.own,3,rowF (fzs y.2.2)⟩)],4⟩
def resRR(r:List Rat×Int×Int):Option (Ex×St):=
 if r.2.1=0 then some (.n,⟨[(3,.ptr (.loc 3) 1 4 0 0),(4,.bs (.loc 4) 2 3 0 r.1.length)],[(.loc 3,⟨1,.str,4,[[.i .i64 0,.i .i64 0,.i .i64 0,.i .i64 0]]⟩),(.loc 4,⟨2,.own,3,rowF (fzs r.1)⟩)],4⟩)
 else some (.r,⟨[(2,.sl [] .an),(3,.ptr (.loc 3) 1 4 0 0)],[(.loc 3,⟨1,.str,4,[[.i .i64 r.2.1,.i .i64 0,.i .i64 0,.i .i64 r.2.2]]⟩)],3⟩)
end
def Dig(l:List UInt8):Prop:=∀c∈l,48≤c.toNat∧c.toNat≤57
theorem zoi{n:Nat}(h:n<10):(UInt8.ofNat (48+n)).toNat=48+n:=by
 rw[UInt8.toNat_ofNat']
 omega
theorem zoj(n:Nat):rd (textN n)=n:=by
 induction n using Nat.strongRecOn with
 | _ n ih=>
  by_cases h:n<10
  ·rw[zd9 h]
   show 0*10+((UInt8.ofNat (48+n)).toNat-48)=n
   rw[zoi h]
   omega
  ·rw[zle h,zzh,ih (n/10) (by omega),zoi (by omega)]
   omega
def NoCut(l:List UInt8):Prop:=∀c∈l,isCut c=false
theorem Ins.ext'{x y:Ins}(h1:x.op=y.op)(h2:x.a=y.a)(h3:x.b=y.b)(h4:x.n=y.n):x=y:=by
 obtain⟨_,_,_,_⟩:=x
 obtain⟨_,_,_,_⟩:=y
 simp_all
instance:DecidableEq Ins:=fun x y=>decidable_of_iff (x.op=y.op∧x.a=y.a∧x.b=y.b∧x.n=y.n) ⟨fun h=>Ins.ext' h.1 h.2.1 h.2.2.1 h.2.2.2,fun h=>by subst h;exact⟨rfl,rfl,rfl,rfl⟩⟩
def blk:Fz:=(false,[],[])
def MkI(x:Ins):Prop:=(x.op=1→∃n:Nat,x.n=fz (n:Rat))∧(x.op≠1→x.n=blk)
def txtI(x:Ins):List UInt8:=if x.op=1 then textN (val x.n.2.1) else []
def keyA(x:Ins):AV:=.agg [.i .i64 x.op,.i .i64 x.a,.i .i64 x.b,.s (txtI x)]
abbrev lsK:List (Nat×Leaf):=[(0,.int),(1,.int),(2,.int),(3,.str)]
theorem zm3(x y:Ins):keyEq (.fs lsK) (keyA x) (keyA y)=some (decide (x.op=y.op∧x.a=y.a∧x.b=y.b∧txtI x=txtI y)):=by
 unfold keyA
 simp only[keyEq,eqL,List.getElem?_cons_zero,List.getElem?_cons_succ,leafEq]
 by_cases h1:x.op=y.op<;>by_cases h2:x.a=y.a<;>by_cases h3:x.b=y.b<;>by_cases h4:txtI x=txtI y<;>simp[h1,h2,h3,h4]
theorem zzj{x y:Ins}(hx:MkI x)(hy:MkI y)(h:x.op=y.op∧x.a=y.a∧x.b=y.b∧txtI x=txtI y):x=y:=by
 obtain⟨h1,h2,h3,h4⟩:=h
 refine Ins.ext' h1 h2 h3 ?_
 by_cases ho:x.op=1
 ·obtain⟨n,hn⟩:=hx.1 ho
  obtain⟨m,hm⟩:=hy.1 (h1▸ho)
  unfold txtI at h4
  rw[if_pos ho,if_pos (h1▸ho)]at h4
  have h5:val x.n.2.1=val y.n.2.1:=by rw[←zoj (val x.n.2.1),h4,zoj]
  have key:∀k:Nat,val (fz (k:Rat)).2.1=k:=fun k=>by
   unfold fz
   simp[zaj]
  rw[hn,hm,key,key]at h5
  rw[hn,hm,h5]
 ·rw[hx.2 ho,hy.2 (h1▸ho)]
def idxI(x:Ins):Nat→List Ins→Option Nat
 | _,[]=>none
 | k,y::r=>if y=x then some k else idxI x (k+1) r
def mapI:Nat→List Ins→List (List AV)
 | _,[]=>[]
 | k,y::r=>[keyA y,.i .i64 (k:Int)]::mapI (k+1) r
@[simp] theorem zwd(k:Nat):mapI k []=[]:=rfl
theorem zlf(x:Ins):∀(C:List Ins) (k:Nat),mapI k (C++[x])=mapI k C++[[keyA x,.i .i64 ((k+C.length:Nat):Int)]]
 | [],k=>rfl
 | y::r,k=>by
  show _::mapI (k+1) (r++[x])=_::(mapI (k+1) r++_)
  rw[zlf x r (k+1),List.length_cons,show k+1+r.length=k+(r.length+1) by omega]
@[simp] theorem zt5:∀(C:List Ins) (k:Nat),wkL (mapI k C)=mapI k C
 | [],k=>rfl
 | y::r,k=>by
  show wkR [keyA y,.i .i64 (k:Int)]::wkL (mapI (k+1) r)=_
  rw[zt5 r (k+1)]
  rfl
theorem zg9(x:Ins)(hx:MkI x):∀(C:List Ins) (k:Nat),(∀y∈C,MkI y)→findE (.fs lsK) (keyA x) (mapI k C)=some ((idxI x k C).map fun i=>.i .i64 (i:Int))
 | [],k,_=>rfl
 | y::r,k,h=>by
  show (keyEq (.fs lsK) (keyA x) (keyA y)).bind _=_
  rw[zm3,Option.bind_some]
  by_cases hxy:y=x
  ·subst hxy
   rw[decide_eq_true ⟨rfl,rfl,rfl,rfl⟩,if_pos rfl]
   unfold idxI
   rw[if_pos rfl]
   rfl
  ·have:¬ (x.op=y.op∧x.a=y.a∧x.b=y.b∧txtI x=txtI y):=fun hh=>hxy (zzj hx (h y List.mem_cons_self) hh).symm
   rw[decide_eq_false this,if_neg (by decide)]
   unfold idxI
   rw[if_neg hxy]
   exact zg9 x hx r (k+1) fun z hz=>h z (List.mem_cons_of_mem _ hz)
theorem zm4(x:Ins):∀(C:List Ins) (k i:Nat),idxI x k C=some i→k≤i∧i<k+C.length∧C[i-k]? = some x
 | [],k,i,h=>by cases h
 | y::r,k,i,h=>by
  unfold idxI at h
  split at h
  ·next hy=>
   cases h
   subst hy
   exact⟨Nat.le_refl _,by simp,by simp⟩
  ·obtain⟨h1,h2,h3⟩:=zm4 x r (k+1) i h
   refine⟨by omega,by simp only[List.length_cons];omega,?_⟩
   rw[show i-k=(i-(k+1))+1 by omega,List.getElem?_cons_succ]
   exact h3
theorem zlg(x:Ins):∀(C:List Ins) (k:Nat),idxI x k C=none→x∉C
 | [],k,_=>by simp
 | y::r,k,h=>by
  unfold idxI at h
  split at h
  ·cases h
  ·next hy=>
   intro hm
   rcases List.mem_cons.1 hm with e | hm
   ·exact hy e.symm
   ·exact zlg x r (k+1) h hm
def putI(C:List Ins)(x:Ins):List Ins×Nat:=match idxI x 0 C with | some i=>(C,i) | none=>(C++[x],C.length)
def leafI(x:Nd):Ins:=if x.op=1 then ⟨1,0,0,fz ((val x.n:Nat):Rat)⟩ else if x.op=2 then ⟨2,0,0,blk⟩ else ⟨x.op,x.i,0,blk⟩
def ndI(Ls:List Nat)(C:List Ins)(s:List Nat)(x:Nd):List Ins×Nat:=
 if x.op=5 then (C,(Ls[x.i.toNat]?).getD 0)
 else if arN x.op=0 then putI C (leafI x)
 else if arN x.op=1 then putI C ⟨x.op,((s[s.length-1]?).getD 0:Nat),x.i,blk⟩
 else putI C ⟨x.op,((s[s.length-2]?).getD 0:Nat),((s[s.length-1]?).getD 0:Nat),blk⟩
structure Mq where
 C:List Ins
 W:List Nat
 s:List Nat
def stepQ'(Ls:List Nat)(q:Mq)(x:Nd):Mq:=⟨(ndI Ls q.C q.s x).1,q.W++[(ndI Ls q.C q.s x).2],q.s.take (q.s.length-(arN x.op).toNat)++[(ndI Ls q.C q.s x).2]⟩
def exQ(Ls:List Nat)(C:List Ins)(W:List Nat)(c:List Nd):Mq:=c.foldl (stepQ' Ls) ⟨C,W,[]⟩
theorem zod(Ls:List Nat)(C:List Ins)(W:List Nat)(c:List Nd)(x:Nd):exQ Ls C W (c++[x])=stepQ' Ls (exQ Ls C W c) x:=by simp[exQ]
theorem zm5{C:List Ins}{x:Ins}(hC:∀y∈C,MkI y)(hx:MkI x):∀y∈(putI C x).1,MkI y:=by
 unfold putI
 split
 ·exact hC
 ·intro y hy
  rcases List.mem_append.1 hy with h | h
  ·exact hC y h
  ·rw[List.mem_singleton]at h
   rw[h];exact hx
theorem zoe(x:Nd):MkI (leafI x):=by
 unfold leafI
 split
 ·exact⟨fun _=>⟨_,rfl⟩,fun h=>absurd rfl h⟩
 ·next h1=>
  split
  ·exact⟨fun h=>absurd h (by decide),fun _=>rfl⟩
  ·exact⟨fun h=>absurd h h1,fun _=>rfl⟩
theorem z4h{Ls:List Nat}{C:List Ins}{s:List Nat}{x:Nd}(hC:∀y∈C,MkI y):∀y∈(ndI Ls C s x).1,MkI y:=by
 unfold ndI
 split
 ·exact hC
 ·split
  ·exact zm5 hC (zoe x)
  ·next h0=>
   have h1:x.op≠1:=fun h=>h0 (by rw[h];decide)
   split
   ·exact zm5 hC ⟨fun h=>absurd h h1,fun _=>rfl⟩
   ·exact zm5 hC ⟨fun h=>absurd h h1,fun _=>rfl⟩
theorem zof(Ls:List Nat):∀(c:List Nd) (q:Mq),(∀y∈q.C,MkI y)→∀y∈(c.foldl (stepQ' Ls) q).C,MkI y
 | [],q,h=>h
 | x::c,q,h=>zof Ls c (stepQ' Ls q x) (z4h h)
theorem zev(C:List Ins)(x:Ins):C.length≤(putI C x).1.length∧(putI C x).1.length≤C.length+1∧(putI C x).2<(putI C x).1.length:=by
 unfold putI
 split
 ·next i h=>
  have:=zm4 x C 0 i h
  exact⟨Nat.le_refl _,by simp,by simpa using this.2.1⟩
 ·simp
class CPlain (T:Tbl):Prop where
abbrev mkP:AV:=.ptr (.bor 0) 0 2 0 0
def memR(E:List (List Nd))(D:List Nat):List (List AV):=D.map fun(i:Nat)=>[.i .i64 (i:Int),.sl (rowN ((E[i]?).getD [])) .an]
def plH(L:List Lt)(E:List (List Nd))(D:List Nat):Heap:=[(.bor 0,⟨0,.str,2,[[.sl (rowLt L) .an,.fnp 0 (.bor 1) 1 2 0 0]]⟩),(.bor 1,⟨1,.mp,2,memR E D⟩)]
theorem zfn{k:KTy}{id:BId}{g:Nat}{i y:AV}{h:Heap}{clk:Nat}:mupdXV k (.fnp 0 id g 2 0 0) i y h clk =
  (mapAt h id g).bind fun bx=>if (keyEq k i i).isSome&&noRef i&&noRef y&&isNew (findE k i bx.els) then some (.dead,(id,⟨g,.mp,2,bx.els++[[i,y]]⟩)::h,clk) else none:=rfl
def stPc(L:List Lt)(E:List (List Nd))(D:List Nat)(out c:List Nd)(i:Nat):St:=
 ⟨[(0,mkP),(5,.bs (.loc 5) 5 3 0 out.length),(8,.sl (rowN c) .an),(9,.i .i64 c.length),(10,.i .i64 i)],plH L E D++[(.loc 5,⟨5,.own,3,rowN out⟩)],7⟩
end Go.Ab
section
namespace Go.Ab
end Go.Ab
end
namespace Go.Ab
def natR(S:List Nat):List (List AV):=S.map fun(n:Nat)=>[.i .i64 (n:Int)]
@[simp] theorem zcp(S:List Nat):(natR S).length=S.length:=by simp[natR]
@[simp] theorem zacw(S:List Nat):wkL (natR S)=natR S:=by rw[zbu];simp[natR,wkR,wkA]
@[simp] theorem z7r(S:List Nat)(i:Nat)(h:i<(natR S).length):(natR S)[i]=[.i .i64 ((S[i]'(by simpa using h):Nat):Int)]:=by simp[natR]
@[simp] theorem zvw:natR []=[]:=rfl
theorem zet(S:List Nat)(n:Nat):natR S++[[.i .i64 (n:Int)]]=natR (S++[n]):=by simp[natR]
def stPs(S:List Nat)(n:Nat)(c:List Nd)(i:Nat):St:=
 ⟨[(1,.bs (.bor 0) 0 1 0 S.length),(5,.i .i64 (n:Int)),(8,.sl (rowN c) .an),(9,.i .i64 c.length),(10,.i .i64 (i:Int))],[(.bor 0,⟨0,.own,1,natR S⟩)],4⟩
abbrev cmP:AV:=.ptr (.bor 0) 0 4 0 0
def cmH(gc gw:Nat)(C:List Ins)(L W:List Nat):Heap:=
 [(.bor 0,⟨0,.str,4,[[.bs (.bor 1) gc 6 0 C.length,.fnp 0 (.bor 2) 2 2 0 0,.bs (.bor 3) 3 1 0 L.length,.bs (.bor 4) gw 1 0 W.length]]⟩),(.bor 1,⟨gc,.own,6,rowI C⟩),(.bor 2,⟨2,.mp,2,mapI 0 C⟩),(.bor 3,⟨3,.own,1,natR L⟩),(.bor 4,⟨gw,.own,1,natR W⟩)]
section
variable{T:Tbl}[CText T][CComp T]
theorem zkw(C:List Ins)(L W:List Nat)(x:Ins)(hC:∀y∈C,MkI y)(hx:MkI x)(hn:x.n.2.1.length≤1000)(i:Nat)(hi:idxI x 0 C=some i) :
  callH T 650 [cmP,.agg (celI x)] (cmH 1 4 C L W)=some (.i .i64 (i:Int),cmH 1 4 C L W):=by
 have hf:=zg9 x hx C 0 hC
 rw[hi]at hf
 have hk:=zm3 x x
 rw[decide_eq_true ⟨rfl,rfl,rfl,rfl⟩]at hk
 unfold keyA at hf hk
 unfold cmH
 by_cases ho:x.op=1
 ·have c68:callF T 68 [.sl (u32s x.n.2.1) .an]=some (.s (textN (val x.n.2.1))):=by
   rw[p68]
   exact zg5 x.n.2.1 hn
  have ht:txtI x=textN (val x.n.2.1):=if_pos ho
  rw[ht]at hf hk
  obtain⟨op,a,b,⟨n0,n1,n2⟩⟩:=x
  dsimp only at *
  subst ho
  generalize textN (val n1)=tx at *
  rw[f650 _ _ rfl,b650]
  simp -implicitDefEqProofs[hf,hk,c68,genAt,zfn]
 ·have ht:txtI x=[]:=if_neg ho
  rw[ht]at hf hk
  obtain⟨op,a,b,⟨n0,n1,n2⟩⟩:=x
  dsimp only at *
  rw[f650 _ _ rfl,b650]
  simp -implicitDefEqProofs[hf,hk,ho,genAt,zfn]
theorem zkx(C:List Ins)(L W:List Nat)(x:Ins)(hC:∀y∈C,MkI y)(hx:MkI x)(hn:x.n.2.1.length≤1000)(hi:idxI x 0 C=none)(hl:C.length≤100000) :
  callH T 650 [cmP,.agg (celI x)] (cmH 1 4 C L W)=some (.i .i64 (C.length:Int),cmH 7 4 (C++[x]) L W):=by
 have hf:=zg9 x hx C 0 hC
 rw[hi]at hf
 have hk:=zm3 x x
 rw[decide_eq_true ⟨rfl,rfl,rfl,rfl⟩]at hk
 have hms:=zlf x C 0
 have hrs:=zuc C x
 rw[Nat.zero_add]at hms
 have hwk:=zt5 (C++[x]) 0
 rw[hms]at hwk
 have hw3:IntKind.wrap .i64 (C.length:Int)=(C.length:Int):=zac _ (by omega)
 have hl2:C.length+1≤4294967296:=by omega
 unfold keyA at hf hk hms hwk
 unfold cmH
 by_cases ho:x.op=1
 ·have c68:callF T 68 [.sl (u32s x.n.2.1) .an]=some (.s (textN (val x.n.2.1))):=by
   rw[p68]
   exact zg5 x.n.2.1 hn
  have ht:txtI x=textN (val x.n.2.1):=if_pos ho
  rw[ht]at hf hk hms hwk
  obtain⟨op,a,b,⟨n0,n1,n2⟩⟩:=x
  dsimp only at *
  subst ho
  generalize textN (val n1)=tx at *
  rw[f650 _ _ rfl,b650]
  simp -implicitDefEqProofs[hf,hk,c68,genAt,zfn,hms,hrs,hl2,hw3,hwk]
 ·have ht:txtI x=[]:=if_neg ho
  rw[ht]at hf hk hms hwk
  obtain⟨op,a,b,⟨n0,n1,n2⟩⟩:=x
  dsimp only at *
  rw[f650 _ _ rfl,b650]
  simp -implicitDefEqProofs[hf,hk,ho,genAt,zfn,hms,hrs,hl2,hw3,hwk]
end
class CRun (T:Tbl):Prop where
def meths1:List RV:=[.cell 1 (some 445),.cell 2 (some 444),.cell 3 (some 441),.cell 4 (some 448),.cell 5 (some 443),.cell 6 (some 447),.cell 7 (some 446),.cell 8 (some 442)]
class CIfc (T:Tbl):Prop where
theorem zmt:∀(a b:List UInt32),a.length=b.length→val a=val b→a=b
 | [],[],_,_=>rfl
 | x::a,y::b,hl,hv=>by
  simp only[zao]at hv
  have hx:=zam x
  have hy:=zam y
  have h1:x.toNat=y.toNat:=by omega
  have h2:val a=val b:=by omega
  rw[UInt32.toNat_inj.1 h1,zmt a b (by simpa using hl) h2]
 | [],_::_,hl,_=>by simp at hl
 | _::_,[],hl,_=>by simp at hl
theorem zer{x y:Nat}:cmpN x y=0↔x=y:=by
 grind[cmpN]
section
variable{T:Tbl}[CLimb T][CNat T][CProd T][CTwos T][CQuot T][CQuotD T][CWhole T][CCommon T][CFrac T][CFrac3 T]
theorem zpp(x:Fz)(hx:fsz x≤10000):callF T 208 [efz x]=some (.b (rightF x)):=by
 have hn:=zs3 (T:=T) x hx
 have hs:=zac2 (x:=x) (L:=10000) hx (by decide)
 have l1:=z4k (fv x)
 have l2:=z4l (fv x)
 unfold rightF
 have e':fz (fv x)=(decide ((fv x).num<0),ofN (fv x).num.natAbs,ofN (fv x).den):=rfl
 rw[e']at hn ⊢
 obtain⟨n,a,d⟩:=x
 have la:=zql (n,a,d)
 have ld:=zqm (n,a,d)
 simp only at la ld
 generalize decide ((fv (n,a,d)).num<0)=m at *
 generalize ofN (fv (n,a,d)).num.natAbs=b at *
 generalize ofN (fv (n,a,d)).den=e at *
 have c1:=zgz (T:=T) a b (by omega) (by omega)
 have c2:=zgz (T:=T) d e (by omega) (by omega)
 rw[f208 _ rfl,b208]
 by_cases h1:n=m
 case neg=>
  have hd:decide ((n,a,d)=(m,b,e))=false:=by grind
  have hb:(n == m)=false:=by grind
  rw[hd]
  simp -implicitDefEqProofs[hn,hb]
 subst h1
 by_cases h2:a.length=b.length
 case neg=>
  have hd:decide ((n,a,d)=(n,b,e))=false:=by
   grind
  have hb:((a.length:Int) == b.length)=false:=by grind
  rw[hd]
  simp -implicitDefEqProofs[hn,hb]
 by_cases h3:d.length=e.length
 case neg=>
  have hd:decide ((n,a,d)=(n,b,e))=false:=by
   grind
  have hb:((d.length:Int) == e.length)=false:=by grind
  rw[hd]
  simp -implicitDefEqProofs[hn,h2,hb]
 by_cases h4:val a=val b
 case neg=>
  have hd:decide ((n,a,d)=(n,b,e))=false:=by
   grind
  have hc:¬ cmpN (val a) (val b)=0:=fun h=>h4 (zer.1 h)
  rw[hd]
  simp -implicitDefEqProofs[hn,h2,h3,c1,hc]
 have hab:=zmt a b h2 h4
 subst hab
 have hk:cmpN (val a) (val a)=0:=zer.2 rfl
 rw[hk]at c1
 by_cases h5:val d=val e
 case neg=>
  have hd:decide ((n,a,d)=(n,a,e))=false:=by
   grind
  have hc:¬ cmpN (val d) (val e)=0:=fun h=>h5 (zer.1 h)
  rw[hd]
  simp -implicitDefEqProofs[hn,h3,c1,c2,hc]
 have hde:=zmt d e h3 h5
 subst hde
 have hk2:cmpN (val d) (val d)=0:=zer.2 rfl
 rw[hk2]at c2
 have hd:decide ((n,a,d)=(n,a,d))=true:=by simp
 simp -implicitDefEqProofs[hn,c1,c2]
def stPw(a:List UInt32)(k i:Nat):St:=⟨[(0,.sl (u32s a) .an),(5,.sl (u32s (ofN (val a^i))) .an),(7,.i .i64 k),(8,.i .i64 i)],[],2⟩
def powR(q:Rat)(e:Int):Rat×Bool:=if -8≤e∧e≤8∧¬ (e<0∧q=0) then (powZ q e,true) else (0,false)
end
@[simp] theorem zy7(l:List Int):(ints l).length=l.length:=by simp[ints]
@[simp] theorem zacx(l:List Int):wkL (ints l)=ints l:=by rw[zbu];simp[ints,wkR,wkA]
@[simp] theorem z7s(l:List Int)(i:Nat)(h:i<(ints l).length):(ints l)[i]=[.i .i64 (l[i]'(by simpa using h))]:=by simp[ints]
@[simp] theorem z7t:ints []=[]:=rfl
section
variable{T:Tbl}[CLimb T][CNat T][CProd T][CTwos T][CQuot T][CQuotD T][CWhole T][CCommon T][CFrac T][CFrac3 T][CTape T]
theorem zcf(i m:Int):callF T 435 [.i .i64 i,.i .i64 m]=some (.b (belowB i m)):=by
 rw[f435 _ rfl,b435]
 unfold belowB
 by_cases h:0≤i
 ·by_cases h2:i<m<;>simp -implicitDefEqProofs[h,h2]
 ·simp -implicitDefEqProofs[h]
theorem zy8(i:Ins):callF T 437 [.agg (celI i)]=some (.agg [.i .i64 i.op,.i .i64 i.a,.i .i64 i.b]):=by
 rw[f437 _ rfl,b437]
 simp -implicitDefEqProofs
theorem zp2(x:Fz)(hx:fsz x≤10000):callF T 438 [efz x]=some (.b (blankF x)):=by
 obtain⟨n,a,d⟩:=x
 rw[f438 _ rfl,b438]
 unfold blankF
 cases n with
 | true=>simp -implicitDefEqProofs
 | false=>
  by_cases h:a=[]
  ·subst h
   by_cases h2:d=[]
   ·subst h2
    simp -implicitDefEqProofs
   ·have e2:d.isEmpty=false:=by cases d<;>simp_all
    simp -implicitDefEqProofs[h2,e2]
  ·have e2:a.isEmpty=false:=by cases a<;>simp_all
   simp -implicitDefEqProofs[h,e2]
theorem zp3(i:Ins):callF T 439 [.agg (celI i)]=some (.sl (ints (readsI i)) .an):=by
 obtain⟨op,a,b,n⟩:=i
 rw[f439 _ rfl,b439]
 unfold readsI
 simp only
 by_cases h6:op=6
 ·subst h6
  simp -implicitDefEqProofs[ints]
 by_cases h11:op=11
 ·subst h11
  simp -implicitDefEqProofs[ints]
 rw[if_neg (by omega)]
 by_cases h7:op=7
 ·subst h7
  simp -implicitDefEqProofs[ints]
 by_cases h8:op=8
 ·subst h8
  simp -implicitDefEqProofs[ints]
 by_cases h9:op=9
 ·subst h9
  simp -implicitDefEqProofs[ints]
 by_cases h10:op=10
 ·subst h10
  simp -implicitDefEqProofs[ints]
 rw[if_neg (by omega)]
 simp -implicitDefEqProofs[h6,h7,h8,h9,h10,h11]
theorem ztp(i:Ins):(readsI i).length≤2:=by
 unfold readsI
 split
 ·simp
 ·split<;>simp
def stMy(t:Tp)(p:Nat)(x:Ins)(i:Nat):St:=
 ⟨[(1,.i .i64 p),(2,.ptr (.loc 2) 1 4 0 0),(5,.ptr (.loc 5) 2 6 0 0),(30,.sl (ints (readsI x)) .an),(31,.i .i64 (readsI x).length),(32,.i .i64 i)],
  [(.loc 2,⟨1,.str,4,[[.sl (rowI t.code) .an,.sl (ints t.outs) .an,.i .i64 t.dim,.i .i64 t.par]]⟩),(.loc 5,⟨2,.str,6,[celI x]⟩)],4⟩
theorem zv2(t:Tp)(p:Nat)(x:Ins):loopN T 0 0 (.norm false [2,5]) l434_0 (stMy t p x 0) =
  if ((readsI x).all fun r=>belowB r p)=true then some (.n,⟨[(2,.ptr (.loc 2) 1 4 0 0),(5,.ptr (.loc 5) 2 6 0 0)],
   [(.loc 2,⟨1,.str,4,[[.sl (rowI t.code) .an,.sl (ints t.outs) .an,.i .i64 t.dim,.i .i64 t.par]]⟩),(.loc 5,⟨2,.str,6,[celI x]⟩)],4⟩)
  else some (.r,⟨[(4,.b false)],[],2⟩):=by
 have hlen:=ztp x
 refine zaz (stMy t p x) (readsI x).length (fun i=>if (((readsI x).drop i).all fun r=>belowB r p)=true then some (.n,_) else some (.r,_)) (fun i hi=>?_) ?_
 ·have hg:(readsI x)[i]? = some ((readsI x)[i]'hi):=List.getElem?_eq_getElem hi
  have hws:=zbq hi (by omega)
  have hd:(readsI x).drop i=(readsI x)[i]'hi::(readsI x).drop (i+1):=List.drop_eq_getElem_cons hi
  have cb:=zcf (T:=T) ((readsI x)[i]'hi) p
  have hi':(i:Int)<(readsI x).length:=by omega
  by_cases hb:belowB ((readsI x)[i]'hi) p=true
  ·left
   rw[hb]at cb
   refine⟨?_,by rw[hd];simp only[List.all_cons,hb,Bool.true_and]⟩
   unfold stMy
   generalize readsI x=R at *
   simp -implicitDefEqProofs[l434_0,hi,hi',hg,hws,cb]
  ·right
   have hb':belowB ((readsI x)[i]'hi) p=false:=by simpa using hb
   rw[hb']at cb
   have hall:(((readsI x).drop i).all fun r=>belowB r p)=false:=by rw[hd,List.all_cons,hb'];rfl
   simp only[hall,Bool.false_eq_true,if_false]
   unfold stMy
   clear hall hd
   generalize readsI x=R at *
   constructor<;>simp -implicitDefEqProofs[l434_0,hi,hi',hg,cb]
 ·simp only[List.drop_length,List.all_nil,if_true]
  unfold stMy
  generalize readsI x=R at *
  constructor<;>simp -implicitDefEqProofs[l434_0]
theorem zv3(t:Tp)(p:Nat)(x:Ins)(hx:t.code[p]? = some x)(hf:fsz x.n≤10000)(hl:t.code.length≤4294967296):callF T 434 [etp t,.i .i64 p]=some (.b (mayI t.dim t.par p x)):=by
 have hp:=zbh hx
 have hp2:(p:Int)<t.code.length:=by omega
 have ho:=zy8 (T:=T) x
 have hbl:=zp2 (T:=T) x.n hf
 have hrd:=zp3 (T:=T) x
 have hlo:=zv2 (T:=T) t p x
 have hrt:=zpp (T:=T) x.n hf
 unfold mayI
 unfold stMy at hlo
 simp only[Int.natCast_zero]at hlo
 have cy:=zcf (T:=T) x.a t.dim
 have cp:=zcf (T:=T) x.a t.par
 have hr2:(((readsI x).length:Int) == 2)=decide ((readsI x).length=2):=by
  rw[Bool.eq_iff_iff]
  simp
  omega
 rw[f434 _ rfl,b434]
 generalize readsI x=R at *
 generalize rightF x.n=RT at *
 generalize blankF x.n=BL at *
 generalize belowB x.a t.dim=B1 at *
 generalize belowB x.a t.par=B2 at *
 generalize (R.all fun r=>belowB r p)=AL at *
 obtain⟨code,outs,dim,par⟩:=t
 obtain⟨op,a,b,n⟩:=x
 dsimp only at hx hp hp2 ho hbl hrd hlo hrt cy cp ⊢
 have hxe:=(List.getElem?_eq_some_iff.1 hx).2
 clear hf hl
 by_cases h1:op=1
 ·subst h1
  by_cases ha:a=0
  ·subst ha
   by_cases hb:b=0
   ·subst hb
    simp -implicitDefEqProofs[hp,hp2,hx,hxe,ho,hrt]
   ·simp -implicitDefEqProofs[hp,hp2,hx,hxe,ho,hrt,hb]
  ·simp -implicitDefEqProofs[hp,hp2,hx,hxe,ho,hrt,ha]
 rw[if_neg h1]
 cases BL with
 | false=>simp -implicitDefEqProofs[hp,hp2,hx,hxe,h1,hbl]
 | true=>
 cases AL with
 | false=>
  simp only[Bool.false_eq_true,if_false]at hlo
  simp -implicitDefEqProofs[hp,hp2,hx,hxe,h1,hbl,hrd,hlo]
 | true=>
 simp only[if_true]at hlo
 by_cases h2:op=2
 ·subst h2
  by_cases ha:a=0
  ·subst ha
   by_cases hb:b=0
   ·subst hb
    simp -implicitDefEqProofs[hp,hp2,hx,hxe,ho,hbl,hrd,hlo]
   ·simp -implicitDefEqProofs[hp,hp2,hx,hxe,ho,hbl,hrd,hlo,hb]
  ·simp -implicitDefEqProofs[hp,hp2,hx,hxe,ho,hbl,hrd,hlo,ha]
 by_cases h3:op=3
 ·subst h3
  cases B1 with
  | false=>simp -implicitDefEqProofs[hp,hp2,hx,hxe,hbl,hrd,hlo,cy]
  | true=>
   by_cases hb:b=0
   ·subst hb
    simp -implicitDefEqProofs[hp,hp2,hx,hxe,hbl,hrd,hlo,cy]
   ·simp -implicitDefEqProofs[hp,hp2,hx,hxe,hbl,hrd,hlo,cy,hb]
 by_cases h4:op=4
 ·subst h4
  cases B2 with
  | false=>simp -implicitDefEqProofs[hp,hp2,hx,hxe,hbl,hrd,hlo,cp]
  | true=>
   by_cases hb:b=0
   ·subst hb
    simp -implicitDefEqProofs[hp,hp2,hx,hxe,hbl,hrd,hlo,cp]
   ·simp -implicitDefEqProofs[hp,hp2,hx,hxe,hbl,hrd,hlo,cp,hb]
 by_cases h6:op=6
 ·subst h6
  by_cases hb:b=0
  ·subst hb
   simp -implicitDefEqProofs[hp,hp2,hx,hxe,hbl,hrd,hlo]
  ·simp -implicitDefEqProofs[hp,hp2,hx,hxe,hbl,hrd,hlo,hb]
 by_cases h11:op=11
 ·subst h11
  by_cases hb:-8≤b
  ·by_cases hb2:b≤8
   ·simp -implicitDefEqProofs[hp,hp2,hx,hxe,hbl,hrd,hlo,hb,hb2]
   ·simp -implicitDefEqProofs[hp,hp2,hx,hxe,hbl,hrd,hlo,hb,hb2]
  ·simp -implicitDefEqProofs[hp,hp2,hx,hxe,hbl,hrd,hlo,hb]
 simp -implicitDefEqProofs[hp,hp2,hx,hxe,h1,h2,h3,h4,h6,h11,hbl,hrd,hlo,hr2]
end
section
variable{T:Tbl}[CLimb T][CNat T][CProd T][CTwos T][CQuot T][CQuotD T][CWhole T][CCommon T][CFrac T][CFrac3 T][CTape T]
structure Small (t:Tp):Prop where
 code:t.code.length≤4294967296
 outs:t.outs.length≤4294967296
 ns:∀i∈t.code,fsz i.n≤10000
 d1:-9223372036854775808≤t.dim
 d2:t.dim<9223372036854775808
theorem zp4(t:Tp)(hs:Small t):callF T 433 [etp t]=some (.b (wholeT t)):=by
 obtain⟨h1,h2,_,d1,d2⟩:=hs
 have c0:callF T 435 [.i .i64 (IntKind.wrap .i64 (t.dim-1)),.i .i64 6]=some (.b (belowB (t.dim-1) 6)):=by
  rw[zcf]
  congr 2
  by_cases hm:t.dim=-9223372036854775808
  ·rw[hm]
   decide
  ·rw[zac _ (by omega)]
 have c1:=zcf (T:=T) t.par 7
 unfold wholeT
 obtain⟨code,outs,dim,par⟩:=t
 dsimp only at *
 have e1:((outs.length:Int) == dim)=decide ((outs.length:Int)=dim):=rfl
 rw[f433 _ rfl,b433]
 generalize belowB (dim-1) 6=B1 at *
 generalize belowB par 7=B2 at *
 cases B1 with
 | false=>simp -implicitDefEqProofs[c0]
 | true=>
 cases B2 with
 | false=>simp -implicitDefEqProofs[c0,c1]
 | true=>
 by_cases ho:(outs.length:Int)=dim
 ·by_cases hc:code.length≤300
  ·have hc':(code.length:Int)≤300:=by omega
   simp -implicitDefEqProofs[c0,c1,ho,hc,hc']
  ·have hc':300<(code.length:Int):=by omega
   simp -implicitDefEqProofs[c0,c1,ho,hc,hc']
 ·simp -implicitDefEqProofs[c0,c1,ho]
def bxT(t:Tp):Box:=⟨1,.str,4,[[.sl (rowI t.code) .an,.sl (ints t.outs) .an,.i .i64 t.dim,.i .i64 t.par]]⟩
def stW1(t:Tp)(i:Nat):St:=⟨[(1,.ptr (.loc 1) 1 4 0 0),(11,.i .i64 t.code.length),(12,.i .i64 i)],[(.loc 1,bxT t)],3⟩
theorem zmy(t:Tp)(hs:Small t):loopN T 0 0 (.norm false [1]) l430_0 (stW1 t 0) =
  if firstI t.dim t.par 0 t.code=-1 then some (.n,⟨[(1,.ptr (.loc 1) 1 4 0 0)],[(.loc 1,bxT t)],3⟩) else some (.r,⟨[(2,.i .i64 (firstI t.dim t.par 0 t.code))],[],2⟩):=by
 have hc:=hs.code
 have e0:t.code.drop 0=t.code:=rfl
 rw[←e0]
 refine zaz (stW1 t) t.code.length (fun i=>if firstI t.dim t.par i (t.code.drop i)=-1 then some (.n,_) else some (.r,⟨[(2,.i .i64 (firstI t.dim t.par i (t.code.drop i)))],[],2⟩)) (fun i hi=>?_) ?_
 ·have hg:t.code[i]? = some (t.code[i]'hi):=List.getElem?_eq_getElem hi
  have hws:=zbq hi (by omega)
  have hd:t.code.drop i=t.code[i]'hi::t.code.drop (i+1):=List.drop_eq_getElem_cons hi
  have cm:=zv3 (T:=T) t i _ hg (hs.ns _ (List.getElem_mem hi)) hc
  have hi':(i:Int)<t.code.length:=by omega
  have hf:firstI t.dim t.par i (t.code.drop i)=if mayI t.dim t.par i (t.code[i]'hi) then firstI t.dim t.par (i+1) (t.code.drop (i+1)) else i:=by rw[hd];rfl
  by_cases hb:mayI t.dim t.par i (t.code[i]'hi)=true
  ·left
   rw[hb]at cm
   rw[if_pos hb]at hf
   refine⟨?_,by simp only[hf]⟩
   unfold stW1 bxT
   clear hf hd
   simp -implicitDefEqProofs[l430_0,hi,hi',hws,cm]
  ·right
   have hb':mayI t.dim t.par i (t.code[i]'hi)=false:=by simpa using hb
   rw[hb']at cm
   rw[if_neg hb]at hf
   have hne:¬ (i:Int)=-1:=by omega
   simp only[hf,if_neg hne]
   unfold stW1 bxT
   clear hf hd
   constructor<;>simp -implicitDefEqProofs[l430_0,hi,hi',cm]
 ·have hf:firstI t.dim t.par t.code.length (t.code.drop t.code.length)=-1:=by rw[List.drop_length];rfl
  simp only[hf,if_true]
  unfold stW1 bxT
  constructor<;>simp -implicitDefEqProofs[l430_0]
def stW2(t:Tp)(i:Nat):St:=⟨[(1,.ptr (.loc 1) 1 4 0 0),(22,.sl (ints t.outs) .an),(23,.i .i64 t.outs.length),(24,.i .i64 i)],[(.loc 1,bxT t)],3⟩
theorem zmz(t:Tp)(hs:Small t):loopN T 0 2 (.norm false []) l430_1 (stW2 t 0) =
  if (t.outs.all fun o=>belowB o t.code.length)=true then some (.n,⟨[],[],2⟩) else some (.r,⟨[(2,.i .i64 t.code.length)],[],2⟩):=by
 have hc:=hs.outs
 refine zaz (stW2 t) t.outs.length (fun i=>if ((t.outs.drop i).all fun o=>belowB o t.code.length)=true then some (.n,_) else some (.r,_)) (fun i hi=>?_) ?_
 ·have hg:t.outs[i]? = some (t.outs[i]'hi):=List.getElem?_eq_getElem hi
  have hws:=zbq hi (by omega)
  have hd:t.outs.drop i=t.outs[i]'hi::t.outs.drop (i+1):=List.drop_eq_getElem_cons hi
  have cm:=zcf (T:=T) (t.outs[i]'hi) t.code.length
  have hi':(i:Int)<t.outs.length:=by omega
  by_cases hb:belowB (t.outs[i]'hi) t.code.length=true
  ·left
   rw[hb]at cm
   refine⟨?_,by rw[hd];simp only[List.all_cons,hb,Bool.true_and]⟩
   unfold stW2 bxT
   clear hd
   simp -implicitDefEqProofs[l430_1,hi,hi',hg,hws,cm]
  ·right
   have hb':belowB (t.outs[i]'hi) t.code.length=false:=by simpa using hb
   rw[hb']at cm
   have hall:((t.outs.drop i).all fun o=>belowB o t.code.length)=false:=by rw[hd,List.all_cons,hb'];rfl
   simp only[hall,Bool.false_eq_true,if_false]
   unfold stW2 bxT
   clear hall hd
   constructor<;>simp -implicitDefEqProofs[l430_1,hi,hi',hg,cm]
 ·simp only[List.drop_length,List.all_nil,if_true]
  unfold stW2 bxT
  constructor<;>simp -implicitDefEqProofs[l430_1]
theorem zp5(t:Tp)(hs:Small t):callF T 430 [etp t]=some (.i .i64 (wrongT t)):=by
 have cw:=zp4 (T:=T) t hs
 have h1:=zmy (T:=T) t hs
 have h2:=zmz (T:=T) t hs
 unfold wrongT
 unfold stW1 bxT at h1
 unfold stW2 bxT at h2
 simp only[Int.natCast_zero]at h1 h2
 generalize hfi:firstI t.dim t.par 0 t.code=F at *
 generalize hal:(t.outs.all fun o=>belowB o t.code.length)=AL at *
 generalize hwt:wholeT t=W at *
 obtain⟨code,outs,dim,par⟩:=t
 dsimp only at *
 rw[f430 _ rfl,b430]
 cases W with
 | false=>simp -implicitDefEqProofs[cw]
 | true=>
 by_cases hf:F=-1
 ·subst hf
  cases AL with
  | false=>
   simp only[Bool.false_eq_true,if_false]at h2
   simp -implicitDefEqProofs[cw,h1,h2]
  | true=>
   simp only[if_true]at h1 h2
   simp -implicitDefEqProofs[cw,h1,h2]
 ·rw[if_neg hf]at h1
  simp -implicitDefEqProofs[cw,h1,hf]
theorem zp6(t:Tp)(hs:Small t):callF T 421 [etp t]=some (.b (okT t)):=by
 have cw:=zp5 (T:=T) t hs
 have e:(wrongT t == -1)=okT t:=rfl
 rw[f421 _ rfl,b421,←e]
 generalize wrongT t=W at *
 obtain⟨code,outs,dim,par⟩:=t
 simp -implicitDefEqProofs[cw]
end
def limI(n:Int):Int:=if n<0 then 0 else if 4096<n then 4096 else n
abbrev bxG(g:Nat)(s p L:Int):Box:=⟨g,.str,3,[[.i .i64 s,.i .i64 p,.i .i64 L]]⟩
def cntS(s:Int):Int:=IntKind.wrap .i64 (s+1)
def cntP(p:Int)(x:Fz):Int:=if p<(sizF x:Int) then (sizF x:Int) else p
section
variable{T:Tbl}[CLimb T][CNat T][CProd T][CTwos T][CQuot T][CQuotD T][CWhole T][CCommon T][CFrac T][CFrac3 T][CFrac5 T][CPow T][CTape T][CGauge T][CEval T]
def stEn(l:List Fz)(i:Nat):St:=⟨[(3,.bs (.loc 3) 1 3 0 i),(6,.sl (rowF l) .an),(7,.i .i64 l.length),(8,.i .i64 i)],[(.loc 3,⟨1,.own,3,rowF (nrm (l.take i))⟩)],3⟩
structure PoS (x:PoF) (B:Nat):Prop where
 t:fsz x.t≤B
 y:∀u∈x.y,fsz u≤B
 p:∀u∈x.p,fsz u≤B
 yl:x.y.length≤1000
 pl:x.p.length≤1000
end
abbrev mD:AV:=.agg [.dead]
structure PvS (P:Po) (B:Nat):Prop where
 t:sz P.t≤B
 y:∀q∈P.y,sz q≤B
 p:∀q∈P.p,sz q≤B
def runG(lim:Nat)(P:Po):List Ins→List Rat→Int→Int→Int×Int
 | [],_,s,p=>(s,p)
 | i::r,D,s,p=>if (valI P D i).2=false then (s,p) else if lim<sizQ (valI P D i).1 then (cntS s,cntP p (fz (valI P D i).1)) else runG lim P r (D++[(valI P D i).1]) (cntS s) (cntP p (fz (valI P D i).1))
abbrev bxM:Box:=⟨3,.str,1,[[.ptr (.bor 0) 0 3 0 0]]⟩
abbrev bxP(g:Nat)(x:PoF):Box:=⟨g,.str,5,[[.b x.t.1,.sl (u32s x.t.2.1) .an,.sl (u32s x.t.2.2) .an,.sl (rowF x.y) .an,.sl (rowF x.p) .an]]⟩
abbrev bxF(g:Nat)(a b c d:Int):Box:=⟨g,.str,4,[[.i .i64 a,.i .i64 b,.i .i64 c,.i .i64 d]]⟩
def stRun(Q:PoF)(L:Int)(code:List Ins)(i:Nat)(D:List Fz)(s p:Int)(kd:Kind):St:=
 ⟨[(3,.ptr (.loc 3) 3 1 0 0),(5,.ptr (.loc 5) 4 5 0 0),(7,.ptr (.loc 7) 5 4 0 0),(8,.bs (.loc 8) 6 3 0 i),(34,.sl (rowI code) .an),(35,.i .i64 code.length),(36,.i .i64 i)],
  [(.bor 0,bxG 0 s p L),(.loc 3,bxM),(.loc 5,bxP 4 Q),(.loc 7,bxF 5 0 0 0 0),(.loc 8,⟨6,kd,3,rowF D⟩)],8⟩
def endN(n:Nat)(D:List Fz)(s p L:Int)(kd:Kind):Ex×St:=(.n,⟨[(7,.ptr (.loc 7) 3 4 0 0),(8,.bs (.loc 8) 4 3 0 n)],[(.bor 0,bxG 0 s p L),(.loc 7,bxF 3 0 0 0 0),(.loc 8,⟨4,kd,3,rowF D⟩)],6⟩)
def endR(kind at_ s p L:Int):Ex×St:=(.r,⟨[(6,.sl [] .an),(7,.ptr (.loc 7) 3 4 0 0)],[(.bor 0,bxG 0 s p L),(.loc 7,bxF 3 kind 0 0 at_)],5⟩)
section
variable{T:Tbl}[CLimb T][CNat T][CProd T][CTwos T][CQuot T][CQuotD T][CWhole T][CCommon T][CFrac T][CFrac3 T][CFrac5 T][CPow T][CTape T][CGauge T][CEval T][CRun T][CIfc T]
def kdE(kd:Kind)(l:List Ins):Kind:=if l=[] then kd else .sh
def endRun(lim:Nat)(P:Po)(code l:List Ins)(D:List Rat)(s p:Int)(kd:Kind):Ex×St:=
 if (runR lim P l D).2.1=0 then endN code.length (fzs (runR lim P l D).1) (runG lim P l D s p).1 (runG lim P l D s p).2 lim (kdE kd l)
 else endR (runR lim P l D).2.1 (runR lim P l D).2.2 (runG lim P l D s p).1 (runG lim P l D s p).2 lim
end
def leafV(P:Po)(ls:List Rat)(x:Nd):Rat:=if x.op=1 then ((val x.n:Nat):Rat) else if x.op=3 then gI P.y x.i else if x.op=4 then gI P.p x.i else if x.op=5 then gI ls x.i else P.t
def unV(x:Nd)(a:Rat):Rat×Bool:=if x.op=6 then (-a,true) else powR a x.i
def biV(op:Int)(a b:Rat):Rat×Bool:=if op=7 then (a+b,true) else if op=8 then (a-b,true) else if op=9 then (a*b,true) else (a/b,decide (b≠0))
def finV(lim:Nat)(v:Rat×Bool)(i:Nat):Rat×Nat×Nat:=if v.2=false then (0,3,i) else if lim<sizQ v.1 then (0,6,i) else (v.1,0,0)
def stepV(P:Po)(ls:List Rat)(s:List Rat)(x:Nd):(Rat×Bool)×List Rat:=
 if arN x.op=0 then ((leafV P ls x,true),s) else if arN x.op=1 then (unV x (s.headD 0),s.tail) else (biV x.op (s.tail.headD 0) (s.headD 0),s.tail.tail)
def walkR(lim:Nat)(P:Po)(ls:List Rat):Nat→List Rat→List Nd→Rat×Nat×Nat
 | _,s,[]=>(s.headD 0,0,0)
 | i,s,x::r=>if (finV lim (stepV P ls s x).1 i).2.1≠0 then finV lim (stepV P ls s x).1 i else walkR lim P ls (i+1) ((stepV P ls s x).1.1::(stepV P ls s x).2) r
def evT(lim:Nat)(P:Po)(ls:List Rat):Tre→Nat→Rat×Nat×Nat
 | .leaf x,i=>finV lim (leafV P ls x,true) i
 | .un x a,i=>if (evT lim P ls a i).2.1≠0 then evT lim P ls a i else finV lim (unV x (evT lim P ls a i).1) (i+a.flat.length)
 | .bin x a b,i=>if (evT lim P ls a i).2.1≠0 then evT lim P ls a i else if (evT lim P ls b (i+a.flat.length)).2.1≠0 then evT lim P ls b (i+a.flat.length)
   else finV lim (biV x.op (evT lim P ls a i).1 (evT lim P ls b (i+a.flat.length)).1) (i+a.flat.length+b.flat.length)
def walkG(lim:Nat)(P:Po)(ls:List Rat):List Rat→List Nd→Int→Int→Int×Int
 | _,[],c,p=>(c,p)
 | s,x::r,c,p=>if (stepV P ls s x).1.2=false then (c,p) else if lim<sizQ (stepV P ls s x).1.1 then (cntS c,cntP p (fz (stepV P ls s x).1.1))
   else walkG lim P ls ((stepV P ls s x).1.1::(stepV P ls s x).2) r (cntS c) (cntP p (fz (stepV P ls s x).1.1))
abbrev hpA(gk:Nat)(Q:PoF)(LS:List Fz)(s p L seen:Int)(F:List Fz)(m:Nat):Heap:=
 [(.bor 0,⟨0,.str,9,[[.b Q.t.1,.sl (u32s Q.t.2.1) .an,.sl (u32s Q.t.2.2) .an,.sl (rowF Q.y) .an,.sl (rowF Q.p) .an,.sl (rowF LS) .an,.ptr (.bor 1) 1 3 0 0,.i .i64 seen,.bs (.bor 2) gk 3 0 m]]⟩),(.bor 1,bxG 1 s p L),(.bor 2,⟨gk,.own,3,rowF F⟩)]
abbrev wP:AV:=.ptr (.bor 0) 0 9 0 0
section
variable{T:Tbl}[CLimb T][CNat T][CProd T][CTwos T][CQuot T][CQuotD T][CWhole T][CCommon T][CFrac T][CFrac2 T][CFrac3 T][CFrac5 T][CPow T][CTape T][CGauge T][CEval T][CEval2 T][CTree T][CText T][CLenD T]
theorem zqc(a:List UInt32)(ha:a.length≤10000):callF T 204 [.agg [.b false,.sl (u32s a) .an],.sl [[u32 1]] .an]=some (.tup [efz (fz ((val a:Nat):Rat)),.b true]):=by
 have c1:callF T 70 [.sl [[u32 1]] .an]=some (.b false):=zdy (T:=T) [1] (by decide)
 have c2:callF T 202 [.agg [.b false,.sl (u32s a) .an],.sl [[u32 1]] .an]=some (efz (fz (mkRat (wv false a) 1))):=zms (T:=T) false a [1] ha (by decide) (by decide)
 have e:mkRat (wv false a) 1=((val a:Nat):Rat):=by
  rw[Rat.mkRat_one]
  rfl
 rw[e]at c2
 rw[f204 _ rfl,b204]
 generalize fz ((val a:Nat):Rat)=R at *
 simp -implicitDefEqProofs[c1,c2]
end
section
variable{T:Tbl}[CText T][CComp T]
theorem zi1(C:List Ins)(L W:List Nat)(x:Ins)(hC:∀y∈C,MkI y)(hx:MkI x)(hn:x.n.2.1.length≤1000)(hl:C.length≤100000) :
  ∃gc,(gc=1∨gc=7)∧callH T 650 [cmP,.agg (celI x)] (cmH 1 4 C L W)=some (.i .i64 ((putI C x).2:Int),cmH gc 4 (putI C x).1 L W):=by
 unfold putI
 cases h:idxI x 0 C with
 | some i=>exact⟨1,.inl rfl,zkw C L W x hC hx hn i h⟩
 | none=>exact⟨7,.inr rfl,zkx C L W x hC hx hn h hl⟩
theorem zw3(a:List UInt32):(fz ((val a:Nat):Rat)).2.1.length≤a.length:=by
 have:(fz ((val a:Nat):Rat)).2.1=ofN (val a):=by
  unfold fz
  simp
 rw[this]
 exact zaf a
theorem zst(x:Nd)(hn:x.n.length≤1000):(leafI x).n.2.1.length≤1000:=by
 unfold leafI
 split
 ·exact Nat.le_trans (zw3 x.n) hn
 ·split
  all_goals exact Nat.zero_le _
variable[CLimb T][CNat T][CProd T][CTwos T][CQuot T][CQuotD T][CWhole T][CCommon T][CFrac T][CFrac2 T][CFrac3 T][CFrac5 T][CPow T][CTape T][CGauge T][CEval T][CEval2 T][CTree T][CLenD T]
theorem zsu(x:Nd)(hn:x.n.length≤1000):callF T 651 [.agg (celN x)]=some (.agg (celI (leafI x))):=by
 have c:=zqc (T:=T) x.n (by omega)
 obtain⟨op,i,n⟩:=x
 dsimp only at *
 unfold leafI
 rw[f651 _ rfl,b651]
 by_cases h1:op=1
 ·subst h1
  rw[if_pos rfl]
  generalize fz ((val n:Nat):Rat)=q at *
  obtain⟨q0,q1,q2⟩:=q
  simp -implicitDefEqProofs[c]
 ·rw[if_neg h1]
  by_cases h2:op=2
  ·subst h2
   rw[if_pos rfl]
   simp -implicitDefEqProofs[blk]
  ·rw[if_neg h2]
   simp -implicitDefEqProofs[h1,h2,blk]
abbrev bxS(g:Nat)(S:List Nat):BId×Box:=(.bor 5,⟨g,.own,1,natR S⟩)
theorem zi2(C:List Ins)(L W S:List Nat)(x:Nd)(ho:x.op=5)(h0:0≤x.i)(h1:x.i<L.length)(hn:x.n.length≤1000) :
  callH T 649 [cmP,.agg (celN x),.bs (.bor 5) 5 1 0 S.length] (cmH 1 4 C L W++[bxS 5 S])=some (.i .i64 (((L[x.i.toNat]?).getD 0:Nat):Int),cmH 1 4 C L W++[bxS 5 S]):=by
 obtain⟨op,i,n⟩:=x
 dsimp only at *
 subst ho
 obtain⟨j,rfl⟩:∃j:Nat,i=(j:Int):=⟨i.toNat,by omega⟩
 have hj:j<L.length:=by omega
 obtain⟨v,hv⟩:∃v,L[j]? = some v:=⟨_,List.getElem?_eq_getElem hj⟩
 obtain⟨_,hg⟩:=List.getElem?_eq_some_iff.1 hv
 unfold cmH
 rw[f649 _ _ rfl,b649]
 simp -implicitDefEqProofs[hj,hv,hg,h1,genAt]
end
section
variable{T:Tbl}[CText T][CComp T][CLimb T][CNat T][CProd T][CTwos T][CQuot T][CQuotD T][CWhole T][CCommon T][CFrac T][CFrac2 T][CFrac3 T][CFrac5 T][CPow T][CTape T][CGauge T][CEval T][CEval2 T][CTree T][CLenD T]
theorem zn7(op a b:Int):celI ⟨op,a,b,blk⟩=[.i .i64 op,.i .i64 a,.i .i64 b,.b false,.sl [] .an,.sl [] .an]:=rfl
theorem zhj(C C1:List Ins)(L W S:List Nat)(x:Nd)(gc:Nat)(p:Nat)(hg:gc=1∨gc=7)(ho:x.op≠5)(ha:arN x.op=0)(hn:x.n.length≤1000)
  (c:callH T 650 [cmP,.agg (celI (leafI x))] (cmH 1 4 C L W)=some (.i .i64 (p:Int),cmH gc 4 C1 L W)) :
  callH T 649 [cmP,.agg (celN x),.bs (.bor 5) 5 1 0 S.length] (cmH 1 4 C L W++[bxS 5 S])=some (.i .i64 (p:Int),cmH (if gc=1 then 1 else 8) 4 C1 L W++[bxS 5 S]):=by
 have cl:=zsu (T:=T) x hn
 have car:=zbx (T:=T) x.op
 rw[ha]at car
 generalize leafI x=y at *
 obtain⟨op,i,n⟩:=x
 obtain⟨yo,ya,yb,⟨y0,y1,y2⟩⟩:=y
 dsimp only at *
 unfold cmH at *
 rw[f649 _ _ rfl,b649]
 rcases hg with rfl | rfl
 ·simp -implicitDefEqProofs[ho,car,cl,c,genAt]
 ·simp -implicitDefEqProofs[ho,car,cl,c,genAt]
theorem zky(C C1:List Ins)(L W S:List Nat)(x:Nd)(gc:Nat)(p a:Nat)(hg:gc=1∨gc=7)(ho:x.op≠5)(ha:arN x.op=1)(hS:S[S.length-1]? = some a)(hl:S.length≤100000)(hn:x.n.length≤1000)
  (c:callH T 650 [cmP,.agg (celI ⟨x.op,(a:Int),x.i,blk⟩)] (cmH 1 4 C L W)=some (.i .i64 (p:Int),cmH gc 4 C1 L W)) :
  callH T 649 [cmP,.agg (celN x),.bs (.bor 5) 5 1 0 S.length] (cmH 1 4 C L W++[bxS 5 S])=some (.i .i64 (p:Int),cmH (if gc=1 then 1 else 8) 4 C1 L W++[bxS 5 S]):=by
 have car:=zbx (T:=T) x.op
 rw[ha]at car
 obtain⟨h1,h2⟩:=List.getElem?_eq_some_iff.1 hS
 have hw1:IntKind.wrap .i64 ((S.length:Int)-1)=((S.length-1:Nat):Int):=by rw[zac _ (by omega)];omega
 have hlt:((S.length-1:Nat):Int)<S.length:=by omega
 obtain⟨op,i,n⟩:=x
 dsimp only at *
 rw[zn7]at c
 unfold cmH at *
 rw[f649 _ _ rfl,b649]
 rcases hg with rfl | rfl
 ·simp -implicitDefEqProofs[ho,car,hw1,hlt,h1,h2,hS,c,genAt]
 ·simp -implicitDefEqProofs[ho,car,hw1,hlt,h1,h2,hS,c,genAt]
theorem zi3(C C1:List Ins)(L W S:List Nat)(x:Nd)(gc:Nat)(p a b:Nat)(hg:gc=1∨gc=7)(ho:x.op≠5)(ha:arN x.op=2)(h2S:2≤S.length)(hS:S[S.length-1]? = some b)(hS2:S[S.length-2]? = some a)(hl:S.length≤100000)(hn:x.n.length≤1000)
  (c:callH T 650 [cmP,.agg (celI ⟨x.op,(a:Int),(b:Int),blk⟩)] (cmH 1 4 C L W)=some (.i .i64 (p:Int),cmH gc 4 C1 L W)) :
  callH T 649 [cmP,.agg (celN x),.bs (.bor 5) 5 1 0 S.length] (cmH 1 4 C L W++[bxS 5 S])=some (.i .i64 (p:Int),cmH (if gc=1 then 1 else 8) 4 C1 L W++[bxS 5 S]):=by
 have car:=zbx (T:=T) x.op
 rw[ha]at car
 obtain⟨h1,h2⟩:=List.getElem?_eq_some_iff.1 hS
 obtain⟨h3,h4⟩:=List.getElem?_eq_some_iff.1 hS2
 have hw1:IntKind.wrap .i64 ((S.length:Int)-1)=((S.length-1:Nat):Int):=by rw[zac _ (by omega)];omega
 have hw2:IntKind.wrap .i64 ((S.length:Int)-2)=((S.length-2:Nat):Int):=by rw[zac _ (by omega)];omega
 have hlt:((S.length-1:Nat):Int)<S.length:=by omega
 have hlt2:((S.length-2:Nat):Int)<S.length:=by omega
 obtain⟨op,i,n⟩:=x
 dsimp only at *
 rw[zn7]at c
 unfold cmH at *
 rw[f649 _ _ rfl,b649]
 rcases hg with rfl | rfl
 ·simp -implicitDefEqProofs[ho,car,hw1,hw2,hlt,hlt2,h1,h2,h3,h4,hS,hS2,c,genAt]
 ·simp -implicitDefEqProofs[ho,car,hw1,hw2,hlt,hlt2,h1,h2,h3,h4,hS,hS2,c,genAt]
end
structure NdB (nl:Nat) (n:Nat) (x:Nd):Prop where
 len:x.n.length≤1000
 lt:x.op=5→0≤x.i∧x.i<nl
 ar:0≤arN x.op∧arN x.op≤n
def stEx(gc gw:Nat)(C:List Ins)(L W S:List Nat)(c:List Nd)(i:Nat):St:=
 ⟨[(0,cmP),(5,.bs (.loc 5) 11 1 0 S.length),(9,.sl (rowN c) .an),(10,.i .i64 c.length),(11,.i .i64 (i:Int))],cmH gc gw C L W++[(.loc 5,⟨11,.own,1,natR S⟩)],13⟩
section
variable{T:Tbl}[CText T][CComp T][CLimb T][CNat T][CProd T][CTwos T][CQuot T][CQuotD T][CWhole T][CCommon T][CFrac T][CFrac2 T][CFrac3 T][CFrac5 T][CPow T][CTape T][CGauge T][CEval T][CEval2 T][CTree T][CLenD T]
theorem zsv(C:List Ins)(L W S:List Nat)(x:Nd)(hC:∀y∈C,MkI y)(hx:NdB L.length S.length x)(hl:C.length≤100000)(hs:S.length≤100000) :
  ∃gc,(gc=1∨gc=8)∧callH T 649 [cmP,.agg (celN x),.bs (.bor 5) 5 1 0 S.length] (cmH 1 4 C L W++[bxS 5 S])=some (.i .i64 ((ndI L C S x).2:Int),cmH gc 4 (ndI L C S x).1 L W++[bxS 5 S]):=by
 obtain⟨h1,h2,h3,h4⟩:=hx
 unfold ndI
 by_cases ho:x.op=5
 ·obtain⟨a,b⟩:=h2 ho
  rw[if_pos ho]
  exact⟨1,.inl rfl,zi2 C L W S x ho a b h1⟩
 rw[if_neg ho]
 have g8:∀gc,(gc=1∨gc=7)→((if gc=1 then 1 else 8)=1∨(if gc=1 then 1 else 8)=8):=by
  rintro gc (rfl | rfl)
  ·exact .inl rfl
  ·exact .inr rfl
 rcases zbp x.op with ⟨e,_⟩ | ⟨e,_⟩ | ⟨e,_⟩ | ⟨e,_⟩
 ·rw[if_pos e]
  obtain⟨gc,hg,hc⟩:=zi1 (T:=T) C L W (leafI x) hC (zoe x) (zst x h1) hl
  exact⟨_,g8 gc hg,zhj C _ L W S x gc _ hg ho e h1 hc⟩
 ·have ho1:x.op≠1:=fun h=>by rw[h]at e;revert e;decide
  rw[if_neg (by omega),if_pos e]
  obtain⟨a,ha⟩:∃a,S[S.length-1]? = some a:=⟨_,List.getElem?_eq_getElem (by omega)⟩
  rw[ha,Option.getD_some]
  obtain⟨gc,hg,hc⟩:=zi1 (T:=T) C L W ⟨x.op,(a:Int),x.i,blk⟩ hC ⟨fun h=>absurd h ho1,fun _=>rfl⟩ (Nat.zero_le _) hl
  exact⟨_,g8 gc hg,zky C _ L W S x gc _ a hg ho e ha hs h1 hc⟩
 ·have ho1:x.op≠1:=fun h=>by rw[h]at e;revert e;decide
  rw[if_neg (by omega),if_neg (by omega)]
  obtain⟨b,hb⟩:∃b,S[S.length-1]? = some b:=⟨_,List.getElem?_eq_getElem (by omega)⟩
  obtain⟨a,ha⟩:∃a,S[S.length-2]? = some a:=⟨_,List.getElem?_eq_getElem (by omega)⟩
  rw[ha,hb,Option.getD_some,Option.getD_some]
  obtain⟨gc,hg,hc⟩:=zi1 (T:=T) C L W ⟨x.op,(a:Int),(b:Int),blk⟩ hC ⟨fun h=>absurd h ho1,fun _=>rfl⟩ (Nat.zero_le _) hl
  exact⟨_,g8 gc hg,zi3 C _ L W S x gc _ a b hg ho e (by omega) hb ha hs h1 hc⟩
 ·omega
theorem zpj(gc gw g1:Nat)(C C1:List Ins)(L W S:List Nat)(c:List Nd)(i p ar:Nat)(x:Nd)(hgc:gc=1∨gc=7)(hgw:gw=4∨gw=10)(hg1:g1=1∨g1=8)(hx:c[i]? = some x)(har:arN x.op=(ar:Int))(harS:ar≤S.length)
  (hcl:c.length≤100000) (hWl:W.length≤100000) (hSl:S.length≤100000) (hn:x.n.length≤1000)
  (hc:callH T 649 [cmP,.agg (celN x),.bs (.bor 5) 5 1 0 S.length] (cmH 1 4 C L W++[bxS 5 S])=some (.i .i64 (p:Int),cmH g1 4 C1 L W++[bxS 5 S])) :
  evX (orc T) T 5 l648_0 (stEx gc gw C L W S c i)=some (.n,stEx (if g1=1 then gc else 7) 10 C1 L (W++[p]) (S.take (S.length-ar)++[p]) c (i+1)):=by
 have car:=zbx (T:=T) x.op
 rw[har]at car
 obtain⟨hlt,hge⟩:=List.getElem?_eq_some_iff.1 hx
 have hlt':(i:Int)<c.length:=by omega
 have hws:=zbq hlt (by omega)
 have hsW:=zet W p
 have hsS:=zet (S.take (S.length-ar)) p
 have hsl:(S.take (S.length-ar)).length=S.length-ar:=by rw[List.length_take];omega
 have htk:(natR S).take (S.length-ar)=natR (S.take (S.length-ar)):=by unfold natR;rw[List.map_take]
 have hw:IntKind.wrap .i64 ((S.length:Int)-(ar:Int))=((S.length-ar:Nat):Int):=by rw[zac _ (by omega)];omega
 have hle:((S.length-ar:Nat):Int)≤S.length:=by omega
 have h32:W.length+1≤4294967296:=by omega
 have h33:S.length-ar+1≤4294967296:=by omega
 have htkW:(natR W).take W.length=natR W:=List.take_of_length_le (by rw[zcp];exact Nat.le_refl _)
 have hn32:x.n.length≤4294967296:=by omega
 have hlS:S.length-ar≤S.length:=Nat.sub_le _ _
 obtain⟨op,xi,n⟩:=x
 dsimp only at *
 unfold stEx cmH at *
 simp only[bxS,List.cons_append,List.nil_append]at hc
 generalize hS1:S.take (S.length-ar)=S1 at *
 generalize hm:S.length-ar=m at *
 rcases hgc with rfl | rfl<;>rcases hgw with rfl | rfl<;>rcases hg1 with rfl | rfl
 all_goals simp -implicitDefEqProofs[l648_0,hlt,hlt',hx,hge,hws,car,hc,hsW,hsS,hsl,htk,hw,hle,h32,h33,hn32,hlS,htkW,genAt]
end
end Go.Ab