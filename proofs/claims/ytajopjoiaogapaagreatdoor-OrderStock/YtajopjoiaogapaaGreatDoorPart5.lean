/-
  A calculus of values, boxes and code, and what functions of the program compute, proved in it.
  Conditions: none beyond those that the theorems state. (Part 5.)
-/
import Derived.Test.YtajopjoiaogapaaGreatDoorPart4
import Derived.Test.YtajopjoiaogapaaGreatDoorProg
import Derived.KernelRfl
import Derived.Shelf.Strings.Builder1
import Derived.Shelf.Strings.Builder2
import Derived.Shelf.Strings.OnBuilder
import Derived.Shelf.Strings.IndexAnyAll
import Derived.Shelf.Strings.Count
import Derived.Shelf.Strings.Search2
import Derived.Laws.RangeAny
import Derived.Laws.Runes
import Derived.Lib.DecodeN
import Derived.Shelf.RegionOpenPlain
import Derived.WalkMore
import Derived.Deep.LoopGhost
import Derived.Shelf.Small.Utf8
import Derived.Shelf.Strings.Cut
import Derived.ProofKit
import Derived.OpenShut
import Derived.WalkKit
import Derived.Deep.DeepCutAuto
import Derived.Deep.DeepFit
import Derived.Deep.CutBlock
import Derived.Lib.OthersKept
import Derived.Test.YtajopjoiaogapaaGreatDoorRows
import Derived.Test.YtajopjoiaogapaaGreatDoorCards
import Derived.Test.YtajopjoiaogapaaGreatDoorTie
import Derived.LaidMore
import Derived.Stop.Joined
import Derived.SevenTiedAt
import Derived.Lib.LaidU8

set_option linter.unusedSectionVars false
set_option linter.unusedVariables false
set_option linter.unusedSimpArgs false
set_option linter.unnecessarySimpa false

section
namespace Go.Proofs.YtajopjoiaogapaaGreatDoor
open Go Go.Ab
set_option maxRecDepth 100000
def nus:List (Nat×Nat):=[(23,63),(25,114),(27,66),(32,170),(36,83),(37,113),(38,86),(40,141),(41,67),(55,87),(56,88),(57,89),(60,65),(62,117),(64,138),(65,183),(70,84),(71,91),(72,68),(73,142),(85,118),(86,92),(87,119),(88,120),(89,90),(90,144),(91,145),(92,146),(93,147),(94,148),(98,159),(99,190),(100,191),(106,122),(115,149),(116,150),(117,121),(118,161),(119,162),(120,163),(121,164),(123,175),(172,94),(177,124),(178,125),(179,126),(184,93),(185,152),(186,153),(187,154),(188,155),(194,151),(198,143),(199,115),(200,116),(201,85),(202,62),(203,61),(204,171),(205,36),(207,82),(208,127),(210,64),(211,60),(212,33),(215,34),(217,35),(223,128),(252,185),(253,184),(254,172),(255,173),(256,158),(258,192),(275,139),(344,169),(345,174),(346,160),(354,176),(356,156),(357,196),(360,186),(361,187),(362,157),(536,42),(551,70),(559,95),(560,96),(561,97),(562,98),(588,7),(589,8),(594,13),(595,14),(603,37),(604,20),(605,38),(607,40),(608,58),(609,57),(610,69),(611,26),(612,81),(613,56),(614,110),(615,111),(616,112),(617,18),(618,135),(619,136),(620,137),(621,140),(622,43),(634,28),(639,5),(2071,91),(2092,146),(2106,122)]
def nu(u:Nat):FuncId:=(nus.lookup u).getD 0
def row115:AFx:=⟨3,26,[.t 6,.t 7],b115,none,false⟩
def row116:AFx:=⟨3,25,[.t 6,.t 7],b116,none,false⟩
def row117:AFx:=⟨4,27,[.t 8,.t 9],b117,none,false⟩
def row118:AFx:=⟨3,29,[.t 6,.t 7,.t 8],b118,none,false⟩
def row91:AFx:=⟨1,23,[.t 2],b91,none,false⟩
def row86:AFx:=⟨1,21,[.t 2],b86,none,false⟩
def row106:AFx:=⟨2,15,[.t 4],b106,none,false⟩
def row71:AFx:=⟨1,6,[.t 2],b71,none,false⟩
def row72:AFx:=⟨1,10,[.t 2],b72,none,false⟩
def row73:AFx:=⟨1,28,[.t 2,.t 3],b73,none,false⟩
def row70:AFx:=⟨1,7,[.t 2],b70,none,false⟩
def row87:AFx:=⟨2,49,[.t 4],b87,none,false⟩
def row85:AFx:=⟨2,52,[.t 4],b85,none,false⟩
def row56:AFx:=⟨1,18,[.t 2],b56,none,false⟩
def row88:AFx:=⟨2,49,[.t 4,.t 5],b88,none,false⟩
def row57:AFx:=⟨2,24,[.t 4,.t 5],b57,none,false⟩
def row2106:AFx:=⟨2,15,[.t 4],b2106,(some [false,false]),false⟩
def row89:AFx:=⟨5,45,[],b89,(some [true,false,false,false,false]),false⟩
def row100:AFx:=⟨3,19,[.t 6],b100,none,false⟩
def row60:AFx:=⟨2,30,[.t 4],b60,none,false⟩
def row92:AFx:=⟨2,57,[.t 4],b92,none,false⟩
def row94:AFx:=⟨2,65,[.t 4],b94,none,false⟩
def row90:AFx:=⟨2,37,[.t 4,.t 5,.t 6],b90,none,false⟩
def row119:AFx:=⟨5,76,[.t 10],b119,none,false⟩
def row120:AFx:=⟨4,66,[.t 8],b120,(some [true,false,false,false]),false⟩
def row121:AFx:=⟨3,44,[],b121,(some [true,false,false]),false⟩
def row93:AFx:=⟨2,70,[.t 4],b93,(some [true,false]),false⟩
def row2071:AFx:=⟨1,6,[.t 2],b2071,(some [false]),false⟩
def row2092:AFx:=⟨2,57,[.t 4],b2092,(some [false,false]),false⟩
def row62:AFx:=⟨2,65,[.t 4,.t 5,.t 6],b62,none,false⟩
def row98:AFx:=⟨2,15,[.t 4,.t 5],b98,none,false⟩
def row123:AFx:=⟨2,18,[.t 4],b123,none,false⟩
def row64:AFx:=⟨2,11,[.t 4,.t 5],b64,none,false⟩
def row99:AFx:=⟨1,27,[.t 2],b99,none,false⟩
def row65:AFx:=⟨1,48,[.t 2,.cell 3 (some 4)],b65,none,false⟩
def row55:AFx:=⟨2,13,[.cell 4 (some 2)],b55,none,false⟩
def row38:AFx:=⟨1,9,[.cell 2 (some 2)],b38,none,false⟩
def row40:AFx:=⟨1,10,[.cell 2 (some 2)],b40,none,false⟩
def row23:AFx:=⟨2,39,[.cell 4 (some 2)],b23,none,false⟩
def row25:AFx:=⟨2,9,[.cell 4 (some 2)],b25,none,false⟩
def row27:AFx:=⟨2,16,[.cell 4 (some 2)],b27,none,false⟩
def row37:AFx:=⟨1,10,[.t 2],b37,none,false⟩
def row41:AFx:=⟨1,14,[.cell 2 (some 2)],b41,none,false⟩
def row36:AFx:=⟨2,9,[.t 4],b36,none,false⟩
def row32:AFx:=⟨1,36,[.cell 2 (some 2),.cell 3 (some 4)],b32,none,false⟩
def row198:AFx:=⟨2,12,[.t 4],b198,none,false⟩
def row199:AFx:=⟨2,56,[.t 4],b199,none,false⟩
def row200:AFx:=⟨1,12,[.t 2],b200,none,false⟩
def row201:AFx:=⟨2,37,[.t 4,.t 5],b201,none,false⟩
def row202:AFx:=⟨2,21,[.cell 4 (some 3)],b202,none,false⟩
def row203:AFx:=⟨1,13,[.cell 2 (some 2),.t 3],b203,none,false⟩
def row205:AFx:=⟨1,7,[.cell 2 (some 3)],b205,none,false⟩
def row207:AFx:=⟨1,8,[.cell 2 (some 3)],b207,none,false⟩
def row210:AFx:=⟨2,9,[.cell 4 (some 2)],b210,none,false⟩
def row211:AFx:=⟨2,26,[.t 4],b211,none,false⟩
def row212:AFx:=⟨2,9,[.t 4],b212,none,false⟩
def row215:AFx:=⟨2,30,[.cell 4 (some 3)],b215,none,false⟩
def row217:AFx:=⟨2,26,[.cell 4 (some 3)],b217,none,false⟩
def row204:AFx:=⟨2,12,[.cell 4 (some 3),.t 5],b204,none,false⟩
def row208:AFx:=⟨1,51,[.t 2],b208,none,false⟩
def row223:AFx:=⟨1,11,[.t 2],b223,none,false⟩
def row344:AFx:=⟨0,0,[],.prim prim344,none,false⟩
def row194:AFx:=⟨0,0,[],.prim prim194,none,false⟩
def row361:AFx:=⟨0,0,[],.prim prim361,none,false⟩
def row346:AFx:=⟨2,8,[.t 4],b346,none,false⟩
def row354:AFx:=⟨4,66,[.t 8],b354,none,false⟩
def row362:AFx:=⟨2,8,[.t 4],b362,none,false⟩
def row345:AFx:=⟨2,8,[.t 4],b345,none,false⟩
def row258:AFx:=⟨2,51,[.t 4,.t 5],b258,none,false⟩
def row356:AFx:=⟨1,20,[.t 2],b356,none,false⟩
def row357:AFx:=⟨1,66,[.t 2],b357,none,false⟩
def row252:AFx:=⟨1,12,[.t 2],b252,none,false⟩
def row253:AFx:=⟨2,25,[.t 4,.cell 5 (some 4)],b253,none,false⟩
def row254:AFx:=⟨3,36,[.cell 6 (some 3),.cell 7 (some 4)],b254,none,false⟩
def row255:AFx:=⟨4,49,[.cell 8 (some 3),.cell 9 (some 4)],b255,none,false⟩
def row256:AFx:=⟨1,61,[.cell 2 (some 3),.cell 3 (some 4)],b256,none,false⟩
def row275:AFx:=⟨1,46,[.t 2,.cell 3 (some 4)],b275,none,false⟩
def row185:AFx:=⟨1,9,[.t 2],b185,none,false⟩
def row186:AFx:=⟨1,21,[.t 2],b186,none,false⟩
def row187:AFx:=⟨0,0,[],.prim prim187,none,false⟩
def row177:AFx:=⟨1,12,[.t 2],b177,none,false⟩
def row188:AFx:=⟨2,23,[.t 4],b188,none,false⟩
def row179:AFx:=⟨1,8,[.t 2],b179,none,false⟩
def row178:AFx:=⟨2,20,[.t 4],b178,none,false⟩
def row172:AFx:=⟨1,38,[.t 2],b172,none,false⟩
def row184:AFx:=⟨0,0,[],.prim prim184,none,false⟩
def row536:AFx:=⟨1,6,[.t 2],b536,none,false⟩
def row551:AFx:=⟨1,55,[.t 2],b551,none,false⟩
def row559:AFx:=⟨1,55,[.t 2],b559,none,false⟩
def row560:AFx:=⟨1,29,[.t 2],b560,none,false⟩
def row561:AFx:=⟨1,23,[.t 2],b561,none,false⟩
def row562:AFx:=⟨1,18,[.cell 2 (some 3)],b562,none,false⟩
def row608:AFx:=⟨1,31,[.cell 2 (some 5),.cell 3 (some 4)],b608,none,false⟩
def row612:AFx:=⟨1,72,[.cell 2 (some 5),.cell 3 (some 4)],b612,none,false⟩
def row614:AFx:=⟨1,58,[.t 2,.t 3,.t 4],b614,(some [true]),false⟩
def row615:AFx:=⟨3,61,[.cell 6 (some 4)],b615,(some [true,false,true]),true⟩
def row616:AFx:=⟨2,43,[.t 4,.cell 5 (some 4)],b616,(some [true,false]),false⟩
def row618:AFx:=⟨2,9,[.t 4],b618,none,false⟩
def row619:AFx:=⟨3,19,[],b619,(some [true,false,false]),false⟩
def row620:AFx:=⟨2,45,[.cell 4 (some 3),.t 5,.cell 6 (some 4)],b620,none,false⟩
def row621:AFx:=⟨2,14,[.cell 4 (some 4)],b621,none,false⟩
def row603:AFx:=⟨1,24,[.cell 2 (some 5),.t 3],b603,none,false⟩
def row609:AFx:=⟨0,2,[.cell 0 (some 6)],b609,none,false⟩
def row610:AFx:=⟨1,13,[.t 2],b610,none,false⟩
def row634:AFx:=⟨0,21,[.t 0],b634,none,false⟩
def row589:AFx:=⟨1,65,[.t 2],b589,none,false⟩
def row594:AFx:=⟨1,37,[.t 2],b594,none,false⟩
def row595:AFx:=⟨1,46,[.t 2],b595,none,false⟩
def row605:AFx:=⟨2,21,[.t 4],b605,none,false⟩
def row607:AFx:=⟨1,10,[.t 2],b607,none,false⟩
def row604:AFx:=⟨1,12,[.t 2,.t 3],b604,none,false⟩
def row611:AFx:=⟨2,18,[.t 4],b611,none,false⟩
def row613:AFx:=⟨3,38,[.t 6],b613,none,false⟩
def row617:AFx:=⟨3,114,[.cell 6 (some 3),.t 7],b617,none,false⟩
def row622:AFx:=⟨2,41,[.t 4],b622,none,false⟩
def row588:AFx:=⟨0,33,[.t 0],b588,none,false⟩
def row639:AFx:=⟨0,61,[.t 0],b639,none,false⟩
def RowOk(P:Program)(ν:Nat→FuncId)(τ:Nat→Nat)(u:Nat)(af:AFx):Prop:=
 match af.body.isPrim with
 | some f=>∀xs r,f xs=some r→PCall P (ν u) xs (·=r)
 | none=>if af.body.isBad=true then (∀m∈methsA af,methOf P af.np m.1=some (ν m.2))∧(af.res.isEmpty=true→af.np=ν af.nt) else resFn P (ν u)=some (erF ν τ af)
theorem ok_pr{P:Program}{ν:Nat→FuncId}{τ:Nat→Nat}{u:Nat}{af:AFx}{f:List AV→Option AV}(h0:af.body.isPrim=some f)(h:∀xs r,f xs=some r→PCall P (ν u) xs (·=r)):RowOk P ν τ u af:=by unfold RowOk;rw[h0];exact h
theorem ok_fn{P:Program}{ν:Nat→FuncId}{τ:Nat→Nat}{u:Nat}{af:AFx}(h0:af.body.isPrim=none)(h1:af.body.isBad=false)(h:resFn P (ν u)=some (erF ν τ af)):RowOk P ν τ u af:=by unfold RowOk;rw[h0];simp only[h1];exact h
theorem ok_cons{P:Program}{ν:Nat→FuncId}{τ:Nat→Nat}{u:Nat}{af:AFx}{l:List (Nat×AFx)}(h:RowOk P ν τ u af)(hl:∀p∈l,RowOk P ν τ p.1 p.2) :
  ∀p∈(u,af)::l,RowOk P ν τ p.1 p.2:=by
 intro p hp
 rcases List.mem_cons.1 hp with rfl | hp
 ·exact h
 ·exact hl p hp
theorem ok_lookup{P:Program}{ν:Nat→FuncId}{l:List (Nat×AFx)}(hl:∀p∈l,RowOk P ν (tyNum fun u=>l.lookup u) p.1 p.2):TOk P ν (fun u=>l.lookup u):=fun _ _ h=>hl _ (zc4 h)
theorem sub_cons{l l2:List (Nat×AFx)}{u:Nat}{af:AFx}(h:l.lookup u=some af)(h2:∀p∈l2,l.lookup p.1=some p.2):∀p∈(u,af)::l2,l.lookup p.1=some p.2:=by
 intro p hp
 rcases List.mem_cons.1 hp with rfl | hp
 ·exact h
 ·exact h2 p hp
def gTab:List (Nat×AFx):=[(115,row115),(116,row116),(117,row117),(118,row118),(91,row91),(86,row86),(106,row106),(71,row71),(72,row72),(73,row73),(70,row70),(87,row87),(85,row85),(56,row56),(88,row88),(57,row57),(2106,row2106),(89,row89),(100,row100),(60,row60),(92,row92),(94,row94),(90,row90),(119,row119),(120,row120),(121,row121),(93,row93),(2071,row2071),(2092,row2092),(62,row62),(98,row98),(123,row123),(64,row64),(99,row99),(65,row65),(55,row55),(38,row38),(40,row40),(23,row23),(25,row25),(27,row27),(37,row37),(41,row41),(36,row36),(32,row32),(198,row198),(199,row199),(200,row200),(201,row201),(202,row202),(203,row203),(205,row205),(207,row207),(210,row210),(211,row211),(212,row212),(215,row215),(217,row217),(204,row204),(208,row208),(223,row223),(344,row344),(194,row194),(361,row361),(346,row346),(354,row354),(362,row362),(345,row345),(258,row258),(356,row356),(357,row357),(252,row252),(253,row253),(254,row254),(255,row255),(256,row256),(275,row275),(185,row185),(186,row186),(187,row187),(177,row177),(188,row188),(179,row179),(178,row178),(172,row172),(184,row184),(536,row536),(551,row551),(559,row559),(560,row560),(561,row561),(562,row562),(608,row608),(612,row612),(614,row614),(615,row615),(616,row616),(618,row618),(619,row619),(620,row620),(621,row621),(603,row603),(609,row609),(610,row610),(634,row634),(589,row589),(594,row594),(595,row595),(605,row605),(607,row607),(604,row604),(611,row611),(613,row613),(617,row617),(622,row622),(588,row588),(639,row639)]
def lTab:List (Nat×AFx):=[(115,row115),(116,row116),(117,row117),(118,row118),(91,row91),(86,row86),(106,row106),(71,row71),(72,row72),(73,row73),(70,row70),(87,row87),(85,row85),(56,row56),(88,row88),(57,row57),(2106,row2106),(89,row89),(100,row100),(60,row60),(92,row92),(94,row94),(90,row90),(119,row119),(120,row120),(121,row121),(93,row93),(2071,row2071),(2092,row2092),(62,row62),(98,row98),(123,row123),(64,row64),(99,row99),(65,row65),(55,row55),(38,row38),(40,row40),(23,row23),(25,row25),(27,row27),(37,row37),(41,row41),(36,row36),(32,row32),(198,row198),(199,row199),(200,row200),(201,row201),(202,row202),(203,row203),(205,row205),(207,row207),(210,row210),(211,row211),(212,row212),(215,row215),(217,row217),(204,row204),(208,row208),(223,row223),(344,row344),(194,row194),(361,row361),(346,row346),(354,row354),(362,row362),(345,row345),(258,row258),(356,row356),(357,row357),(252,row252),(253,row253),(254,row254),(255,row255),(256,row256),(275,row275),(185,row185),(186,row186),(187,row187),(177,row177),(188,row188),(179,row179),(178,row178),(172,row172),(184,row184),(536,row536),(551,row551),(559,row559),(560,row560),(561,row561),(562,row562),(608,row608),(612,row612),(614,row614),(615,row615),(616,row616),(618,row618),(619,row619),(620,row620),(621,row621),(603,row603),(609,row609),(610,row610),(634,row634),(589,row589),(594,row594),(595,row595),(605,row605),(607,row607),(604,row604),(611,row611),(613,row613),(617,row617),(622,row622),(588,row588),(639,row639)]
def tab:Tbl:=fun u=>gTab.lookup u
def tau_l:Nat→Nat:=tyNum fun u=>lTab.lookup u
theorem resl_115:resFn Tryz.prog (nu 115)=some (erF nu tau_l row115):=by kernel_rfl
theorem resl_116:resFn Tryz.prog (nu 116)=some (erF nu tau_l row116):=by kernel_rfl
theorem resl_117:resFn Tryz.prog (nu 117)=some (erF nu tau_l row117):=by kernel_rfl
theorem resl_118:resFn Tryz.prog (nu 118)=some (erF nu tau_l row118):=by kernel_rfl
theorem resl_91:resFn Tryz.prog (nu 91)=some (erF nu tau_l row91):=by kernel_rfl
theorem resl_86:resFn Tryz.prog (nu 86)=some (erF nu tau_l row86):=by kernel_rfl
theorem resl_106:resFn Tryz.prog (nu 106)=some (erF nu tau_l row106):=by kernel_rfl
theorem resl_71:resFn Tryz.prog (nu 71)=some (erF nu tau_l row71):=by kernel_rfl
theorem resl_72:resFn Tryz.prog (nu 72)=some (erF nu tau_l row72):=by kernel_rfl
theorem resl_73:resFn Tryz.prog (nu 73)=some (erF nu tau_l row73):=by kernel_rfl
theorem resl_70:resFn Tryz.prog (nu 70)=some (erF nu tau_l row70):=by kernel_rfl
theorem resl_87:resFn Tryz.prog (nu 87)=some (erF nu tau_l row87):=by kernel_rfl
theorem resl_85:resFn Tryz.prog (nu 85)=some (erF nu tau_l row85):=by kernel_rfl
theorem resl_56:resFn Tryz.prog (nu 56)=some (erF nu tau_l row56):=by kernel_rfl
theorem resl_88:resFn Tryz.prog (nu 88)=some (erF nu tau_l row88):=by kernel_rfl
theorem resl_57:resFn Tryz.prog (nu 57)=some (erF nu tau_l row57):=by kernel_rfl
theorem resl_2106:resFn Tryz.prog (nu 2106)=some (erF nu tau_l row2106):=by kernel_rfl
theorem resl_89:resFn Tryz.prog (nu 89)=some (erF nu tau_l row89):=by kernel_rfl
theorem resl_100:resFn Tryz.prog (nu 100)=some (erF nu tau_l row100):=by kernel_rfl
theorem resl_60:resFn Tryz.prog (nu 60)=some (erF nu tau_l row60):=by kernel_rfl
theorem resl_92:resFn Tryz.prog (nu 92)=some (erF nu tau_l row92):=by kernel_rfl
theorem resl_94:resFn Tryz.prog (nu 94)=some (erF nu tau_l row94):=by kernel_rfl
theorem resl_90:resFn Tryz.prog (nu 90)=some (erF nu tau_l row90):=by kernel_rfl
theorem resl_119:resFn Tryz.prog (nu 119)=some (erF nu tau_l row119):=by kernel_rfl
theorem resl_120:resFn Tryz.prog (nu 120)=some (erF nu tau_l row120):=by kernel_rfl
theorem resl_121:resFn Tryz.prog (nu 121)=some (erF nu tau_l row121):=by kernel_rfl
theorem resl_93:resFn Tryz.prog (nu 93)=some (erF nu tau_l row93):=by kernel_rfl
theorem resl_2071:resFn Tryz.prog (nu 2071)=some (erF nu tau_l row2071):=by kernel_rfl
theorem resl_2092:resFn Tryz.prog (nu 2092)=some (erF nu tau_l row2092):=by kernel_rfl
theorem resl_62:resFn Tryz.prog (nu 62)=some (erF nu tau_l row62):=by kernel_rfl
theorem resl_98:resFn Tryz.prog (nu 98)=some (erF nu tau_l row98):=by kernel_rfl
theorem resl_123:resFn Tryz.prog (nu 123)=some (erF nu tau_l row123):=by kernel_rfl
theorem resl_64:resFn Tryz.prog (nu 64)=some (erF nu tau_l row64):=by kernel_rfl
theorem resl_99:resFn Tryz.prog (nu 99)=some (erF nu tau_l row99):=by kernel_rfl
theorem resl_65:resFn Tryz.prog (nu 65)=some (erF nu tau_l row65):=by kernel_rfl
theorem resl_55:resFn Tryz.prog (nu 55)=some (erF nu tau_l row55):=by kernel_rfl
theorem resl_38:resFn Tryz.prog (nu 38)=some (erF nu tau_l row38):=by kernel_rfl
theorem resl_40:resFn Tryz.prog (nu 40)=some (erF nu tau_l row40):=by kernel_rfl
theorem resl_23:resFn Tryz.prog (nu 23)=some (erF nu tau_l row23):=by kernel_rfl
theorem resl_25:resFn Tryz.prog (nu 25)=some (erF nu tau_l row25):=by kernel_rfl
theorem resl_27:resFn Tryz.prog (nu 27)=some (erF nu tau_l row27):=by kernel_rfl
theorem resl_37:resFn Tryz.prog (nu 37)=some (erF nu tau_l row37):=by kernel_rfl
theorem resl_41:resFn Tryz.prog (nu 41)=some (erF nu tau_l row41):=by kernel_rfl
theorem resl_36:resFn Tryz.prog (nu 36)=some (erF nu tau_l row36):=by kernel_rfl
theorem resl_32:resFn Tryz.prog (nu 32)=some (erF nu tau_l row32):=by kernel_rfl
theorem resl_198:resFn Tryz.prog (nu 198)=some (erF nu tau_l row198):=by kernel_rfl
theorem resl_199:resFn Tryz.prog (nu 199)=some (erF nu tau_l row199):=by kernel_rfl
theorem resl_200:resFn Tryz.prog (nu 200)=some (erF nu tau_l row200):=by kernel_rfl
theorem resl_201:resFn Tryz.prog (nu 201)=some (erF nu tau_l row201):=by kernel_rfl
theorem resl_202:resFn Tryz.prog (nu 202)=some (erF nu tau_l row202):=by kernel_rfl
theorem resl_203:resFn Tryz.prog (nu 203)=some (erF nu tau_l row203):=by kernel_rfl
theorem resl_205:resFn Tryz.prog (nu 205)=some (erF nu tau_l row205):=by kernel_rfl
theorem resl_207:resFn Tryz.prog (nu 207)=some (erF nu tau_l row207):=by kernel_rfl
theorem resl_210:resFn Tryz.prog (nu 210)=some (erF nu tau_l row210):=by kernel_rfl
theorem resl_211:resFn Tryz.prog (nu 211)=some (erF nu tau_l row211):=by kernel_rfl
theorem resl_212:resFn Tryz.prog (nu 212)=some (erF nu tau_l row212):=by kernel_rfl
theorem resl_215:resFn Tryz.prog (nu 215)=some (erF nu tau_l row215):=by kernel_rfl
theorem resl_217:resFn Tryz.prog (nu 217)=some (erF nu tau_l row217):=by kernel_rfl
theorem resl_204:resFn Tryz.prog (nu 204)=some (erF nu tau_l row204):=by kernel_rfl
theorem resl_208:resFn Tryz.prog (nu 208)=some (erF nu tau_l row208):=by kernel_rfl
theorem resl_223:resFn Tryz.prog (nu 223)=some (erF nu tau_l row223):=by kernel_rfl
theorem resl_346:resFn Tryz.prog (nu 346)=some (erF nu tau_l row346):=by kernel_rfl
theorem resl_354:resFn Tryz.prog (nu 354)=some (erF nu tau_l row354):=by kernel_rfl
theorem resl_362:resFn Tryz.prog (nu 362)=some (erF nu tau_l row362):=by kernel_rfl
theorem resl_345:resFn Tryz.prog (nu 345)=some (erF nu tau_l row345):=by kernel_rfl
theorem resl_258:resFn Tryz.prog (nu 258)=some (erF nu tau_l row258):=by kernel_rfl
theorem resl_356:resFn Tryz.prog (nu 356)=some (erF nu tau_l row356):=by kernel_rfl
theorem resl_357:resFn Tryz.prog (nu 357)=some (erF nu tau_l row357):=by kernel_rfl
theorem resl_252:resFn Tryz.prog (nu 252)=some (erF nu tau_l row252):=by kernel_rfl
theorem resl_253:resFn Tryz.prog (nu 253)=some (erF nu tau_l row253):=by kernel_rfl
theorem resl_254:resFn Tryz.prog (nu 254)=some (erF nu tau_l row254):=by kernel_rfl
theorem resl_255:resFn Tryz.prog (nu 255)=some (erF nu tau_l row255):=by kernel_rfl
theorem resl_256:resFn Tryz.prog (nu 256)=some (erF nu tau_l row256):=by kernel_rfl
theorem resl_275:resFn Tryz.prog (nu 275)=some (erF nu tau_l row275):=by kernel_rfl
theorem resl_185:resFn Tryz.prog (nu 185)=some (erF nu tau_l row185):=by kernel_rfl
theorem resl_186:resFn Tryz.prog (nu 186)=some (erF nu tau_l row186):=by kernel_rfl
theorem resl_177:resFn Tryz.prog (nu 177)=some (erF nu tau_l row177):=by kernel_rfl
theorem resl_188:resFn Tryz.prog (nu 188)=some (erF nu tau_l row188):=by kernel_rfl
theorem resl_179:resFn Tryz.prog (nu 179)=some (erF nu tau_l row179):=by kernel_rfl
theorem resl_178:resFn Tryz.prog (nu 178)=some (erF nu tau_l row178):=by kernel_rfl
theorem resl_172:resFn Tryz.prog (nu 172)=some (erF nu tau_l row172):=by kernel_rfl
theorem resl_536:resFn Tryz.prog (nu 536)=some (erF nu tau_l row536):=by kernel_rfl
theorem resl_551:resFn Tryz.prog (nu 551)=some (erF nu tau_l row551):=by kernel_rfl
theorem resl_559:resFn Tryz.prog (nu 559)=some (erF nu tau_l row559):=by kernel_rfl
theorem resl_560:resFn Tryz.prog (nu 560)=some (erF nu tau_l row560):=by kernel_rfl
theorem resl_561:resFn Tryz.prog (nu 561)=some (erF nu tau_l row561):=by kernel_rfl
theorem resl_562:resFn Tryz.prog (nu 562)=some (erF nu tau_l row562):=by kernel_rfl
theorem resl_608:resFn Tryz.prog (nu 608)=some (erF nu tau_l row608):=by kernel_rfl
theorem resl_612:resFn Tryz.prog (nu 612)=some (erF nu tau_l row612):=by kernel_rfl
theorem resl_614:resFn Tryz.prog (nu 614)=some (erF nu tau_l row614):=by kernel_rfl
theorem resl_615:resFn Tryz.prog (nu 615)=some (erF nu tau_l row615):=by kernel_rfl
theorem resl_616:resFn Tryz.prog (nu 616)=some (erF nu tau_l row616):=by kernel_rfl
theorem resl_618:resFn Tryz.prog (nu 618)=some (erF nu tau_l row618):=by kernel_rfl
theorem resl_619:resFn Tryz.prog (nu 619)=some (erF nu tau_l row619):=by kernel_rfl
theorem resl_620:resFn Tryz.prog (nu 620)=some (erF nu tau_l row620):=by kernel_rfl
theorem resl_621:resFn Tryz.prog (nu 621)=some (erF nu tau_l row621):=by kernel_rfl
theorem resl_603:resFn Tryz.prog (nu 603)=some (erF nu tau_l row603):=by kernel_rfl
theorem resl_609:resFn Tryz.prog (nu 609)=some (erF nu tau_l row609):=by kernel_rfl
theorem resl_610:resFn Tryz.prog (nu 610)=some (erF nu tau_l row610):=by kernel_rfl
theorem resl_634:resFn Tryz.prog (nu 634)=some (erF nu tau_l row634):=by kernel_rfl
theorem resl_589:resFn Tryz.prog (nu 589)=some (erF nu tau_l row589):=by kernel_rfl
theorem resl_594:resFn Tryz.prog (nu 594)=some (erF nu tau_l row594):=by kernel_rfl
theorem resl_595:resFn Tryz.prog (nu 595)=some (erF nu tau_l row595):=by kernel_rfl
theorem resl_605:resFn Tryz.prog (nu 605)=some (erF nu tau_l row605):=by kernel_rfl
theorem resl_607:resFn Tryz.prog (nu 607)=some (erF nu tau_l row607):=by kernel_rfl
theorem resl_604:resFn Tryz.prog (nu 604)=some (erF nu tau_l row604):=by kernel_rfl
theorem resl_611:resFn Tryz.prog (nu 611)=some (erF nu tau_l row611):=by kernel_rfl
theorem resl_613:resFn Tryz.prog (nu 613)=some (erF nu tau_l row613):=by kernel_rfl
theorem resl_617:resFn Tryz.prog (nu 617)=some (erF nu tau_l row617):=by kernel_rfl
theorem resl_622:resFn Tryz.prog (nu 622)=some (erF nu tau_l row622):=by kernel_rfl
theorem resl_588:resFn Tryz.prog (nu 588)=some (erF nu tau_l row588):=by kernel_rfl
theorem resl_639:resFn Tryz.prog (nu 639)=some (erF nu tau_l row639):=by kernel_rfl
theorem lTab_ok(hp344:∀xs r,prim344 xs=some r→PCall Tryz.prog (nu 344) xs (·=r))(hp194:∀xs r,prim194 xs=some r→PCall Tryz.prog (nu 194) xs (·=r))(hp361:∀xs r,prim361 xs=some r→PCall Tryz.prog (nu 361) xs (·=r))(hp187:∀xs r,prim187 xs=some r→PCall Tryz.prog (nu 187) xs (·=r))(hp184:∀xs r,prim184 xs=some r→PCall Tryz.prog (nu 184) xs (·=r)):TOk Tryz.prog nu (fun u=>lTab.lookup u):=ok_lookup (ok_cons (ok_fn rfl rfl resl_115) (ok_cons (ok_fn rfl rfl resl_116) (ok_cons (ok_fn rfl rfl resl_117) (ok_cons (ok_fn rfl rfl resl_118) (ok_cons (ok_fn rfl rfl resl_91) (ok_cons (ok_fn rfl rfl resl_86) (ok_cons (ok_fn rfl rfl resl_106) (ok_cons (ok_fn rfl rfl resl_71) (ok_cons (ok_fn rfl rfl resl_72) (ok_cons (ok_fn rfl rfl resl_73) (ok_cons (ok_fn rfl rfl resl_70) (ok_cons (ok_fn rfl rfl resl_87) (ok_cons (ok_fn rfl rfl resl_85) (ok_cons (ok_fn rfl rfl resl_56) (ok_cons (ok_fn rfl rfl resl_88) (ok_cons (ok_fn rfl rfl resl_57) (ok_cons (ok_fn rfl rfl resl_2106) (ok_cons (ok_fn rfl rfl resl_89) (ok_cons (ok_fn rfl rfl resl_100) (ok_cons (ok_fn rfl rfl resl_60) (ok_cons (ok_fn rfl rfl resl_92) (ok_cons (ok_fn rfl rfl resl_94) (ok_cons (ok_fn rfl rfl resl_90) (ok_cons (ok_fn rfl rfl resl_119) (ok_cons (ok_fn rfl rfl resl_120) (ok_cons (ok_fn rfl rfl resl_121) (ok_cons (ok_fn rfl rfl resl_93) (ok_cons (ok_fn rfl rfl resl_2071) (ok_cons (ok_fn rfl rfl resl_2092) (ok_cons (ok_fn rfl rfl resl_62) (ok_cons (ok_fn rfl rfl resl_98) (ok_cons (ok_fn rfl rfl resl_123) (ok_cons (ok_fn rfl rfl resl_64) (ok_cons (ok_fn rfl rfl resl_99) (ok_cons (ok_fn rfl rfl resl_65) (ok_cons (ok_fn rfl rfl resl_55) (ok_cons (ok_fn rfl rfl resl_38) (ok_cons (ok_fn rfl rfl resl_40) (ok_cons (ok_fn rfl rfl resl_23) (ok_cons (ok_fn rfl rfl resl_25) (ok_cons (ok_fn rfl rfl resl_27) (ok_cons (ok_fn rfl rfl resl_37) (ok_cons (ok_fn rfl rfl resl_41) (ok_cons (ok_fn rfl rfl resl_36) (ok_cons (ok_fn rfl rfl resl_32) (ok_cons (ok_fn rfl rfl resl_198) (ok_cons (ok_fn rfl rfl resl_199) (ok_cons (ok_fn rfl rfl resl_200) (ok_cons (ok_fn rfl rfl resl_201) (ok_cons (ok_fn rfl rfl resl_202) (ok_cons (ok_fn rfl rfl resl_203) (ok_cons (ok_fn rfl rfl resl_205) (ok_cons (ok_fn rfl rfl resl_207) (ok_cons (ok_fn rfl rfl resl_210) (ok_cons (ok_fn rfl rfl resl_211) (ok_cons (ok_fn rfl rfl resl_212) (ok_cons (ok_fn rfl rfl resl_215) (ok_cons (ok_fn rfl rfl resl_217) (ok_cons (ok_fn rfl rfl resl_204) (ok_cons (ok_fn rfl rfl resl_208) (ok_cons (ok_fn rfl rfl resl_223) (ok_cons (ok_pr rfl hp344) (ok_cons (ok_pr rfl hp194) (ok_cons (ok_pr rfl hp361) (ok_cons (ok_fn rfl rfl resl_346) (ok_cons (ok_fn rfl rfl resl_354) (ok_cons (ok_fn rfl rfl resl_362) (ok_cons (ok_fn rfl rfl resl_345) (ok_cons (ok_fn rfl rfl resl_258) (ok_cons (ok_fn rfl rfl resl_356) (ok_cons (ok_fn rfl rfl resl_357) (ok_cons (ok_fn rfl rfl resl_252) (ok_cons (ok_fn rfl rfl resl_253) (ok_cons (ok_fn rfl rfl resl_254) (ok_cons (ok_fn rfl rfl resl_255) (ok_cons (ok_fn rfl rfl resl_256) (ok_cons (ok_fn rfl rfl resl_275) (ok_cons (ok_fn rfl rfl resl_185) (ok_cons (ok_fn rfl rfl resl_186) (ok_cons (ok_pr rfl hp187) (ok_cons (ok_fn rfl rfl resl_177) (ok_cons (ok_fn rfl rfl resl_188) (ok_cons (ok_fn rfl rfl resl_179) (ok_cons (ok_fn rfl rfl resl_178) (ok_cons (ok_fn rfl rfl resl_172) (ok_cons (ok_pr rfl hp184) (ok_cons (ok_fn rfl rfl resl_536) (ok_cons (ok_fn rfl rfl resl_551) (ok_cons (ok_fn rfl rfl resl_559) (ok_cons (ok_fn rfl rfl resl_560) (ok_cons (ok_fn rfl rfl resl_561) (ok_cons (ok_fn rfl rfl resl_562) (ok_cons (ok_fn rfl rfl resl_608) (ok_cons (ok_fn rfl rfl resl_612) (ok_cons (ok_fn rfl rfl resl_614) (ok_cons (ok_fn rfl rfl resl_615) (ok_cons (ok_fn rfl rfl resl_616) (ok_cons (ok_fn rfl rfl resl_618) (ok_cons (ok_fn rfl rfl resl_619) (ok_cons (ok_fn rfl rfl resl_620) (ok_cons (ok_fn rfl rfl resl_621) (ok_cons (ok_fn rfl rfl resl_603) (ok_cons (ok_fn rfl rfl resl_609) (ok_cons (ok_fn rfl rfl resl_610) (ok_cons (ok_fn rfl rfl resl_634) (ok_cons (ok_fn rfl rfl resl_589) (ok_cons (ok_fn rfl rfl resl_594) (ok_cons (ok_fn rfl rfl resl_595) (ok_cons (ok_fn rfl rfl resl_605) (ok_cons (ok_fn rfl rfl resl_607) (ok_cons (ok_fn rfl rfl resl_604) (ok_cons (ok_fn rfl rfl resl_611) (ok_cons (ok_fn rfl rfl resl_613) (ok_cons (ok_fn rfl rfl resl_617) (ok_cons (ok_fn rfl rfl resl_622) (ok_cons (ok_fn rfl rfl resl_588) (ok_cons (ok_fn rfl rfl resl_639) (fun p hp=>by cases hp))))))))))))))))))))))))))))))))))))))))))))))))))))))))))))))))))))))))))))))))))))))))))))))))))))))))))))))))))))))
theorem lTab_part:Part gTab lTab:=⟨sub_cons (by kernel_rfl) (sub_cons (by kernel_rfl) (sub_cons (by kernel_rfl) (sub_cons (by kernel_rfl) (sub_cons (by kernel_rfl) (sub_cons (by kernel_rfl) (sub_cons (by kernel_rfl) (sub_cons (by kernel_rfl) (sub_cons (by kernel_rfl) (sub_cons (by kernel_rfl) (sub_cons (by kernel_rfl) (sub_cons (by kernel_rfl) (sub_cons (by kernel_rfl) (sub_cons (by kernel_rfl) (sub_cons (by kernel_rfl) (sub_cons (by kernel_rfl) (sub_cons (by kernel_rfl) (sub_cons (by kernel_rfl) (sub_cons (by kernel_rfl) (sub_cons (by kernel_rfl) (sub_cons (by kernel_rfl) (sub_cons (by kernel_rfl) (sub_cons (by kernel_rfl) (sub_cons (by kernel_rfl) (sub_cons (by kernel_rfl) (sub_cons (by kernel_rfl) (sub_cons (by kernel_rfl) (sub_cons (by kernel_rfl) (sub_cons (by kernel_rfl) (sub_cons (by kernel_rfl) (sub_cons (by kernel_rfl) (sub_cons (by kernel_rfl) (sub_cons (by kernel_rfl) (sub_cons (by kernel_rfl) (sub_cons (by kernel_rfl) (sub_cons (by kernel_rfl) (sub_cons (by kernel_rfl) (sub_cons (by kernel_rfl) (sub_cons (by kernel_rfl) (sub_cons (by kernel_rfl) (sub_cons (by kernel_rfl) (sub_cons (by kernel_rfl) (sub_cons (by kernel_rfl) (sub_cons (by kernel_rfl) (sub_cons (by kernel_rfl) (sub_cons (by kernel_rfl) (sub_cons (by kernel_rfl) (sub_cons (by kernel_rfl) (sub_cons (by kernel_rfl) (sub_cons (by kernel_rfl) (sub_cons (by kernel_rfl) (sub_cons (by kernel_rfl) (sub_cons (by kernel_rfl) (sub_cons (by kernel_rfl) (sub_cons (by kernel_rfl) (sub_cons (by kernel_rfl) (sub_cons (by kernel_rfl) (sub_cons (by kernel_rfl) (sub_cons (by kernel_rfl) (sub_cons (by kernel_rfl) (sub_cons (by kernel_rfl) (sub_cons (by kernel_rfl) (sub_cons (by kernel_rfl) (sub_cons (by kernel_rfl) (sub_cons (by kernel_rfl) (sub_cons (by kernel_rfl) (sub_cons (by kernel_rfl) (sub_cons (by kernel_rfl) (sub_cons (by kernel_rfl) (sub_cons (by kernel_rfl) (sub_cons (by kernel_rfl) (sub_cons (by kernel_rfl) (sub_cons (by kernel_rfl) (sub_cons (by kernel_rfl) (sub_cons (by kernel_rfl) (sub_cons (by kernel_rfl) (sub_cons (by kernel_rfl) (sub_cons (by kernel_rfl) (sub_cons (by kernel_rfl) (sub_cons (by kernel_rfl) (sub_cons (by kernel_rfl) (sub_cons (by kernel_rfl) (sub_cons (by kernel_rfl) (sub_cons (by kernel_rfl) (sub_cons (by kernel_rfl) (sub_cons (by kernel_rfl) (sub_cons (by kernel_rfl) (sub_cons (by kernel_rfl) (sub_cons (by kernel_rfl) (sub_cons (by kernel_rfl) (sub_cons (by kernel_rfl) (sub_cons (by kernel_rfl) (sub_cons (by kernel_rfl) (sub_cons (by kernel_rfl) (sub_cons (by kernel_rfl) (sub_cons (by kernel_rfl) (sub_cons (by kernel_rfl) (sub_cons (by kernel_rfl) (sub_cons (by kernel_rfl) (sub_cons (by kernel_rfl) (sub_cons (by kernel_rfl) (sub_cons (by kernel_rfl) (sub_cons (by kernel_rfl) (sub_cons (by kernel_rfl) (sub_cons (by kernel_rfl) (sub_cons (by kernel_rfl) (sub_cons (by kernel_rfl) (sub_cons (by kernel_rfl) (sub_cons (by kernel_rfl) (sub_cons (by kernel_rfl) (sub_cons (by kernel_rfl) (sub_cons (by kernel_rfl) (sub_cons (by kernel_rfl) (sub_cons (by kernel_rfl) (sub_cons (by kernel_rfl) (sub_cons (by kernel_rfl) (sub_cons (by kernel_rfl) (fun p hp=>by cases hp))))))))))))))))))))))))))))))))))))))))))))))))))))))))))))))))))))))))))))))))))))))))))))))))))))))))))))))))))))),by kernel_rfl⟩
instance:CLimb tab where
 h115:=by kernel_rfl
 h116:=by kernel_rfl
 h117:=by kernel_rfl
 h118:=by kernel_rfl
 h91:=by kernel_rfl
instance:CNat tab where
 h115:=by kernel_rfl
 h116:=by kernel_rfl
 h117:=by kernel_rfl
 h118:=by kernel_rfl
 h91:=by kernel_rfl
 h86:=by kernel_rfl
 h106:=by kernel_rfl
 h71:=by kernel_rfl
 h72:=by kernel_rfl
 h73:=by kernel_rfl
 h70:=by kernel_rfl
 h87:=by kernel_rfl
 h85:=by kernel_rfl
 h56:=by kernel_rfl
 h88:=by kernel_rfl
 h57:=by kernel_rfl
 h2106:=by kernel_rfl
instance:CProd tab where
 h115:=by kernel_rfl
 h116:=by kernel_rfl
 h117:=by kernel_rfl
 h118:=by kernel_rfl
 h91:=by kernel_rfl
 h86:=by kernel_rfl
 h106:=by kernel_rfl
 h71:=by kernel_rfl
 h72:=by kernel_rfl
 h73:=by kernel_rfl
 h70:=by kernel_rfl
 h87:=by kernel_rfl
 h85:=by kernel_rfl
 h56:=by kernel_rfl
 h88:=by kernel_rfl
 h57:=by kernel_rfl
 h2106:=by kernel_rfl
 h89:=by kernel_rfl
 h100:=by kernel_rfl
 h60:=by kernel_rfl
instance:CTwos tab where
 h92:=by kernel_rfl
 h94:=by kernel_rfl
instance:CQuot tab where
 h90:=by kernel_rfl
 h119:=by kernel_rfl
 h120:=by kernel_rfl
 h121:=by kernel_rfl
 h93:=by kernel_rfl
instance:CQuotD tab where
 h2071:=by kernel_rfl
 h2092:=by kernel_rfl
 h62:=by kernel_rfl
instance:CDigits tab where
 h98:=by kernel_rfl
 h123:=by kernel_rfl
 h64:=by kernel_rfl
 h99:=by kernel_rfl
 h65:=by kernel_rfl
instance:CText tab where
instance:CTrim tab where
instance:CWhole tab where
 h55:=by kernel_rfl
 h38:=by kernel_rfl
 h40:=by kernel_rfl
 h23:=by kernel_rfl
 h25:=by kernel_rfl
 h27:=by kernel_rfl
 h37:=by kernel_rfl
 h41:=by kernel_rfl
 h36:=by kernel_rfl
 h32:=by kernel_rfl
instance:CCommon tab where
 h198:=by kernel_rfl
 h199:=by kernel_rfl
 h200:=by kernel_rfl
 h201:=by kernel_rfl
instance:CFrac tab where
 h202:=by kernel_rfl
 h203:=by kernel_rfl
 h205:=by kernel_rfl
 h207:=by kernel_rfl
 h210:=by kernel_rfl
 h211:=by kernel_rfl
 h212:=by kernel_rfl
 h215:=by kernel_rfl
 h217:=by kernel_rfl
instance:CFrac2 tab where
 h204:=by kernel_rfl
instance:CFrac3 tab where
 h208:=by kernel_rfl
instance:CFrac5 tab where
 h223:=by kernel_rfl
instance:CStr tab where
 h344:=by kernel_rfl
 h194:=by kernel_rfl
 h361:=by kernel_rfl
instance:CSplit tab where
 h346:=by kernel_rfl
 h354:=by kernel_rfl
 h362:=by kernel_rfl
 h345:=by kernel_rfl
instance:CPow tab where
 h258:=by kernel_rfl
 h356:=by kernel_rfl
 h357:=by kernel_rfl
instance:CFig tab where
 h252:=by kernel_rfl
 h253:=by kernel_rfl
 h254:=by kernel_rfl
 h255:=by kernel_rfl
 h256:=by kernel_rfl
instance:CTape tab where
instance:CGauge tab where
instance:CEval tab where
instance:CRun tab where
instance:CIfc tab where
instance:CJoin tab where
instance:CRow tab where
instance:CRow2 tab where
 h275:=by kernel_rfl
instance:CRow5 tab where
instance:CLex tab where
 h185:=by kernel_rfl
 h186:=by kernel_rfl
 h187:=by kernel_rfl
 h177:=by kernel_rfl
 h188:=by kernel_rfl
 h179:=by kernel_rfl
 h178:=by kernel_rfl
 h172:=by kernel_rfl
 h184:=by kernel_rfl
instance:CScheme tab where
 h536:=by kernel_rfl
 h551:=by kernel_rfl
 h559:=by kernel_rfl
 h560:=by kernel_rfl
 h561:=by kernel_rfl
 h562:=by kernel_rfl
instance:CSchP tab where
 h608:=by kernel_rfl
 h612:=by kernel_rfl
 h614:=by kernel_rfl
 h615:=by kernel_rfl
 h616:=by kernel_rfl
 h618:=by kernel_rfl
 h619:=by kernel_rfl
 h620:=by kernel_rfl
 h621:=by kernel_rfl
instance:CSchT tab where
instance:CLaw30 tab where
instance:CStock tab where
 h603:=by kernel_rfl
 h609:=by kernel_rfl
 h610:=by kernel_rfl
 h634:=by kernel_rfl
instance:COrder tab where
 h589:=by kernel_rfl
 h594:=by kernel_rfl
 h595:=by kernel_rfl
 h605:=by kernel_rfl
 h607:=by kernel_rfl
instance:COrder2 tab where
 h604:=by kernel_rfl
 h611:=by kernel_rfl
 h613:=by kernel_rfl
 h617:=by kernel_rfl
 h622:=by kernel_rfl
instance:CRef32 tab where
instance:CLaw32 tab where
 h588:=by kernel_rfl
instance:CLaw32s tab where
 h639:=by kernel_rfl
end Go.Proofs.YtajopjoiaogapaaGreatDoor
end
section
set_option linter.unusedVariables false
namespace Go.Proofs
open Go.Shelf Go.RowKit
variable{P:Program}{ρ:Ren}
structure JL (P:Program) (ρ:Ren):Prop extends Lays.n169 P ρ,Lays.n241 P ρ,Builder.Extra P ρ where
 f156:P.funcs[ρ.f 156]? = some (Body.n156 ρ)
 f165:P.funcs[ρ.f 165]? = some (Body.n165 ρ)
 f166:P.funcs[ρ.f 166]? = some (Body.n166 ρ)
 t4:P.underlying (ρ.t 4)=some (TypeDesc.bool)
 a4:∀w,(isAgg (ρ.t 4)).run P w=.ok false w
 z4:∀w,(Go.sizeOf (ρ.t 4)).run P w=.ok 1 w
 v4:∀w,(zeroValue (ρ.t 4)).run P w=.ok (Value.bool false) w
 t20:P.underlying (ρ.t 20)=some (TypeDesc.interface #[])
 a20:∀w,(isAgg (ρ.t 20)).run P w=.ok false w
 z20:∀w,(Go.sizeOf (ρ.t 20)).run P w=.ok 1 w
 v20:∀w,(zeroValue (ρ.t 20)).run P w=.ok (Value.nilIface) w
 t31:P.underlying (ρ.t 31)=some (TypeDesc.slice (ρ.t 9))
 a31:∀w,(isAgg (ρ.t 31)).run P w=.ok false w
 z31:∀w,(Go.sizeOf (ρ.t 31)).run P w=.ok 1 w
 v31:∀w,(zeroValue (ρ.t 31)).run P w=.ok (Value.slice none 0 0) w
 t75:P.underlying (ρ.t 75)=some (TypeDesc.interface #[("Error",ρ.t 80)])
 a75:∀w,(isAgg (ρ.t 75)).run P w=.ok false w
 z75:∀w,(Go.sizeOf (ρ.t 75)).run P w=.ok 1 w
 v75:∀w,(zeroValue (ρ.t 75)).run P w=.ok (Value.nilIface) w
 t76:P.underlying (ρ.t 76)=some (TypeDesc.tuple #[ρ.t 3,ρ.t 75])
 a76:∀w,(isAgg (ρ.t 76)).run P w=.ok false w
 z76:∀w,(Go.sizeOf (ρ.t 76)).run P w=.ok 1 w
 v76:∀w,(zeroValue (ρ.t 76)).run P w=.ok (Value.tuple #[Value.int IntKind.i64 0,Value.nilIface]) w
 t164:P.underlying (ρ.t 164)=some (TypeDesc.unsafePointer)
 a164:∀w,(isAgg (ρ.t 164)).run P w=.ok false w
 z164:∀w,(Go.sizeOf (ρ.t 164)).run P w=.ok 1 w
 v164:∀w,(zeroValue (ρ.t 164)).run P w=.ok (Value.pointer none) w
 e240:∀args w,(callFunc (ρ.f 240) args).run P w=.ok (.enter (ρ.f 240) args) w
 c240:∀(B b:Nat) (bs:List Value) (w:World),Lib.IsBuilder (ρ.t 72) (ρ.t 5) B b bs w →
  Calls P (ρ.f 240) #[.pointer (some ⟨b,0,none⟩)] w fun e w'=>e=.returned (.tuple #[])∧(Lib.BuilderAt (ρ.t 72) (ρ.t 5) B b (.pointer (some ⟨b,0,none⟩)) bs w'∧Below B w w')
 c240f:∀(b:Nat) (w:World),w.cell? ⟨b,0,none⟩=some (.pointer none)→w.shape? b=some ((ρ.t 72),2)→w.frozen? ⟨b,0,none⟩=false →
  Calls P (ρ.f 240) #[.pointer (some ⟨b,0,none⟩)] w fun e w'=>e=.returned (.tuple #[])∧w'=w.setCell ⟨b,0,none⟩ (.pointer (some ⟨b,0,none⟩))
theorem Jl.hid{p:Prop}(h:p):Hid p:=h
end Go.Proofs
end
section
namespace Go.Proofs
open Go.Shelf Go.RowKit Go.Ab
variable{P:Program}{ρ:Ren}
theorem s_inv{w:World}{S:Nat→Nat→Prop}{v:Value}{l:List UInt8}(h:CP w S v (.s l)):v=.string ⟨l.toArray⟩:=by
 cases h with
 | s=>rfl
theorem two_args{cargs:Array Value}(h:cargs.size=2):∃a b,cargs=#[a,b]:=by
 obtain⟨l⟩:=cargs
 match l,h with
 | [a,b],_=>exact⟨a,b,rfl⟩
theorem one_arg{cargs:Array Value}(h:cargs.size=1):∃a,cargs=#[a]:=by
 obtain⟨l⟩:=cargs
 match l,h with
 | [a],_=>exact⟨a,rfl⟩
end Go.Proofs
end
section
namespace Go.Proofs
open Go.Shelf Go.RowKit Go.Ab
variable{P:Program}{ρ:Ren}
theorem bytes_size(s:List UInt8):(⟨s.toArray⟩:ByteArray).size=s.length:=by simp[ByteArray.size]
theorem bytes_list(s:List UInt8):(⟨s.toArray⟩:ByteArray).data.toList=s:=by simp
theorem all_ascii{s:List UInt8}(h:s.all (fun c=>decide (c.toNat<128))=true):∀(j:Nat) b,(⟨s.toArray⟩:ByteArray).data.toList[j]? = some b→b.toNat<128:=by
 intro j b hb
 rw[bytes_list]at hb
 exact of_decide_eq_true (List.all_eq_true.1 h b (List.mem_of_getElem? hb))
theorem index_pcall(L:Lays.n219 P ρ):∀xs r,prim194 xs=some r→PCall P (ρ.f 219) xs (·=r):=by
 intro xs r h
 unfold prim194 at h
 split at h
 ·rename_i s c
  cases h
  refine⟨enters_of L.f219 (by kernel_rfl) rfl,fun w S cargs hsz hC hS=>?_⟩
  obtain⟨v0,v1,rfl⟩:=two_args hsz
  have c0:=s_inv (hC 0 _ _ rfl rfl)
  have c1:=s_inv (hC 1 _ _ rfl rfl)
  subst c0 c1
  have:=Any.stringslite_Index_one L ⟨s.toArray⟩ c w
  rw[bytes_list]at this
  refine this.mono ?_
  rintro e w' ⟨rfl,rfl⟩
  exact⟨_,_,rfl,rfl,Below.refl _ _,.i _ _⟩
 ·cases h
theorem count_pcall(L:Lays.n138 P ρ):∀xs r,prim361 xs=some r→PCall P (ρ.f 138) xs (·=r):=by
 intro xs r h
 unfold prim361 at h
 split at h
 ·rename_i s c
  cases h
  refine⟨enters_of L.f138 (by kernel_rfl) rfl,fun w S cargs hsz hC hS=>?_⟩
  obtain⟨v0,v1,rfl⟩:=two_args hsz
  have c0:=s_inv (hC 0 _ _ rfl rfl)
  have c1:=s_inv (hC 1 _ _ rfl rfl)
  subst c0 c1
  have:=Any.strings_Count_one L ⟨s.toArray⟩ c w
  rw[bytes_list]at this
  refine this.mono ?_
  rintro e w' ⟨rfl,rfl⟩
  exact⟨_,_,rfl,rfl,Below.refl _ _,.i _ _⟩
 ·cases h
end Go.Proofs
end
section
namespace Go.Proofs
open Go.Shelf Go.RowKit Go.Lib
variable{P:Program}{ρ:Ren}
abbrev slashDot:ByteArray:=⟨#[47,46]⟩
set_option maxHeartbeats 2000000 in
set_option maxRecDepth 1000000 in
theorem rune_invalid(L:Lays.n152 P ρ)(r:Int)(w:World)(h0:128≤r)(h1:r≤2147483647)(h2:r≠65533)(hv:Lib.validRune r=false) :
  Calls P (ρ.f 152) #[.string slashDot,.int .i32 r] w fun e w'=>e=.returned (.int .i64 (-1))∧w'=w:=by
 have t3:=L.t3;have a3:=L.a3;have z3:=L.z3;have v3:=L.v3
 have t4:=L.t4;have a4:=L.a4;have z4:=L.z4;have v4:=L.v4
 have t5:=L.t5;have a5:=L.a5;have z5:=L.z5;have v5:=L.v5
 have t9:=L.t9;have a9:=L.a9;have z9:=L.z9;have v9:=L.v9
 have t21:=L.t21;have a21:=L.a21;have z21:=L.z21;have v21:=L.v21
 have e119:∀args w,(callFunc (ρ.f 119) args).run P w=.ok (.enter (ρ.f 119) args) w:=enters_of L.f119 (by kernel_rfl) rfl
 go_enter L.f152,Body.n152_ntmps ρ
 go_wp2_with (go_at_fn (ρ.f 119);refine(Any.utf8_ValidRune { L with } _ _).mono ?_;rintro e w' ⟨rfl,hw⟩;rw[hw,hv])
 go_ret
 exact⟨rfl,rfl⟩
theorem next_slash(w:World)(ty:TypeId):(Instr.next (.pointer (some ⟨w.heap.size,0,none⟩)) true ty).run P (w.iter slashDot 0)=.ok (.tuple #[.bool true,.int .i64 0,.int .i32 47]) (w.iter slashDot 1):=
 run_next_ascii (P:=P) w slashDot 0 ty (by decide) (by decide)
theorem next_dot(w:World)(ty:TypeId):(Instr.next (.pointer (some ⟨w.heap.size,0,none⟩)) true ty).run P (w.iter slashDot 1)=.ok (.tuple #[.bool true,.int .i64 1,.int .i32 46]) (w.iter slashDot 2):=
 run_next_ascii (P:=P) w slashDot 1 ty (by decide) (by decide)
set_option maxHeartbeats 2000000 in
set_option maxRecDepth 1000000 in
theorem rune_error(L:Lays.n152 P ρ)(w:World) :
  Calls P (ρ.f 152) #[.string slashDot,.int .i32 65533] w fun e w'=>e=.returned (.int .i64 (-1))∧∃pos,w'=w.iter slashDot pos:=by
 have t3:=L.t3;have a3:=L.a3;have z3:=L.z3;have v3:=L.v3
 have t4:=L.t4;have a4:=L.a4;have z4:=L.z4;have v4:=L.v4
 have t5:=L.t5;have a5:=L.a5;have z5:=L.z5;have v5:=L.v5
 have t9:=L.t9;have a9:=L.a9;have z9:=L.z9;have v9:=L.v9
 have t21:=L.t21;have a21:=L.a21;have z21:=L.z21;have v21:=L.v21
 go_enter L.f152,Body.n152_ntmps ρ
 go_wp2
 go_loopg [5,6] 2 (fun g _ _ wx=>∃i:Nat,i+g=2∧wx=w.iter slashDot i)
 case atStart=>exact⟨0,by omega,rfl⟩
 case round=>
  obtain⟨i,hig,rfl⟩:=hrel
  match gk,i,hig with
  | 0,2,_=>
   have hnx:=fun ty=>run_next_end (P:=P) w slashDot 2 ty (by decide)
   go_wp2
   go_ret
   exact⟨rfl,_,rfl⟩
  | 1,1,_=>
   have hnx:=next_dot (P:=P) w
   go_wp2
   go_roundg 0
   case measure=>omega
   case rel=>exact⟨2,by omega,rfl⟩
  | 2,0,_=>
   have hnx:=next_slash (P:=P) w
   go_wp2
   go_roundg 1
   case measure=>omega
   case rel=>exact⟨1,by omega,rfl⟩
set_option maxHeartbeats 4000000 in
set_option maxRecDepth 1000000 in
theorem rune_three(L:Lays.n152 P ρ)(r:Int)(w:World)(h0:128≤r)(h1:r≤2147483647)(h2:r≠65533)(hv:Lib.validRune r=true)(hk:3≤(Utf8.encode r).size)(hk4:(Utf8.encode r).size≤4) :
  Calls P (ρ.f 152) #[.string slashDot,.int .i32 r] w fun e w'=>e=.returned (.int .i64 (-1))∧w'=w:=by
 have t3:=L.t3;have a3:=L.a3;have z3:=L.z3;have v3:=L.v3
 have t4:=L.t4;have a4:=L.a4;have z4:=L.z4;have v4:=L.v4
 have t5:=L.t5;have a5:=L.a5;have z5:=L.z5;have v5:=L.v5
 have t9:=L.t9;have a9:=L.a9;have z9:=L.z9;have v9:=L.v9
 have t21:=L.t21;have a21:=L.a21;have z21:=L.z21;have v21:=L.v21
 have e119:∀args w,(callFunc (ρ.f 119) args).run P w=.ok (.enter (ρ.f 119) args) w:=enters_of L.f119 (by kernel_rfl) rfl
 have hcv:∀w,(convert (ρ.t 21) (ρ.t 9) (.int .i32 r)).run P w=.ok (.string (Utf8.encode r)) w:=fun w=>run_convert_int_string w _ _ _ _ (by rw[L.t21];rfl) L.t9
 generalize Utf8.encode r=b at *
 go_enter L.f152,Body.n152_ntmps ρ
 go_wp2_with (first | (go_at_fn (ρ.f 119);refine(Any.utf8_ValidRune { L with } _ _).mono ?_;rintro e w' ⟨rfl,hw⟩;rw[hw,hv]) | simp only[hcv])
 go_step3
 go_wp2_with (simp only[hcv])
 go_loopg [9] 0 (fun g i wx=>i=.int .i64 ((b.size:Int)-1)∧wx=w)
 case atStart=>exact⟨rfl,rfl⟩
 case round=>
  obtain⟨rfl,rfl⟩:=hrel
  have hge:decide (((b.size:Int)-1)<2)=false:=decide_eq_false (by omega)
  go_wp2
  rw[Exit.noGoto_ret]
  go_ret
  exact⟨rfl,rfl⟩
set_option maxHeartbeats 4000000 in
set_option maxRecDepth 1000000 in
theorem rune_two(L:Lays.n152 P ρ)(r:Int)(w:World)(h0:128≤r)(h1:r≤2147483647)(h2:r≠65533)(hv:Lib.validRune r=true)(x:UInt8)(hk:(Utf8.encode r).size=2)(hx:∀h:1<(Utf8.encode r).size,(Utf8.encode r)[1]'h=x)(hx128:128≤x.toNat) :
  Calls P (ρ.f 152) #[.string slashDot,.int .i32 r] w fun e w'=>e=.returned (.int .i64 (-1))∧Below w.heap.size w w':=by
 have mixed:=L.mixed
 have t3:=L.t3;have a3:=L.a3;have z3:=L.z3;have v3:=L.v3
 have t4:=L.t4;have a4:=L.a4;have z4:=L.z4;have v4:=L.v4
 have t5:=L.t5;have a5:=L.a5;have z5:=L.z5;have v5:=L.v5
 have t9:=L.t9;have a9:=L.a9;have z9:=L.z9;have v9:=L.v9
 have t21:=L.t21;have a21:=L.a21;have z21:=L.z21;have v21:=L.v21
 have e119:∀args w,(callFunc (ρ.f 119) args).run P w=.ok (.enter (ρ.f 119) args) w:=enters_of L.f119 (by kernel_rfl) rfl
 have e137:∀args w,(callFunc (ρ.f 137) args).run P w=.ok (.enter (ρ.f 137) args) w:=enters_of L.f137 (by kernel_rfl) rfl
 have hcv:∀w,(convert (ρ.t 21) (ρ.t 9) (.int .i32 r)).run P w=.ok (.string (Utf8.encode r)) w:=fun w=>run_convert_int_string w _ _ _ _ (by rw[L.t21];rfl) L.t9
 generalize Utf8.encode r=b at *
 go_enter L.f152,Body.n152_ntmps ρ
 go_wp2_with (first | (go_at_fn (ρ.f 119);refine(Any.utf8_ValidRune { L with } _ _).mono ?_;rintro e w' ⟨rfl,hw⟩;rw[hw,hv]) | simp only[hcv])
 go_step3
 go_wp2_with (simp only[hcv])
 go_loopg [9] 0 (fun g i wx=>i=.int .i64 1∧wx=w)
 case atStart=>exact⟨rfl,rfl⟩
 case round=>
  obtain⟨rfl,rfl⟩:=hrel
  have hb:1<b.size:=by omega
  have hxx:=hx hb
  have hne:((46:Int) == (x.toNat:Int))=false:=beq_eq_false_iff_ne.2 (by omega)
  have hsz:(b.size:Int)=2:=by omega
  have hg:slashDot[1]'(by decide)=46:=rfl
  go_wp2
  go_step3
  go_wp2_with (go_at_fn (ρ.f 137);refine(Any.strings_IndexByte { L with } _ _ _).mono ?_;rintro e w' ⟨rfl,hw⟩;rw[hw])
  go_region_o
  have hne2:((46:Int) != (x.toNat:Int))=true:=by rw[bne,hne];rfl
  try rw[hne2]
  go_wp2
  go_region_with_o (go_at_fn (ρ.f 137);refine(Any.strings_IndexByte { L with } _ _ _).mono ?_;rintro e w' ⟨rfl,hw⟩;rw[hw])
  all_goals go_wp2
  all_goals rw[Exit.noGoto_ret]
  all_goals go_wp2
  all_goals rw[Exit.noGoto_ret]
  all_goals go_ret
  all_goals exact⟨rfl,⟨rfl,rfl,rfl,Nat.le_refl _,fun _ _=>rfl⟩⟩
theorem rune_wide(L:Lays.n152 P ρ)(r:Int)(w:World)(h0:128≤r)(h1:r≤2147483647) :
  Calls P (ρ.f 152) #[.string slashDot,.int .i32 r] w fun e w'=>e=.returned (.int .i64 (-1))∧Below w.heap.size w w':=by
 by_cases h2:r=65533
 ·subst h2
  refine(rune_error L w).mono ?_
  rintro e w' ⟨h,pos,rfl⟩
  exact⟨h,(Below.refl _ _).alloc (Nat.le_refl _) _⟩
 ·cases hv:Lib.validRune r with
  | false=>
   refine(rune_invalid L r w h0 h1 h2 hv).mono ?_
   rintro e w' ⟨h,rfl⟩
   exact⟨h,Below.refl _ _⟩
  | true=>
   have hu:Utf8.valid r=true:=by rw[Go.validRune_eq];exact hv
   obtain⟨k2,k4,kx⟩:=encode_facts r hu h0
   by_cases h3:(Utf8.encode r).size=2
   ·have hk:=kx (by omega)
    have he:(Utf8.encode r).size-1=1:=by omega
    simp only[he]at hk
    exact rune_two L r w h0 h1 h2 hv ((Utf8.encode r)[1]'(by omega)) h3 (fun _=>rfl) hk
   ·refine(rune_three L r w h0 h1 h2 hv (by omega) k4).mono ?_
    rintro e w' ⟨h,rfl⟩
    exact⟨h,Below.refl _ _⟩
theorem wide_n(n b0 b1 b2 b3:Nat)(hn:1≤n)(h:128≤b0):1≤(decodeN n b0 b1 b2 b3).2∧(decodeN n b0 b1 b2 b3).2≤4∧(decodeN n b0 b1 b2 b3).2≤n ∧
  (2≤(decodeN n b0 b1 b2 b3).2→128≤b1)∧(3≤(decodeN n b0 b1 b2 b3).2→128≤b2)∧(4≤(decodeN n b0 b1 b2 b3).2→128≤b3):=by
 unfold decodeN
 rw[if_neg (by omega)]
 (repeat' split)<;>simp only<;>omega
theorem wide_bytes(s:ByteArray)(i:Nat)(hi:i<s.size)(h:128≤(s[i]'hi).toNat):1≤(Utf8.decode s i).2∧i+(Utf8.decode s i).2≤s.size ∧
  ∀(j:Nat) (b:UInt8),i≤j→j<i+(Utf8.decode s i).2→s.data.toList[j]? = some b→128≤b.toNat:=by
 have hg:∀(j:Nat) (b:UInt8),s.data.toList[j]? = some b→s.get! j=b:=by
  intro j b hb
  obtain⟨hj,hb⟩:=List.getElem?_eq_some_iff.1 hb
  have hj2:j<s.size:=by simpa using hj
  have:s.get! j=s[j]'hj2:=by
   simp[ByteArray.get!,getElem!_pos,hj2]
   rfl
  rw[this,←hb]
  rfl
 have h0:s.get! i=s[i]'hi:=get_at s i hi
 have hw:=wide_n (s.size-i) (s.get! i).toNat (s.get! (i+1)).toNat (s.get! (i+2)).toNat (s.get! (i+3)).toNat (by omega) (by rw[h0];exact h)
 rw[←decode_at]at hw
 obtain⟨w1,w2,w3,w4,w5,w6⟩:=hw
 refine⟨w1,by omega,fun j b hij hj hb=>?_⟩
 have hgb:=hg j b hb
 rw[←hgb]
 have hc:j=i∨j=i+1∨j=i+2∨j=i+3:=by omega
 rcases hc with rfl | rfl | rfl | rfl
 ·rw[h0];exact h
 ·exact w4 (by omega)
 ·exact w5 (by omega)
 ·exact w6 (by omega)
theorem next_at(wx:World)(B:Nat)(s:ByteArray)(pos:Nat)(ty:TypeId)(hB:wx.heap[B]? = some (.stringIter s pos))(h:pos<s.size) :
  (Instr.next (.pointer (some ⟨B,0,none⟩)) true ty).run P wx=.ok (.tuple #[.bool true,.int .i64 pos,.int .i32 (Utf8.decode s pos).1]) { wx with heap:=wx.heap.setIfInBounds B (.stringIter s (pos+(Utf8.decode s pos).2)) }:=by
 simp only[Instr.next,getObj,setObj,Sem.run_bind,Sem.run,hB,Result.andThen,h,if_true]
 simp[goInt]
theorem next_none(wx:World)(B:Nat)(s:ByteArray)(pos:Nat)(ty:TypeId)(hB:wx.heap[B]? = some (.stringIter s pos))(h:¬ pos<s.size) :
  (Instr.next (.pointer (some ⟨B,0,none⟩)) true ty).run P wx=.ok (.tuple #[.bool false]) wx:=by
 simp[Instr.next,getObj,Sem.run,hB,h]
theorem below_iter{B:Nat}{w wx:World}(h:Below B w wx)(o:Obj):Below B w { wx with heap:=wx.heap.setIfInBounds B o }:=
 h.trans ⟨rfl,rfl,rfl,by simp,fun k hk=>by
  show (wx.heap.setIfInBounds B o)[k]? = wx.heap[k]?
  rw[Array.getElem?_setIfInBounds_ne (by omega)]⟩
set_option maxHeartbeats 8000000 in
set_option maxRecDepth 1000000 in
theorem indexAny_short_any(L:Lays.n153 P ρ)(s:ByteArray)(w:World)(h8:s.size≤8) :
  Calls P (ρ.f 153) #[.string s,.string slashDot] w fun e w'=>e=.returned (.int .i64 (Lib.indexAny s.data.toList [47,46]))∧Below w.heap.size w w':=by
 have h8z:decide ((8:Int)<(s.size:Int))=false:=decide_eq_false (by omega)
 have t3:=L.t3;have a3:=L.a3;have z3:=L.z3;have v3:=L.v3
 have t4:=L.t4;have a4:=L.a4;have z4:=L.z4;have v4:=L.v4
 have t5:=L.t5;have a5:=L.a5;have z5:=L.z5;have v5:=L.v5
 have t9:=L.t9;have a9:=L.a9;have z9:=L.z9;have v9:=L.v9
 have t21:=L.t21;have a21:=L.a21;have z21:=L.z21;have v21:=L.v21
 have e152:∀args w,(callFunc (ρ.f 152) args).run P w=.ok (.enter (ρ.f 152) args) w:=enters_of L.f152 (by kernel_rfl) rfl
 have e226:∀args w,(callFunc (ρ.f 226) args).run P w=.ok (.enter (ρ.f 226) args) w:=enters_of L.f226 (by kernel_rfl) rfl
 go_enter L.f153,Body.n153_ntmps ρ
 go_wp2_with (go_at_fn (ρ.f 226);refine(Any.strings_shouldUseASCIISet { L with } _ _).mono ?_;rintro e w' ⟨rfl,hw⟩;rw[hw,h8z])
 go_loopg [9,10] s.size (fun g _ _ wx=>∃i:Nat,s.size≤i+g∧i≤s.size∧wx.heap[w.heap.size]? = some (.stringIter s i)∧Below w.heap.size w wx∧Lib.NoAny s.data.toList [47,46] i)
 case atStart=>exact⟨0,by omega,by omega,World.iter_heap w s 0,(Below.refl _ _).alloc (Nat.le_refl _) _,Lib.NoAny.zero _ _⟩
 case round=>
  obtain⟨i,hig,his,hit,hbel,hno⟩:=hrel
  have HN:Aside (Lib.NoAny s.data.toList [47,46] i):=hno
  have HB:Aside (Below w.heap.size w wr):=hbel
  have HI:Aside (wr.heap[w.heap.size]? = some (.stringIter s i)):=hit
  clear hno hbel
  by_cases hi:i<s.size
  ·cases gk with
   | zero=>omega
   | succ g=>
   have hlt:w.heap.size<wr.heap.size:=(Array.getElem?_eq_some_iff.1 hit).1
   obtain⟨x,hx⟩:∃x:UInt8,s[i]'hi=x:=⟨_,rfl⟩
   have hxl:s.data.toList[i]? = some x:=by rw[←hx];exact Lib.data_getElem? s i hi
   have hnx:=fun ty=>next_at (P:=P) wr w.heap.size s i ty hit hi
   by_cases h128:x.toNat<128
   ·have hd:=decode_ascii s i hi (by rw[hx];exact h128)
    rw[hx]at hd
    rw[hd]at hnx
    simp only at hnx
    have Hx:Aside (s.data.toList[i]? = some x):=hxl
    clear hxl hx hit
    have hcon:=Lib.contains_iff_indexByte [47,46] x
    have hback:((x.toNat:Int)).toNat.toUInt8=x:=by simp
    cases hin:([47,46]:List UInt8).contains x
    ·rw[hin]at hcon
     have hlt0:¬ ((0:Int)≤Lib.indexByte [47,46] x):=of_decide_eq_false hcon.symm
     clear hcon
     go_wp2_with (go_at_fn (ρ.f 152);refine(Any.strings_IndexRune_ascii { L with } _ _ _ (by omega) (by omega)).mono ?_;rintro e w' ⟨rfl,hw⟩;rw[hw,hback])
     go_roundg g
     case measure=>omega
     case rel=>exact⟨i+1,by omega,by omega,by simp[hlt],below_iter HB.out _,HN.out.succ Hx.out hin⟩
    ·rw[hin]at hcon
     have hge:(0:Int)≤Lib.indexByte [47,46] x:=of_decide_eq_true hcon.symm
     clear hcon
     go_wp2_with (go_at_fn (ρ.f 152);refine(Any.strings_IndexRune_ascii { L with } _ _ _ (by omega) (by omega)).mono ?_;rintro e w' ⟨rfl,hw⟩;rw[hw,hback])
     go_ret
     exact⟨by rw[Lib.indexAny_hit HN.out Hx.out hin];rfl,below_iter HB.out _⟩
   ·have hwb:=wide_bytes s i hi (by rw[hx];omega)
    have hdh:=decode_high s i hi (by rw[hx];omega)
    have hdl:=decode_le s i
    obtain⟨r,hr⟩:∃r,r=(Utf8.decode s i).1:=⟨_,rfl⟩
    obtain⟨k,hk⟩:∃k,k=(Utf8.decode s i).2:=⟨_,rfl⟩
    rw[←hr,←hk]at hnx
    rw[←hk]at hwb hdh
    rw[←hr]at hdh hdl
    obtain⟨wb1,wb2,wb3⟩:=hwb
    have HW:Aside (∀(j:Nat) (b:UInt8),i≤j→j<i+k→s.data.toList[j]? = some b→128≤b.toNat):=wb3
    clear wb3 hxl hx hit hr hk
    have r1:(128:Int)≤(r:Int):=by omega
    have r2:(r:Int)≤2147483647:=by omega
    go_wp2_with (go_at_fn (ρ.f 152);refine(rune_wide { L with } _ _ r1 r2).mono ?_;rintro e w' ⟨rfl,hw⟩)
    go_roundg g
    case measure=>omega
    case rel=>
     refine⟨i+k,by omega,by omega,?_,(below_iter HB.out _).trans (hw.mono (by simp;omega)),?_⟩
     ·rw[hw.block _ (by simpa using hlt)]
      simp[hlt]
     ·intro j b hj hb
      by_cases hji:j<i
      ·exact HN.out j b hji hb
      ·have h3:=HW.out j b (by omega) hj hb
       have e1:¬ b=47:=fun e=>by rw[e]at h3;exact absurd h3 (by decide)
       have e2:¬ b=46:=fun e=>by rw[e]at h3;exact absurd h3 (by decide)
       simp[e1,e2]
  ·obtain rfl:i=s.size:=by omega
   have hnx:=fun ty=>next_none (P:=P) wr w.heap.size s s.size ty hit hi
   clear hit
   go_wp2
   go_ret
   exact⟨by rw[Lib.indexAny_none (by rw[←Lib.size_eq];exact HN.out)];rfl,HB.out⟩
open Go.Ab in
theorem indexAny_pcall(L:Lays.n153 P ρ)(h116:(P.info? (ρ.t 116)).map (fun i=>(i.zero,i.size))=some (some (.agg (Array.replicate 256 (.bool false))),256)):∀xs r,prim344 xs=some r→PCall P (ρ.f 153) xs (·=r):=by
 intro xs r h
 unfold prim344 at h
 split at h
 ·split at h
  ·rename_i s hs
   cases h
   refine⟨enters_of L.f153 (by kernel_rfl) rfl,fun w S cargs hsz hC hS=>?_⟩
   obtain⟨v0,v1,rfl⟩:=two_args hsz
   have c0:=s_inv (hC 0 _ _ rfl rfl)
   have c1:=s_inv (hC 1 _ _ rfl rfl)
   subst c0 c1
   have key:Calls P (ρ.f 153) #[.string ⟨s.toArray⟩,.string slashDot] w fun e w'=>e=.returned (.int .i64 (Lib.indexAny s [47,46]))∧Below w.heap.size w w':=by
    by_cases h8:s.length≤8
    ·have:=indexAny_short_any L ⟨s.toArray⟩ w (by rw[bytes_size];exact h8)
     rwa [bytes_list]at this
    ·have:=Any.strings_IndexAny_long L (zero_of_info h116).1 (zero_of_info h116).2 ⟨s.toArray⟩ slashDot w (by decide) (by rw[bytes_size];omega) (by rw[bytes_size];omega) (by decide) (all_ascii (s:=[47,46]) (by decide))
     rw[bytes_list]at this
     refine this.mono fun e w' ⟨h1,h2⟩=>⟨h1,?_⟩
     rw[h2]
     exact((Below.refl _ _).alloc (Nat.le_refl _) _).alloc (by simp) _
   exact key.mono fun e w' ⟨he,hb⟩=>⟨_,_,he,rfl,hb,.i _ _⟩
  ·cases h
 ·cases h
end Go.Proofs
end
section
set_option linter.unusedVariables false
namespace Go.Proofs
open Go.Shelf Go.RowKit Go.Lib Go.Ab
variable{P:Program}{ρ:Ren}
set_option maxHeartbeats 2000000 in
set_option maxRecDepth 100000 in
theorem cut_one_lite(L:Lays.n220 P ρ)(b:UInt8)(s:ByteArray)(w:World)(hs:s.size<4294967281) :
  Calls P (ρ.f 220) #[.string s,.string ⟨#[b]⟩] w fun e w'=>e=.returned (.tuple #[.string ⟨(Lib.cut s.data.toList [b]).1.toArray⟩,.string ⟨(Lib.cut s.data.toList [b]).2.1.toArray⟩,.bool (Lib.cut s.data.toList [b]).2.2])∧∃n,w'=w.drewN n:=by
 have hone:Lib.index s.data.toList [b]=Lib.indexByte s.data.toList b:=Lib.index_one _ _
 rcases Lib.indexB_cases s ⟨#[b]⟩ with hix | ⟨i,hix,hroom⟩
 ·obtain⟨e1,e2,e3⟩:=Lib.cutB_miss s ⟨#[b]⟩ hix
  have hib:Lib.indexByte s.data.toList b=-1:=hone.symm.trans hix
  change (⟨(Lib.cut s.data.toList [b]).1.toArray⟩:ByteArray)=s at e1
  change (⟨(Lib.cut s.data.toList [b]).2.1.toArray⟩:ByteArray)=ByteArray.empty at e2
  change (Lib.cut s.data.toList [b]).2.2=false at e3
  rw[e1,e2,e3]
  have t3:=L.t3;have t4:=L.t4;have t9:=L.t9
  have a3:∀w,(isAgg (ρ.t 3)).run P w=.ok false w:=run_isAgg_plain L.t3 rfl;have a4:∀w,(isAgg (ρ.t 4)).run P w=.ok false w:=run_isAgg_plain L.t4 rfl;have a9:∀w,(isAgg (ρ.t 9)).run P w=.ok false w:=run_isAgg_plain L.t9 rfl
  have e219:∀args w,(callFunc (ρ.f 219) args).run P w=.ok (.enter (ρ.f 219) args) w:=enters_of L.f219 (by kernel_rfl) rfl
  have mixed:=L.mixed;have z3:=L.z3;have v3:=L.v3;have z4:=L.z4;have v4:=L.v4;have z9:=L.z9;have v9:=L.v9
  go_enter L.f220,Body.n220_ntmps ρ
  go_wp2_with (go_at_fn (ρ.f 219);refine(Any.stringslite_Index_one { L with } _ b _).mono ?_;rintro e w' ⟨rfl,rfl⟩;rw[hib])
  go_ret3
  exact⟨rfl,0,rfl⟩
 ·obtain⟨e1,e2,e3⟩:=Lib.cutB_hit s ⟨#[b]⟩ i hix
  have hib:Lib.indexByte s.data.toList b=(i:Int):=hone.symm.trans hix
  have hsz:(⟨#[b]⟩:ByteArray).size=1:=rfl
  rw[hsz]at hroom e2
  change (⟨(Lib.cut s.data.toList [b]).1.toArray⟩:ByteArray)=s.extract 0 i at e1
  change (⟨(Lib.cut s.data.toList [b]).2.1.toArray⟩:ByteArray)=s.extract (i+1) s.size at e2
  change (Lib.cut s.data.toList [b]).2.2=true at e3
  rw[e1,e2,e3]
  have c1:(0:Int)≤↑i:=by omega
  have c2:(↑i:Int)≤↑s.size:=by omega
  have c3:(0:Int)≤↑i+1:=by omega
  have c4:(↑i+1:Int)≤↑s.size:=by omega
  have t3:=L.t3;have t4:=L.t4;have t9:=L.t9
  have a3:∀w,(isAgg (ρ.t 3)).run P w=.ok false w:=run_isAgg_plain L.t3 rfl;have a4:∀w,(isAgg (ρ.t 4)).run P w=.ok false w:=run_isAgg_plain L.t4 rfl;have a9:∀w,(isAgg (ρ.t 9)).run P w=.ok false w:=run_isAgg_plain L.t9 rfl
  have e219:∀args w,(callFunc (ρ.f 219) args).run P w=.ok (.enter (ρ.f 219) args) w:=enters_of L.f219 (by kernel_rfl) rfl
  have mixed:=L.mixed;have z3:=L.z3;have v3:=L.v3;have z4:=L.z4;have v4:=L.v4;have z9:=L.z9;have v9:=L.v9
  go_enter L.f220,Body.n220_ntmps ρ
  go_wp2_with (go_at_fn (ρ.f 219);refine(Any.stringslite_Index_one { L with } _ b _).mono ?_;rintro e w' ⟨rfl,rfl⟩;rw[hib])
  go_region_o
  go_wp2
  go_ret3
  exact⟨rfl,1,rfl⟩
set_option maxHeartbeats 1000000 in
theorem cut_one(L:Lays.n145 P ρ)(b:UInt8)(s:ByteArray)(w:World)(hs:s.size<4294967281) :
  Calls P (ρ.f 145) #[.string s,.string ⟨#[b]⟩] w fun e w'=>e=.returned (.tuple #[.string ⟨(Lib.cut s.data.toList [b]).1.toArray⟩,.string ⟨(Lib.cut s.data.toList [b]).2.1.toArray⟩,.bool (Lib.cut s.data.toList [b]).2.2])∧∃n,w'=w.drewN n:=by
 have t4:=L.t4;have t9:=L.t9;have t59:=L.t59
 have a4:∀w,(isAgg (ρ.t 4)).run P w=.ok false w:=run_isAgg_plain L.t4 rfl;have a9:∀w,(isAgg (ρ.t 9)).run P w=.ok false w:=run_isAgg_plain L.t9 rfl;have a59:∀w,(isAgg (ρ.t 59)).run P w=.ok false w:=run_isAgg_plain L.t59 rfl
 have e220:∀args w,(callFunc (ρ.f 220) args).run P w=.ok (.enter (ρ.f 220) args) w:=enters_of L.f220 (by kernel_rfl) rfl
 have mixed:=L.mixed;have z4:=L.z4;have v4:=L.v4;have z9:=L.z9;have v9:=L.v9;have z59:=L.z59;have v59:=L.v59
 go_enter L.f145,Body.n145_ntmps ρ
 go_wp2_with (go_at_fn (ρ.f 220);refine(cut_one_lite { L with } b _ _ hs).mono ?_;rintro e w' ⟨rfl,n,rfl⟩)
 go_ret3
 exact⟨rfl,n,rfl⟩
theorem indexByte_tw(b:UInt8):∀(l:List UInt8),(Lib.indexByte l b=-1∧l.takeWhile (· != b)=l∧l.dropWhile (· != b)=[]∧l.contains b=false) ∨
  (∃i:Nat,Lib.indexByte l b=i∧l.takeWhile (· != b)=l.take i∧(l.dropWhile (· != b)).drop 1=l.drop (i+1)∧l.contains b=true)
 | []=>.inl ⟨rfl,rfl,rfl,rfl⟩
 | c::r=>by
  by_cases hc:c=b
  ·subst hc
   right
   exact⟨0,by simp[Lib.indexByte],by simp,by simp,by simp⟩
  ·have hb:(c != b)=true:=by simpa using hc
   have hb2:(b == c)=false:=by
    rw[beq_eq_false_iff_ne]
    exact fun h=>hc h.symm
   rcases indexByte_tw b r with ⟨h1,h2,h3,h4⟩ | ⟨i,h1,h2,h3,h4⟩
   ·left
    refine⟨by simp[Lib.indexByte,hc,h1],?_,?_,?_⟩
    ·rw[List.takeWhile_cons_of_pos (p:=(· != b)) hb,h2]
    ·rw[List.dropWhile_cons_of_pos (p:=(· != b)) hb,h3]
    ·rw[List.contains_cons,hb2,h4];rfl
   ·right
    refine⟨i+1,?_,?_,?_,?_⟩
    ·have hne:¬ (i:Int)=-1:=by omega
     simp[Lib.indexByte,hc,h1,hne]
    ·rw[List.takeWhile_cons_of_pos (p:=(· != b)) hb,h2];rfl
    ·rw[List.dropWhile_cons_of_pos (p:=(· != b)) hb,h3];rfl
    ·rw[List.contains_cons,hb2,h4];rfl
theorem cut_lines(b:UInt8)(l:List UInt8):Lib.cut l [b]=(l.takeWhile (· != b),(l.dropWhile (· != b)).drop 1,l.contains b):=by
 unfold Lib.cut
 rw[Lib.index_one]
 rcases indexByte_tw b l with ⟨h1,h2,h3,h4⟩ | ⟨i,h1,h2,h3,h4⟩
 ·rw[h1,if_neg (by decide),h2,h3,h4];rfl
 ·rw[h1,if_pos (by omega),h2,h3,h4];rfl
theorem cut_pcall(L:Lays.n145 P ρ):∀xs r,prim184 xs=some r→PCall P (ρ.f 145) xs (·=r):=by
 intro xs r h
 unfold prim184 at h
 split at h
 ·rename_i l b
  split at h
  ·rename_i hl
   cases h
   refine⟨enters_of L.f145 (by kernel_rfl) rfl,fun w S cargs hsz hC hS=>?_⟩
   obtain⟨v0,v1,rfl⟩:=two_args hsz
   have c0:=s_inv (hC 0 _ _ rfl rfl)
   have c1:=s_inv (hC 1 _ _ rfl rfl)
   subst c0 c1
   have:=cut_one L b ⟨l.toArray⟩ w (by rw[bytes_size];omega)
   rw[bytes_list,cut_lines]at this
   refine this.mono ?_
   rintro e w' ⟨rfl,n,rfl⟩
   refine⟨_,_,rfl,rfl,⟨rfl,rfl,rfl,Nat.le_refl _,fun _ _=>rfl⟩,.tup _ _ rfl fun j v c hv hc=>?_⟩
   match j,hv,hc with
   | 0,hv,hc=>cases hv;cases hc;exact .s _
   | 1,hv,hc=>cases hv;cases hc;exact .s _
   | 2,hv,hc=>cases hv;cases hc;exact .b _
  ·cases h
 ·cases h
end Go.Proofs
end
section
namespace Go.Proofs
open Go.Shelf Go.RowKit
set_option maxRecDepth 100000
def Tryz.sren:Ren:=⟨fun | 119=>189 | 137=>188 | 138=>187 | 143=>157 | 145=>93 | 152=>179 | 153=>169 | 195=>193 | 217=>165 | 218=>195 | 219=>151 | 220=>123 | 224=>167 | 225=>166 | 226=>180 | 227=>181 | 228=>182 | 266=>177 | 267=>168 | 314=>178 | n=>n,fun | 0=>0 | 3=>3 | 4=>4 | 5=>5 | 9=>9 | 21=>21 | 46=>134 | 51=>92 | 59=>135 | 116=>208 | 117=>209 | 124=>217 | 146=>165 | n=>n,fun | 1=>0 | n=>n⟩
theorem Tryz.lays153:Lays.n153 Tryz.prog Tryz.sren:={
 mixed:=by kernel_rfl,
 f119:=Tryz.func189.trans (congrArg some (by kernel_rfl)),
 f137:=Tryz.func188.trans (congrArg some (by kernel_rfl)),
 f152:=Tryz.func179.trans (congrArg some (by kernel_rfl)),
 f153:=Tryz.func169.trans (congrArg some (by kernel_rfl)),
 f217:=Tryz.func165.trans (congrArg some (by kernel_rfl)),
 f224:=Tryz.func167.trans (congrArg some (by kernel_rfl)),
 f225:=Tryz.func166.trans (congrArg some (by kernel_rfl)),
 f226:=Tryz.func180.trans (congrArg some (by kernel_rfl)),
 f227:=Tryz.func181.trans (congrArg some (by kernel_rfl)),
 f228:=Tryz.func182.trans (congrArg some (by kernel_rfl)),
 f266:=Tryz.func177.trans (congrArg some (by kernel_rfl)),
 t0:=Tryz.underlying0,
 a0:=Tryz.isAgg0,
 z0:=Tryz.sizeOf0,
 v0:=Tryz.zeroValue0,
 t3:=Tryz.underlying3,
 a3:=Tryz.isAgg3,
 z3:=Tryz.sizeOf3,
 v3:=Tryz.zeroValue3,
 t4:=Tryz.underlying4,
 a4:=Tryz.isAgg4,
 z4:=Tryz.sizeOf4,
 v4:=Tryz.zeroValue4,
 t5:=Tryz.underlying5,
 a5:=Tryz.isAgg5,
 z5:=Tryz.sizeOf5,
 v5:=Tryz.zeroValue5,
 t9:=Tryz.underlying9,
 a9:=Tryz.isAgg9,
 z9:=Tryz.sizeOf9,
 v9:=Tryz.zeroValue9,
 t21:=Tryz.underlying21,
 a21:=Tryz.isAgg21,
 z21:=Tryz.sizeOf21,
 v21:=Tryz.zeroValue21,
 t46:=Tryz.underlying134,
 a46:=Tryz.isAgg134,
 z46:=Tryz.sizeOf134,
 v46:=Tryz.zeroValue134,
 t116:=Tryz.underlying208,
 a116:=Tryz.isAgg208,
 z116:=Tryz.sizeOf208,
 t117:=Tryz.underlying209,
 a117:=Tryz.isAgg209,
 z117:=Tryz.sizeOf209,
 v117:=Tryz.zeroValue209,
 t124:=Tryz.underlying217,
 a124:=Tryz.isAgg217,
 z124:=Tryz.sizeOf217,
 v124:=Tryz.zeroValue217 }
theorem Tryz.lays219:Lays.n219 Tryz.prog Tryz.sren:={
 mixed:=by kernel_rfl,
 f217:=Tryz.func165.trans (congrArg some (by kernel_rfl)),
 f219:=Tryz.func151.trans (congrArg some (by kernel_rfl)),
 f224:=Tryz.func167.trans (congrArg some (by kernel_rfl)),
 f225:=Tryz.func166.trans (congrArg some (by kernel_rfl)),
 f266:=Tryz.func177.trans (congrArg some (by kernel_rfl)),
 f267:=Tryz.func168.trans (congrArg some (by kernel_rfl)),
 f314:=Tryz.func178.trans (congrArg some (by kernel_rfl)),
 t3:=Tryz.underlying3,
 a3:=Tryz.isAgg3,
 z3:=Tryz.sizeOf3,
 v3:=Tryz.zeroValue3,
 t4:=Tryz.underlying4,
 a4:=Tryz.isAgg4,
 z4:=Tryz.sizeOf4,
 v4:=Tryz.zeroValue4,
 t5:=Tryz.underlying5,
 a5:=Tryz.isAgg5,
 z5:=Tryz.sizeOf5,
 v5:=Tryz.zeroValue5,
 t9:=Tryz.underlying9,
 a9:=Tryz.isAgg9,
 z9:=Tryz.sizeOf9,
 v9:=Tryz.zeroValue9,
 t46:=Tryz.underlying134,
 a46:=Tryz.isAgg134,
 z46:=Tryz.sizeOf134,
 v46:=Tryz.zeroValue134,
 t51:=Tryz.underlying92,
 a51:=Tryz.isAgg92,
 z51:=Tryz.sizeOf92,
 v51:=Tryz.zeroValue92,
 t146:=Tryz.underlying165,
 a146:=Tryz.isAgg165,
 z146:=Tryz.sizeOf165,
 v146:=Tryz.zeroValue165,
 g1:=by kernel_rfl }
theorem Tryz.lays138:Lays.n138 Tryz.prog Tryz.sren:={
 mixed:=by kernel_rfl,
 f138:=Tryz.func187.trans (congrArg some (by kernel_rfl)),
 f143:=Tryz.func157.trans (congrArg some (by kernel_rfl)),
 f195:=Tryz.func193.trans (congrArg some (by kernel_rfl)),
 f217:=Tryz.func165.trans (congrArg some (by kernel_rfl)),
 f218:=Tryz.func195.trans (congrArg some (by kernel_rfl)),
 f219:=Tryz.func151.trans (congrArg some (by kernel_rfl)),
 f224:=Tryz.func167.trans (congrArg some (by kernel_rfl)),
 f225:=Tryz.func166.trans (congrArg some (by kernel_rfl)),
 f266:=Tryz.func177.trans (congrArg some (by kernel_rfl)),
 f267:=Tryz.func168.trans (congrArg some (by kernel_rfl)),
 f314:=Tryz.func178.trans (congrArg some (by kernel_rfl)),
 t0:=Tryz.underlying0,
 a0:=Tryz.isAgg0,
 z0:=Tryz.sizeOf0,
 v0:=Tryz.zeroValue0,
 t3:=Tryz.underlying3,
 a3:=Tryz.isAgg3,
 z3:=Tryz.sizeOf3,
 v3:=Tryz.zeroValue3,
 t4:=Tryz.underlying4,
 a4:=Tryz.isAgg4,
 z4:=Tryz.sizeOf4,
 v4:=Tryz.zeroValue4,
 t5:=Tryz.underlying5,
 a5:=Tryz.isAgg5,
 z5:=Tryz.sizeOf5,
 v5:=Tryz.zeroValue5,
 t9:=Tryz.underlying9,
 a9:=Tryz.isAgg9,
 z9:=Tryz.sizeOf9,
 v9:=Tryz.zeroValue9,
 t46:=Tryz.underlying134,
 a46:=Tryz.isAgg134,
 z46:=Tryz.sizeOf134,
 v46:=Tryz.zeroValue134,
 t51:=Tryz.underlying92,
 a51:=Tryz.isAgg92,
 z51:=Tryz.sizeOf92,
 v51:=Tryz.zeroValue92,
 t146:=Tryz.underlying165,
 a146:=Tryz.isAgg165,
 z146:=Tryz.sizeOf165,
 v146:=Tryz.zeroValue165,
 g1:=by kernel_rfl }
theorem Tryz.lays145:Lays.n145 Tryz.prog Tryz.sren:={
 mixed:=by kernel_rfl,
 f145:=Tryz.func93.trans (congrArg some (by kernel_rfl)),
 f217:=Tryz.func165.trans (congrArg some (by kernel_rfl)),
 f219:=Tryz.func151.trans (congrArg some (by kernel_rfl)),
 f220:=Tryz.func123.trans (congrArg some (by kernel_rfl)),
 f224:=Tryz.func167.trans (congrArg some (by kernel_rfl)),
 f225:=Tryz.func166.trans (congrArg some (by kernel_rfl)),
 f266:=Tryz.func177.trans (congrArg some (by kernel_rfl)),
 f267:=Tryz.func168.trans (congrArg some (by kernel_rfl)),
 f314:=Tryz.func178.trans (congrArg some (by kernel_rfl)),
 t3:=Tryz.underlying3,
 a3:=Tryz.isAgg3,
 z3:=Tryz.sizeOf3,
 v3:=Tryz.zeroValue3,
 t4:=Tryz.underlying4,
 a4:=Tryz.isAgg4,
 z4:=Tryz.sizeOf4,
 v4:=Tryz.zeroValue4,
 t5:=Tryz.underlying5,
 a5:=Tryz.isAgg5,
 z5:=Tryz.sizeOf5,
 v5:=Tryz.zeroValue5,
 t9:=Tryz.underlying9,
 a9:=Tryz.isAgg9,
 z9:=Tryz.sizeOf9,
 v9:=Tryz.zeroValue9,
 t46:=Tryz.underlying134,
 a46:=Tryz.isAgg134,
 z46:=Tryz.sizeOf134,
 v46:=Tryz.zeroValue134,
 t51:=Tryz.underlying92,
 a51:=Tryz.isAgg92,
 z51:=Tryz.sizeOf92,
 v51:=Tryz.zeroValue92,
 t59:=Tryz.underlying135,
 a59:=Tryz.isAgg135,
 z59:=Tryz.sizeOf135,
 v59:=Tryz.zeroValue135,
 t146:=Tryz.underlying165,
 a146:=Tryz.isAgg165,
 z146:=Tryz.sizeOf165,
 v146:=Tryz.zeroValue165,
 g1:=by kernel_rfl }
end Go.Proofs
namespace Go.Proofs.YtajopjoiaogapaaGreatDoor
open Go.Ab
theorem str344_ok:∀xs r,prim344 xs=some r→PCall Tryz.prog (nu 344) xs (·=r):=by
 have e:nu 344=Tryz.sren.f 153:=by kernel_rfl
 rw[e]
 exact indexAny_pcall Tryz.lays153 (by kernel_rfl)
theorem str194_ok:∀xs r,prim194 xs=some r→PCall Tryz.prog (nu 194) xs (·=r):=by
 have e:nu 194=Tryz.sren.f 219:=by kernel_rfl
 rw[e]
 exact index_pcall Tryz.lays219
theorem str361_ok:∀xs r,prim361 xs=some r→PCall Tryz.prog (nu 361) xs (·=r):=by
 have e:nu 361=Tryz.sren.f 138:=by kernel_rfl
 rw[e]
 exact count_pcall Tryz.lays138
theorem str184_ok:∀xs r,prim184 xs=some r→PCall Tryz.prog (nu 184) xs (·=r):=by
 have e:nu 184=Tryz.sren.f 145:=by kernel_rfl
 rw[e]
 exact cut_pcall Tryz.lays145
end Go.Proofs.YtajopjoiaogapaaGreatDoor
end
namespace Go.Ab
section
open Go.ChangeShapes Go.WideShapes Go.ChangeAt Go.RowKit
theorem zh9{H:Type}{enc:TypeId×Value→H}{P:Program}{f:Func}{s:ChangeSpec}{apart fresh handsOn again:Bool}{W W':World}{args:Array Value}{v:Value}{ds gs:List (DataW H)}{before pa pv:List MemPlace}
  (hW:DataW.Whole enc P f.params.toList s.vars apart W args.toList ds gs before)
  (hres:∀(b:Nat) (sp:Nat→Bool) (hd:Bool),DataW.TrodAll enc P W' b sp hd f.resultTypes.toList (v.resultList f.resultTypes.size) (s.fn H (ds++gs)).results [])
  (hargs:∀sp:Nat→Bool,(∀p∈before,sp p.block=true)→DataW.TrodAll enc P W' 0 sp true f.params.toList args.toList (s.fn H (ds++gs)).args pa)
  (hvars:∀sp:Nat→Bool,(∀p∈before,sp p.block=true)→DataW.TrodVars enc P W' sp s.vars (s.fn H (ds++gs)).vars pv)
  (hps:before=pa++pv) (hw:Below W.heap.size W W')
  (hok:∀(j:Nat) (t:TypeId) (r:Value),f.resultTypes[j]? = some t→(v.resultList f.resultTypes.size)[j]? = some r→Value.okWide P W' .any 0 t r) :
  s.post enc P f apart fresh handsOn again W args v W':=by
 have hold:∀p∈before,(fun b=>decide (b<W.heap.size)) p.block=true:=fun p hp=>by simpa using hW.lt p hp
 have hlt:∀p∈before,p.block<W.heap.size:=fun p hp=>hW.lt p hp
 refine⟨ds,gs,before,[],pa,pv,hW,hres _ _ _,hargs _ hold,hvars _ hold,World.keptBut_mono (fun p hp=>⟨hp,?_⟩) (hw.frame (·∈before)),fun _=>?_⟩
 ·grind
 ·obtain⟨_,_,_,_,_,hz,hn⟩:=hW
  refine⟨hok,_,_,([]++pa)++pv,⟨[]++pa,pv,trodAll_append (hargs _ (fun _ _=>rfl)) (hres _ _ _),hvars _ (fun _ _=>rfl),rfl,?_,?_⟩,?_⟩
  ·intro b off hp
   have hp':MemPlace.cell b off∈before:=by grind
   rw[hw.frozen (p:=⟨b,off,none⟩) (hlt _ hp')]
   exact hz b off hp'
  all_goals grind
end
section
open Go.ChangeShapes Go.WideShapes Go.ChangeAt Go.RowKit
inductive Ty where
 | int (k:IntKind)
 | bool
 | str
 | sl (r:Ty)
 | nil
 | cons (a:Ty) (r:Ty)
def Ty.z:Ty→Nat
 | .nil=>0
 | .cons a r=>a.z+r.z
 | _=>1
def Ok:Ty→List AV→Prop
 | .int k,cs=>∃n,cs=[.i k n]∧(Lit.int k n).wf=true
 | .bool,cs=>∃b,cs=[.b b]
 | .str,cs=>∃l,cs=[.s l]∧l.length≤maxLen
 | .sl r,cs=>∃els f,cs=[.sl els f]∧els.length≤maxLen∧(f=.nl∧els=[]∨f=.so)∧∀row∈els,Ok r row
 | .nil,cs=>cs=[]
 | .cons a r,cs=>∃c1 c2,cs=c1++c2∧Ok a c1∧Ok r c2
theorem Ok.len:∀{ty:Ty} {cs:List AV},Ok ty cs→cs.length=ty.z
 | .int _,_,⟨_,h,_⟩=>by rw[h];rfl
 | .bool,_,⟨_,h⟩=>by rw[h];rfl
 | .str,_,⟨_,h,_⟩=>by rw[h];rfl
 | .sl _,_,⟨_,_,h,_⟩=>by rw[h];rfl
 | .nil,_,h=>by rw[show _=[] from h];rfl
 | .cons _ _,_,⟨_,_,h,h1,h2⟩=>by rw[h,List.length_append,h1.len,h2.len];rfl
def RowC(w:World)(S:Nat→Nat→Prop)(cs:List Value)(xs:List AV):Prop:=
 xs.length=cs.length∧∀(j:Nat) (v:Value) (c:AV),cs[j]? = some v→xs[j]? = some c→CP w S v c∧v.oneCell'=true
section
variable{H:Type}{enc:TypeId×Value→H}{P:Program}{w:World}{base:Nat}{held:Bool}{S:Nat→Nat→Prop}
theorem RowC.nil:RowC w S [] []:=⟨rfl,fun j v c h=>by grind⟩
theorem RowC.one{v:Value}{c:AV}(h:CP w S v c)(h1:v.oneCell'=true):RowC w S [v] [c]:=by
 refine⟨rfl,fun j v' c' hv hc=>?_⟩
 grind
theorem RowC.append{cs cs':List Value}{xs xs':List AV}(h:RowC w S cs xs)(h':RowC w S cs' xs'):RowC w S (cs++cs') (xs++xs'):=by
 refine⟨by rw[List.length_append,List.length_append,h.1,h'.1],fun j v c hv hc=>?_⟩
 by_cases hj:j<cs.length
 ·rw[List.getElem?_append_left hj]at hv
  rw[List.getElem?_append_left (by rw[h.1];omega)]at hc
  exact h.2 j v c hv hc
 ·rw[List.getElem?_append_right (by omega)]at hv
  rw[List.getElem?_append_right (by rw[h.1];omega),h.1]at hc
  exact h'.2 _ v c hv hc
def fieldsTy(P:Program)(g:TypeId→Option Ty)(tot:Nat):Nat→List Field→Option Ty
 | off,[]=>if off=tot then some .nil else none
 | off,f::fs=>(g f.type).bind fun a=>if f.offset=off∧a.z=P.cellsOf f.type then (fieldsTy P g tot (off+a.z) fs).map (.cons a) else none
def repTy:Nat→Ty→Ty
 | 0,_=>.nil
 | n+1,a=>.cons a (repTy n a)
def tyOf(P:Program):Nat→TypeId→Option Ty
 | 0,_=>none
 | n+1,t=>
  match P.underlying t with
  | some .bool=>some .bool
  | some (.int k)=>some (.int k)
  | some .string=>some .str
  | some (.slice e)=>(tyOf P n e).bind fun r=>if r.z=P.cellsOf e∧0<r.z then some (.sl r) else none
  | some (.struct fs)=>fieldsTy P (tyOf P n) (P.cellsOf t) 0 fs.toList
  | some (.array k e)=>(tyOf P n e).bind fun a=>if a.z=P.cellsOf e∧k*a.z=P.cellsOf t then some (repTy k a) else none
  | _=>none
theorem zqc{α:Type}{Q:Nat→α→Prop}:∀(n:Nat),(∀i,i<n→∃x,Q i x)→∃l:List α,l.length=n∧∀i x,l[i]? = some x→Q i x
 | 0,_=>⟨[],rfl,fun i x h=>by grind⟩
 | n+1,h=>by
  obtain⟨l,hl,hq⟩:=zqc n fun i hi=>h i (by omega)
  obtain⟨x,hx⟩:=h n (by omega)
  refine⟨l++[x],by grind,fun i y hy=>?_⟩
  grind
def Places(S:Nat→Nat→Prop)(ps:List MemPlace):Prop:=∀k o,MemPlace.cell k o∈ps→S k o
theorem zf6{n:Nat}{g:TypeId→Option Ty}{cs:List Value}
  (ih:∀t cs x ty,DataW.trod enc P w base (fun _=>true) held n t cs=some x→g t=some ty→Places S x.2→∃xs,Ok ty xs∧RowC w S cs xs) :
  ∀(fs:List Field) (off:Nat) (ty:Ty) (ys:List (DataW H×List MemPlace)),
   ys.length=fs.length→(∀(i:Nat) (f:Field),fs[i]? = some f→DataW.trod enc P w base (fun _=>true) held n f.type ((cs.drop f.offset).take (P.cellsOf f.type))=ys[i]?) →
   fieldsTy P g cs.length off fs=some ty→Places S (ys.flatMap (·.2))→∃xs,Ok ty xs∧RowC w S (cs.drop off) xs
 | [],off,ty,ys,hl,hm,ht,hp=>by
  simp only[fieldsTy]at ht
  split at ht<;>cases ht
  rename_i ho
  exact⟨[],rfl,by rw[ho,List.drop_length];exact RowC.nil⟩
 | f::fs,off,ty,[],hl,hm,ht,hp=>by grind
 | f::fs,off,ty,y::ys1,hl,hm,ht,hp=>by
  obtain⟨a,ha,ht1⟩:=bind_some ht
  split at ht1
  ·rename_i hc
   obtain⟨ho,hz⟩:=hc
   obtain⟨r,hr,rfl⟩:=map_some ht1
   have hy:=hm 0 f rfl
   rw[ho,←hz]at hy
   obtain⟨xs1,ho1,hr1⟩:=ih _ _ _ _ hy ha fun k o h=>hp k o (by grind)
   obtain⟨xs2,ho2,hr2⟩:=zf6 ih fs _ r ys1 (by grind) (fun i f' hf=>by simpa using hm (i+1) f' (by grind)) hr fun k o h=>hp k o (by
    grind)
   refine⟨xs1++xs2,⟨xs1,xs2,rfl,ho1,ho2⟩,?_⟩
   have e:cs.drop off=(cs.drop off).take a.z++cs.drop (off+a.z):=by rw[←List.drop_drop,List.take_append_drop]
   rw[e]
   exact hr1.append hr2
  grind
theorem zhn{n:Nat}{e:TypeId}{r:Ty}(ih:∀cs x,DataW.trod enc P w base (fun _=>true) held n e cs=some x→Places S x.2→∃xs,Ok r xs∧RowC w S cs xs) :
  ∀(k:Nat) (cs:List Value) (ys:List (DataW H×List MemPlace)),ys.length=k→cs.length=k*r.z →
   (∀(i:Nat),i<k→DataW.trod enc P w base (fun _=>true) held n e ((cs.drop (i*r.z)).take r.z)=ys[i]?)→Places S (ys.flatMap (·.2))→∃xs,Ok (repTy k r) xs∧RowC w S cs xs
 | 0,cs,ys,hl,hc,hm,hp=>by
  rw[Nat.zero_mul,List.length_eq_zero_iff]at hc
  subst hc
  exact⟨[],rfl,RowC.nil⟩
 | k+1,cs,[],hl,hc,hm,hp=>by grind
 | k+1,cs,y::ys,hl,hc,hm,hp=>by
  have hy:=hm 0 (by omega)
  rw[Nat.zero_mul,List.drop_zero]at hy
  obtain⟨xs1,ho1,hr1⟩:=ih _ _ hy fun k o h=>hp k o (by grind)
  obtain⟨xs2,ho2,hr2⟩:=zhn ih k (cs.drop r.z) ys (by grind) (by grind) (fun i hi=>by
   grind[List.drop_drop]) fun k o h=>hp k o (by
    grind)
  refine⟨xs1++xs2,⟨xs1,xs2,rfl,ho1,ho2⟩,?_⟩
  have e:cs=cs.take r.z++cs.drop r.z:=(List.take_append_drop ..).symm
  rw[e]
  exact hr1.append hr2
theorem zm4{a:Addr}{m z:Nat}{cs:List Value}(h:w.cells? base (a.add m) z=some cs)(j:Nat)(hj:j<z):w.cell? ((a.add m).add j)=cs[j]? := (World.cells?_some h).2.2 j hj
theorem zqd{a:Addr}{v:Value}(h:w.cell? a=some v):a.spot=none:=by
 unfold World.cell? at h
 split at h
 all_goals simp_all
theorem zeb:∀(n m:Nat) (t:TypeId) (cs:List Value) (x:DataW H×List MemPlace) (ty:Ty),
  DataW.trod enc P w base (fun _=>true) held n t cs=some x→tyOf P m t=some ty→Places S x.2→∃xs,Ok ty xs∧RowC w S cs xs
 | 0,_,_,_,_,_,h,_,_=>by simp[DataW.trod]at h
 | n+1,0,_,_,_,_,_,ht,_=>by simp[tyOf]at ht
 | n+1,m+1,t,cs,x,ty,h,ht,hp=>by
  simp only[tyOf]at ht
  split at ht
  ·rename_i hu
   cases ht
   obtain⟨b,rfl,rfl⟩:=DataW.trod_bool hu h
   exact⟨[.b b],⟨b,rfl⟩,RowC.one (.b b) rfl⟩
  ·rename_i k hu
   cases ht
   obtain⟨z,rfl,rfl,hw⟩:=DataW.trod_int hu h
   exact⟨[.i k z],⟨z,rfl,hw⟩,RowC.one (.i k z) rfl⟩
  ·rename_i hu
   cases ht
   obtain⟨s,rfl,rfl,hs⟩:=DataW.trod_string hu h
   exact⟨[.s s.data.toList],⟨_,rfl,by simp_all⟩,RowC.one (.s s.data.toList) rfl⟩
  ·rename_i e hu
   obtain⟨r,hr,ht1⟩:=bind_some ht
   split at ht1
   ·rename_i hz
    cases ht1
    obtain⟨hz,hzp⟩:=hz
    rcases DataW.trod_slice hu h with ⟨rfl,rfl⟩ | ⟨a,len,cap,elems,rest,n',hn',rfl,rfl,hb,hl,hmx,hlen,hel,hsp,hns⟩
    ·exact⟨[.sl [] .nl],⟨[],.nl,rfl,Nat.zero_le _,.inl ⟨rfl,rfl⟩,fun row h=>by grind⟩,RowC.one (.slnil _ (.inl rfl)) rfl⟩
    ·obtain⟨hrl,hrest⟩:=hsp rfl
     have hall:∀i,i<cap→∃y cs',y∈elems++rest∧w.cells? base (a.add (i*P.cellsOf e)) (P.cellsOf e)=some cs'∧DataW.trod enc P w base (fun _=>true) held n e cs'=some y:=by
      intro i hi
      by_cases hil:i<len
      ·have h1:=hel i hil
       rw[List.getElem?_eq_getElem (by omega)]at h1
       obtain⟨cs',h2,h3⟩:=bind_some h1
       grind
      ·have h1:=hrest (i-len) (by omega)
       rw[List.getElem?_eq_getElem (by omega),show len+(i-len)=i by omega]at h1
       obtain⟨cs',h2,h3⟩:=bind_some h1
       grind
     by_cases hcap:cap=0
     ·have hl0:len=0:=by omega
      subst hcap
      subst hl0
      exact⟨[.sl [] .so],⟨[],.so,rfl,Nat.zero_le _,.inr rfl,fun row h=>by grind⟩,RowC.one (.slz a _ (.inl rfl)) rfl⟩
     ·have hspot:a.spot=none:=by
       obtain⟨y,cs',_,h2,_⟩:=hall 0 (by omega)
       have h3:=zm4 h2 0 (by omega)
       grind[World.cells?_some,zqd,Addr.add]
      obtain⟨blk,off,sp⟩:=a
      have hrows:∀i,i<len→∃xs,Ok r xs∧∃cs',w.cells? base ((⟨blk,off,none⟩:Addr).add (i*P.cellsOf e)) (P.cellsOf e)=some cs'∧RowC w S cs' xs:=by
       intro i hi
       obtain⟨y,cs',hy,h2,h3⟩:=hall i (by omega)
       obtain⟨xs,ho,hrc⟩:=zeb n m e cs' y r h3 hr fun k o hk=>hp k o (by
        grind)
       grind
      obtain⟨els,hels,hq⟩:=zqc len hrows
      refine⟨[.sl els .so],⟨els,.so,rfl,by omega,.inr rfl,fun row hrow=>?_⟩,RowC.one ?_ rfl⟩
      ·grind[List.getElem?_of_mem]
      ·have hcell:∀i j,i<els.length→j<r.z→∃v,w.cell? ⟨blk,off+i*r.z+j,none⟩=some v∧v.oneCell'=true∧∀row c,els[i]? = some row→row[j]? = some c→CP w S v c:=by
        intro i j hi hj
        obtain⟨ho,cs',h2,hrc⟩:=hq i _ (List.getElem?_eq_getElem hi)
        have h3:=zm4 h2 j (by omega)
        have h4:=(World.cells?_some h2).2.1
        rw[zba,zba,←hz,List.getElem?_eq_getElem (by omega)]at h3
        have hlr:=ho.len
        have h5:=hrc.2 j _ _ (List.getElem?_eq_getElem (by omega)) (List.getElem?_eq_getElem (by omega))
        grind
       have hS:∀i j,i<els.length→j<r.z→S blk (off+i*r.z+j):=by
        intro i j hi hj
        refine hp _ _ ?_
        rw[List.mem_append]
        left
        unfold MemPlace.row
        rw[List.mem_map]
        refine⟨i*r.z+j,?_,by rw[Nat.add_assoc]⟩
        have h1:(i+1)*r.z≤(elems.length+rest.length)*r.z:=Nat.mul_le_mul_right _ (by omega)
        grind
       have:=CP.sl (w:=w) (S:=S) blk off r.z cap els .so (fun i j=>(w.cell? ⟨blk,off+i*r.z+j,none⟩).getD undef) (by simp) (by simp) (by omega) hmx
        (fun i row hrow=>(hq i row hrow).1.len) (fun i j hi hj=>?_) (fun i row j c hrow hc=>?_)
       ·grind
       ·grind
       ·have hi:=(List.getElem?_eq_some_iff.1 hrow).1
        have hj:=(List.getElem?_eq_some_iff.1 hc).1
        rw[(hq i row hrow).1.len]at hj
        grind
   grind
  ·rename_i fs hu
   obtain⟨xs,n',hn',rfl,hcl,hxl,hx⟩:=DataW.trod_struct hu h
   cases hn'
   rw[←hcl]at ht
   have:=zf6 (S:=S) (g:=tyOf P m) (cs:=cs) (n:=n) (fun t cs x ty h1 h2 h3=>zeb n m t cs x ty h1 h2 h3) fs.toList 0 ty xs (by omega) (fun i f hf=>hx i f (by grind)) ht hp
   grind
  ·rename_i k e hu
   obtain⟨r,hr,ht1⟩:=bind_some ht
   split at ht1
   ·rename_i hz
    cases ht1
    obtain⟨hz,hzt⟩:=hz
    obtain⟨xs,n',hn',rfl,hcl,hxl,hx⟩:=DataW.trod_array hu h
    cases hn'
    rw[←hz]at hx
    exact zhn (S:=S) (n:=n) (e:=e) (r:=r) (fun cs x h1 h3=>zeb n m e cs x r h1 hr h3) k cs xs hxl (by omega) hx hp
   grind
  grind
end
end
section
open Go.ChangeShapes Go.WideShapes Go.ChangeAt Go.RowKit
def isAgg(P:Program)(t:TypeId):Bool:=match P.underlying t with | some (.struct _)=>true | some (.array _ _)=>true | _=>false
def tysOf(P:Program)(m:Nat):List TypeId→Option (List (Bool×Ty))
 | []=>some []
 | t::ts=>(tyOf P m t).bind fun a=>(tysOf P m ts).map fun r=>(isAgg P t,a)::r
def OkArg:Bool×Ty→AV→Prop
 | (true,ty),x=>∃cs,x=.agg cs∧Ok ty cs
 | (false,ty),x=>Ok ty [x]
def OkArgs:List (Bool×Ty)→List AV→Prop
 | [],xs=>xs=[]
 | a::r,xs=>∃x ys,xs=x::ys∧OkArg a x∧OkArgs r ys
section
variable{H:Type}{enc:TypeId×Value→H}{P:Program}{w:World}{S:Nat→Nat→Prop}
theorem ztw{m:Nat}{t:TypeId}{v:Value}{d:DataW H}{p:List MemPlace}{ty:Ty}{base:Nat}(hA:DataW.Trod enc P w 0 (fun _=>true) true t v d p)(hT:tyOf P m t=some ty)
  (hval:Value.okWide P w .any base t v) (hp:Places S p):∃x,OkArg (isAgg P t,ty) x∧CP w S v x:=by
 obtain⟨fuel,hf⟩:=hA
 obtain⟨xs,ho,hrc⟩:=zeb (S:=S) fuel m t _ _ ty hf hT hp
 have hlen:=ho.len
 cases hu:P.underlying t with
 | none=>cases m<;>simp[tyOf,hu]at hT
 | some desc=>
  have one:∀(hag:isAgg P t=false) (hz:ty.z=1) (hv:v.cells=#[v]),∃x,OkArg (isAgg P t,ty) x∧CP w S v x:=by
   intro hag hz hv
   rw[hag]
   match xs,hlen with
   | [x],_=>
    refine⟨x,ho,?_⟩
    have:=hrc.2 0 v x (by grind) rfl
    grind
   | [],h=>grind
   | _::_::_,h=>grind
  cases m with
  | zero=>simp[tyOf]at hT
  | succ m=>
  cases desc<;>simp only[tyOf,hu]at hT<;>try (cases hT;done)
  case struct fs=>
   have hag:isAgg P t=true:=by simp[isAgg,hu]
   rw[hag]
   unfold Value.okWide at hval
   rw[hu]at hval
   obtain⟨cs,rfl,hcs,_⟩:=hval
   refine⟨.agg xs,⟨xs,rfl,ho⟩,.agg cs xs ?_ ?_ ?_⟩
   ·have:=hrc.1
    simpa[Value.cells]using this.symm
   ·intro j u hu
    have hl:=hrc.1
    have hj:j<cs.size:=(Array.getElem?_eq_some_iff.1 hu).1
    have hj':j<xs.length:=by rw[hl];simpa[Value.cells]using hj
    exact(hrc.2 j u _ (by simpa[Value.cells]using hu) (List.getElem?_eq_getElem hj')).2
   ·intro j u c hu hc
    exact(hrc.2 j u c (by simpa[Value.cells]using hu) hc).1
  case array k e=>
   have hag:isAgg P t=true:=by simp[isAgg,hu]
   rw[hag]
   unfold Value.okWide at hval
   rw[hu]at hval
   obtain⟨cs,rfl,hcs,_⟩:=hval
   refine⟨.agg xs,⟨xs,rfl,ho⟩,.agg cs xs ?_ ?_ ?_⟩
   ·have:=hrc.1
    simpa[Value.cells]using this.symm
   ·intro j u hu
    have hl:=hrc.1
    have hj:j<cs.size:=(Array.getElem?_eq_some_iff.1 hu).1
    have hj':j<xs.length:=by rw[hl];simpa[Value.cells]using hj
    exact(hrc.2 j u _ (by simpa[Value.cells]using hu) (List.getElem?_eq_getElem hj')).2
   ·intro j u c hu hc
    exact(hrc.2 j u c (by simpa[Value.cells]using hu) hc).1
  case bool=>
   cases hT
   unfold Value.okWide Cell.okWide Cell.ok at hval
   refine one (by simp[isAgg,hu]) rfl ?_
   cases v<;>first | rfl | grind
  case int k=>
   cases hT
   unfold Value.okWide Cell.okWide Cell.ok at hval
   rw[hu]at hval
   refine one (by simp[isAgg,hu]) rfl ?_
   cases v<;>first | rfl | grind
  case string=>
   cases hT
   unfold Value.okWide Cell.okWide Cell.ok at hval
   rw[hu]at hval
   refine one (by simp[isAgg,hu]) rfl ?_
   cases v<;>first | rfl | grind
  case slice e=>
   obtain⟨r,hr,ht1⟩:=bind_some hT
   split at ht1<;>cases ht1
   unfold Value.okWide Cell.okWide Cell.ok at hval
   rw[hu]at hval
   refine one (by simp[isAgg,hu]) rfl ?_
   cases v<;>first | rfl | grind
theorem zjo{m base:Nat}:∀(ts:List TypeId) (vs:List Value) (ds:List (DataW H)) (p:List MemPlace) (tys:List (Bool×Ty)),DataW.TrodAll enc P w 0 (fun _=>true) true ts vs ds p→tysOf P m ts=some tys →
  (∀(j:Nat) t v,ts[j]? = some t→vs[j]? = some v→Value.okWide P w .any base t v)→Places S p →
  ∃xs,OkArgs tys xs∧vs.length=xs.length∧∀(j:Nat) (v:Value) (c:AV),vs[j]? = some v→xs[j]? = some c→CP w S v c
 | [],vs,ds,p,tys,hA,hT,hval,hp=>by
  obtain⟨rfl,_,_⟩:=trodAll_nil hA
  cases hT
  exact⟨[],rfl,rfl,fun j v c h=>by grind⟩
 | t::ts,vs,ds,p,tys,hA,hT,hval,hp=>by
  obtain⟨v,vs1,d,ds1,a,b,rfl,rfl,rfl,h1,h2⟩:=trodAll_cons hA
  obtain⟨ty,hty,hT1⟩:=bind_some hT
  obtain⟨r,hr,rfl⟩:=map_some hT1
  obtain⟨x,hx,hC⟩:=ztw (S:=S) h1 hty (hval 0 t v rfl rfl) fun k o h=>hp k o (List.mem_append_left _ h)
  obtain⟨xs,ho,hl,hc⟩:=zjo (m:=m) (base:=base) ts vs1 ds1 b r h2 hr (fun j t v ht hv=>hval (j+1) t v (by grind) (by grind)) fun k o h=>hp k o (List.mem_append_right _ h)
  refine⟨x::xs,⟨x,xs,rfl,hx,ho⟩,by grind,fun j u c hu hcc=>?_⟩
  grind
theorem zm5(hl:laidOutB P=true){W W':World}(hb:Below W.heap.size W W'){sp:Nat→Bool}:∀(ts:List TypeId) (vs:List Value) (ds:List (DataW H)) (p:List MemPlace),
  (ts.all fun t=>P.readableRec t&&decide (t<P.types.size))=true→DataW.TrodAll enc P W 0 (fun _=>true) true ts vs ds p→(∀x∈p,x.block<W.heap.size)→(∀x∈p,sp x.block=true)→DataW.TrodAll enc P W' 0 sp true ts vs ds p
 | [],_,_,_,_,hA,_,_=>by
  obtain⟨rfl,rfl,rfl⟩:=trodAll_nil hA
  exact rfl
 | t::ts,vs,ds,p,hr,hA,hlt,hsp=>by
  obtain⟨v,vs1,d,ds1,a,b,rfl,rfl,rfl,h1,h2⟩:=trodAll_cons hA
  rw[List.all_cons,Bool.and_eq_true,Bool.and_eq_true,decide_eq_true_eq]at hr
  exact⟨a,b,WideElems.Trod_stays hl hr.1.1 hr.1.2 h1 (fun x hx=>hb.same (hlt x (List.mem_append_left _ hx))) (fun x hx=>hsp x (List.mem_append_left _ hx)),
   zm5 hl hb ts vs1 ds1 b hr.2 h2 (fun x hx=>hlt x (List.mem_append_right _ hx)) (fun x hx=>hsp x (List.mem_append_right _ hx)),rfl⟩
theorem zqe:∀(ts:List TypeId) (vs:List Value) (ds:List (DataW H)) (p:List MemPlace),DataW.TrodAll enc P w 0 (fun _=>true) true ts vs ds p→ds.length=ts.length
 | [],_,_,_,hA=>by
  obtain⟨rfl,rfl,rfl⟩:=trodAll_nil hA
  rfl
 | t::ts,vs,ds,p,hA=>by
  obtain⟨v,vs1,d,ds1,a,b,rfl,rfl,rfl,h1,h2⟩:=trodAll_cons hA
  simp[zqe ts vs1 ds1 b h2]
theorem ztx{f:FuncId}{fn:Func}{s:ChangeSpec}{m tb:Nat}{tys:List (Bool×Ty)}{fresh handsOn again:Bool}(hvars:s.vars=[])(hT:tysOf P m fn.params.toList=some tys)(hl:laidOutB P=true)
  (hread:(fn.params.toList.all fun t=>P.readableRec t&&decide (t<P.types.size))=true) (hr:fn.resultTypes=#[tb]) (hb:P.underlying tb=some .bool)
  (hfn:∀ds:List (DataW H),ds.length=fn.params.toList.length→s.fn H ds={ results:=[.lit (.bool true)],args:=ds })
  (hcall:∀xs,OkArgs tys xs→PCall P f xs (·=.b true)) {W:World} {args:Array Value} {ds gs:List (DataW H)} {before:List MemPlace} {base:Nat}
  (hval:∀(j:Nat) t v,fn.params[j]? = some t→args[j]? = some v→Value.okWide P W .any base t v) (hW:DataW.Whole enc P fn.params.toList s.vars false W args.toList ds gs before) :
  Calls P f args W fun e W'=>∃v,e=.returned v∧s.post enc P fn false fresh handsOn again W args v W':=by
 have hW':=hW
 obtain⟨p,q,hA,hV,rfl,hfz,hnd⟩:=hW
 rw[hvars]at hV
 obtain⟨rfl,rfl⟩:=trodVars_none hV
 have hlt:∀x∈p,x.block<W.heap.size:=fun x hx=>hW'.lt x (List.mem_append_left _ hx)
 obtain⟨xs,ho,hlen,hC⟩:=zjo (S:=fun k o=>MemPlace.cell k o∈p) _ _ _ _ _ hA hT (fun j t v ht hv=>hval j t v (by grind) (by grind)) (fun k o h=>h)
 have hc:=(hcall xs ho).2 W (fun k o=>MemPlace.cell k o∈p) args (by omega) (fun j v c hv hc=>hC j v c (by grind) hc) (fun k o h=>hlt _ h)
 refine hc.mono fun e W' ⟨v,r,he,hrr,hbel,hCr⟩=>?_
 subst he hrr
 have hv:v=.bool true:=by cases hCr;rfl
 subst hv
 have hlf:=hfn ds (zqe _ _ _ _ hA)
 refine⟨_,rfl,zh9 (pa:=p) (pv:=[]) hW' (fun b sp hd=>?_) (fun sp hsp=>?_) (fun sp _=>?_) rfl hbel (ok_one hr rfl (okWide_bool_mk hb _))⟩
 ·rw[List.append_nil,hlf,hr]
  exact trodAll_mk1 (shut_bool hb _)
 ·grind[zm5]
 ·rw[List.append_nil,hlf,hvars]
  exact rfl
end
end
theorem zuc{P:Program}{ν:Nat→FuncId}{T:Tbl}(hT:TOk P ν T)(hm:P.follows .mixedOrders=true){u:Nat}{af:AFx}{xs ys:List AV}{r:AV}(hu:T u=some af)(hl:af.lent=none)(h:callF T u ys=some r)(hx:xs.map wkA=ys):PCall P (ν u) xs (·=r):=by
 subst hx
 have h1:=zlx hT hm hu hl h
 exact PCall.wk (ex:=false) h1
abbrev Fz:=Bool×List UInt32×List UInt32
abbrev celF(x:Fz):List AV:=[.b x.1,.sl (u32s x.2.1) .an,.sl (u32s x.2.2) .an]
abbrev efz(x:Fz):AV:=.agg (celF x)
def fv(x:Fz):Rat:=mkRat (wv x.1 x.2.1) (val x.2.2)
def fz(q:Rat):Fz:=(decide (q.num<0),ofN q.num.natAbs,ofN q.den)
@[simp] theorem zcw(q:Rat):fv (fz q)=q:=by
 unfold fv fz
 rw[zi4,zag,Rat.mkRat_self]
def fsz(x:Fz):Nat:=max x.2.1.length x.2.2.length
theorem zfk(x:Fz):x.2.1.length≤fsz x:=Nat.le_max_left ..
theorem zfl(x:Fz):x.2.2.length≤fsz x:=Nat.le_max_right ..
def sz(q:Rat):Nat:=max (ofN q.num.natAbs).length (ofN q.den).length
theorem zk9(q:Rat):(ofN q.num.natAbs).length≤sz q:=Nat.le_max_left ..
theorem zh4(q:Rat):(ofN q.den).length≤sz q:=Nat.le_max_right ..
theorem zmm{n:Nat}(h:n≠0):1≤(ofN n).length:=by
 have:ofN n≠[]:=fun e=>h (za1.1 e)
 exact List.length_pos_iff.2 this
theorem zwe(q:Rat):1≤sz q:=Nat.le_trans (zmm q.den_nz) (zh4 q)
theorem zwf{z:Int}{d:Nat}(h:d≠0):(mkRat z d).num.natAbs=z.natAbs/Nat.gcd z.natAbs d:=by
 rw[Rat.num_mkRat,if_neg h,Int.natAbs_ediv_of_dvd (Int.ofNat_dvd_left.2 (Nat.gcd_dvd_right ..)),Int.natAbs_natCast,Nat.gcd_comm]
theorem zwg{z:Int}{d:Nat}(h:d≠0):(mkRat z d).den=d/Nat.gcd z.natAbs d:=by
 rw[Rat.den_mkRat,if_neg h,Nat.gcd_comm]
theorem zwh{z:Int}{d:Nat}(h:d≠0):sgI (mkRat z d).num=sgI z:=by
 rw[Rat.num_mkRat,if_neg h]
 have hg:0<Nat.gcd d z.natAbs:=Nat.gcd_pos_of_pos_left _ (Nat.pos_of_ne_zero h)
 obtain⟨k,hk⟩:((Nat.gcd d z.natAbs:Nat):Int) ∣ z:=Int.ofNat_dvd_left.2 (Nat.gcd_dvd_right ..)
 generalize Nat.gcd d z.natAbs=g at *
 have hg':(0:Int)<g:=by omega
 subst hk
 rw[Int.mul_ediv_cancel_left _ (by omega)]
 unfold sgI
 rcases Int.lt_trichotomy k 0 with h1 | h1 | h1
 ·have:=Int.mul_neg_of_pos_of_neg hg' h1
  rw[if_pos h1,if_pos this]
 ·subst h1;simp
 ·have:=Int.mul_pos hg' h1
  rw[if_neg (by omega),if_neg (by omega),if_neg (by omega),if_neg (by omega)]
theorem zte(z:Int):decide (z<0)=decide (sgI z<0):=by
 unfold sgI
 split
 ·simp[*]
 ·split<;>simp[*]
theorem z4c{z:Int}{d:Nat}(h:d≠0):decide ((mkRat z d).num<0)=decide (z<0):=by
 rw[zte,zte z,zwh h]
theorem zach(n:Bool)(x:Nat){d:Nat}(h:d≠0):fz (mkRat (sg n x) d)=(n&&decide (x≠0),ofN (x/Nat.gcd x d),ofN (d/Nat.gcd x d)):=by
 unfold fz
 rw[z4c h,zwf h,zwg h,zwd,zk8]
theorem zfb:ofN 1=[1]:=by
 rw[zg1 (by decide),show 1/4294967296=0 from rfl,zi2]
 rfl
theorem zg5:sz 0=1:=by
 unfold sz
 rw[Rat.zero_num,Rat.zero_den,zfb]
 simp
theorem znx:sz 1=1:=by
 unfold sz
 rw[Rat.one_num,Rat.one_den,show (1:Int).natAbs=1 from rfl,zfb]
 rfl
theorem zbg(q:Rat):fsz (fz q)=sz q:=rfl
theorem zpj{z:Int}{d L:Nat}(hz:(ofN z.natAbs).length≤L)(hd:(ofN d).length≤L)(h1:1≤L):sz (mkRat z d)≤L:=by
 unfold sz
 by_cases h:d=0
 ·subst h
  rw[Rat.mkRat_zero,Rat.zero_num,Rat.zero_den,zfb]
  simp
  omega
 ·rw[zwf h,zwg h]
  exact Nat.max_le.2 ⟨Nat.le_trans (zbj (Nat.div_le_self _ _)) hz,Nat.le_trans (zbj (Nat.div_le_self _ _)) hd⟩
theorem zi6{x:Fz}{L:Nat}(h:fsz x≤L)(h1:1≤L):sz (fv x)≤L:=
 zpj (Nat.le_trans (zcn _ _) (Nat.le_trans (zfk x) h)) (Nat.le_trans (zad _) (Nat.le_trans (zfl x) h)) h1
theorem zbw{x y L M:Nat}(hx:(ofN x).length≤L)(hy:(ofN y).length≤M):(ofN (x*y)).length≤L+M:=by
 have:=za6 (x:=(x:Int)) (y:=(y:Int)) (L:=L) (M:=M) (by simpa using hx) (by simpa using hy)
 simpa[Int.natAbs_mul]using this
theorem ztf(p q:Rat):sz (p+q)≤sz p+sz q+1:=by
 rw[Rat.add_def']
 have h1:=zk9 p;have h2:=zh4 p;have h3:=zk9 q;have h4:=zh4 q;have h5:=zwe p
 refine zpj ?_ (Nat.le_trans (zbw h2 h4) (by omega)) (by omega)
 refine zcd ?_ ?_
 ·exact za6 h1 (by simpa using h4)
 ·rw[Nat.add_comm]
  exact za6 h3 (by simpa using h2)
theorem zh5(p q:Rat):sz (p*q)≤sz p+sz q:=by
 rw[Rat.mul_def']
 have h1:=zk9 p;have h2:=zh4 p;have h3:=zk9 q;have h4:=zh4 q;have h5:=zwe p
 exact zpj (za6 h1 h3) (zbw h2 h4) (by omega)
def sgQ(q:Rat):Int:=sgI q.num
theorem z4d{z:Int}{d:Nat}(h:d≠0):sgQ (mkRat z d)=sgI z:=zwh h
theorem zvm{z:Int}:sgI z=0↔z=0:=by
 unfold sgI
 split
 ·constructor<;>intro h<;>omega
 ·split<;>constructor<;>intro h<;>omega
theorem zvn{q:Rat}:sgQ q=0↔q=0:=by
 unfold sgQ
 rw[zvm,Rat.num_eq_zero]
def rowF(l:List Fz):List (List AV):=l.map celF
@[simp] theorem zbx(l:List Fz):(rowF l).length=l.length:=by simp[rowF]
@[simp] theorem zfc(l:List Fz):wkL (rowF l)=rowF l:=by rw[zbs];simp[rowF,wkR,wkA]
@[simp] theorem rowF_get?(l:List Fz)(i:Nat):(rowF l)[i]? = (l[i]?).map celF:=by simp[rowF]
@[simp] theorem z7f(l:List Fz)(i:Nat)(h:i<(rowF l).length):(rowF l)[i]=celF (l[i]'(by simpa using h)):=by simp[rowF]
theorem zg6(l:List Fz)(x:Fz):rowF l++[celF x]=rowF (l++[x]):=by simp[rowF]
theorem zvo(l:List Fz)(i:Nat)(x:Fz):(rowF l).set i (celF x)=rowF (l.set i x):=by simp[rowF,List.map_set]
@[simp] theorem z4e(l:List Fz)(n:Nat):(rowF l).take n=rowF (l.take n):=by simp[rowF]
@[simp] theorem zet:rowF []=[]:=rfl
def matF(m:List (List Fz)):List (List AV):=m.map fun r=>[.sl (rowF r) .an]
@[simp] theorem zy8(l:List (List Fz)):(matF l).length=l.length:=by simp[matF]
@[simp] theorem zy9(l:List (List Fz)):wkL (matF l)=matF l:=by rw[zbs];simp[matF,wkR,wkA]
@[simp] theorem z7g(l:List (List Fz))(i:Nat)(h:i<(matF l).length):(matF l)[i]=[.sl (rowF (l[i]'(by simpa using h))) .an]:=by simp[matF]
@[simp] theorem z4f(l:List (List Fz))(n:Nat):(matF l).take n=matF (l.take n):=by simp[matF]
@[simp] theorem zvp:matF []=[]:=rfl
abbrev tyF:Ty:=.cons .bool (.cons (.sl (.int .u32)) (.cons (.sl (.int .u32)) .nil))
theorem zoo{P:Program}{ν:Nat→FuncId}{l l':List (Nat×AFx)}(hT:TOk P ν fun u=>l'.lookup u)(hp:Part l l')(hm:P.follows .mixedOrders=true){u:Nat}{af:AFx}{xs ys:List AV}{r:AV}
  (hu:l'.lookup u=some af) (hl:af.lent=none) (h:callF (fun u=>l.lookup u) u ys=some r) (hx:xs.map wkA=ys):PCall P (ν u) xs (·=r):=
 zuc hT hm hu hl (hp.call (by rw[hu];rfl) h) hx
end Go.Ab
section
namespace Go.Proofs.YtajopjoiaogapaaGreatDoor
open Go Go.Ab Go.RowKit
def signS:ByteArray:=⟨#[43,45,42,47,94,40,41,91,93,44,59,61]⟩
theorem signS_lt:∀(p:Nat) (h:p<signS.size),(signS[p]'h).toNat<128:=by decide
theorem sign_at(c:Nat)(hc:c<256):signB.contains (UInt8.ofNat c)=decide (∃p,∃h:p<signS.size,(signS[p]'h).toNat=c):=by
 rw[Bool.eq_iff_iff,decide_eq_true_iff]
 have:∀c,c<256→(signB.contains (UInt8.ofNat c)=true↔∃p,∃h:p<signS.size,(signS[p]'h).toNat=c):=by decide +kernel
 exact this c hc
set_option maxHeartbeats 1000000 in
set_option maxRecDepth 100000 in
theorem sign_calls(c:Nat)(hc:c<256)(w:World):Calls Tryz.prog 154 #[.int .u8 (c:Int)] w fun e w'=>e=.returned (.bool (signB.contains (UInt8.ofNat c)))∧Below w.heap.size w w':=by
 rw[sign_at c hc]
 go_enter Tryz.func154,Tryz.ntmps154
 go_wp2
 go_loopw [] (fun wr=>∃pos:Nat,wr.heap[w.heap.size]? = some (.stringIter signS pos)∧Below w.heap.size w wr∧∀j,j<pos→∀h:j<signS.size,(signS[j]'h).toNat≠c) (fun wr=>signS.size-wr.iterPos w.heap.size)
 case atStart=>
  refine⟨0,World.iter_heap w signS 0,?_,fun j hj=>absurd hj (Nat.not_lt_zero _)⟩
  exact(Below.refl _ w).alloc (Nat.le_refl _) _
 case round=>
  obtain⟨pos,hit,hbw,hne⟩:=hrel
  by_cases hp:pos<signS.size
  ·have hnx:∀ty,(Instr.next (.pointer (some ⟨w.heap.size,0,none⟩)) true ty).run Tryz.prog wr=_:=fun ty=>Lib.run_next_ascii_at wr w.heap.size signS pos ty hit hp (signS_lt pos hp)
   have hit2:=Lib.iterAt_heap wr w.heap.size signS pos (pos+1) hit
   have hbw2:=Lib.below_iterAt hbw (k:=w.heap.size) (Nat.le_refl _) signS (pos+1)
   obtain⟨x,hx⟩:∃x:Nat,(signS[pos]'hp).toNat=x:=⟨_,rfl⟩
   have hx1:=signS_lt pos hp
   rw[hx]at hnx hx1
   have hwr:IntKind.u8.wrap (x:Int)=(x:Int):=by rw[IntKind.wrap_u8];omega
   by_cases hxc:x=c
   ·subst hxc
    go_wp2
    go_ret
    exact⟨by rw[decide_eq_true ⟨pos,hp,hx⟩];rfl,hbw2⟩
   ·have hxc':¬ (x:Int)=(c:Int):=by omega
    go_wp2
    go_roundw
    case rel=>
     refine⟨pos+1,hit2,hbw2,fun j hj h=>?_⟩
     rcases Nat.lt_or_ge j pos with h1 | h1
     ·exact hne j h1 h
     ·obtain rfl:j=pos:=by omega
      rw[hx]
      exact hxc
    case measure=>
     simp only[World.iterPos,hit2,hit]
     omega
  ·have hnx:∀ty,(Instr.next (.pointer (some ⟨w.heap.size,0,none⟩)) true ty).run Tryz.prog wr=_:=fun ty=>Lib.run_next_end_at wr w.heap.size signS pos ty hit hp
   go_wp2
   go_ret
   have hno:¬ ∃p,∃h:p<signS.size,(signS[p]'h).toNat=c:=by
    rintro⟨p,h,hpc⟩
    exact hne p (by omega) h hpc
   exact⟨by rw[decide_eq_false hno];rfl,hbw⟩
theorem sign_ok:∀xs r,prim187 xs=some r→PCall Tryz.prog (nu 187) xs (·=r):=by
 have e:nu 187=154:=by kernel_rfl
 rw[e]
 intro xs r h
 unfold prim187 at h
 split at h
 ·rename_i n
  split at h
  ·rename_i hn
   cases h
   refine⟨enters_of Tryz.func154 (by kernel_rfl) rfl,fun w S cargs hsz hC hS=>?_⟩
   obtain⟨v0,rfl⟩:=one_arg hsz
   have c0:v0=.int .u8 n:=by
    have:=hC 0 _ _ rfl rfl
    cases this
    rfl
   subst c0
   obtain⟨c,rfl⟩:∃c:Nat,n=c:=⟨n.toNat,by omega⟩
   refine(sign_calls c (by omega) w).mono ?_
   rintro e w' ⟨rfl,hb⟩
   refine⟨_,_,rfl,?_,hb,.b _⟩
   rw[Int.toNat_natCast]
   rfl
  ·cases h
 ·cases h
abbrev tyW:Ty:=.cons (.int .i64) (.cons .str (.cons (.int .i64) .nil))
end Go.Proofs.YtajopjoiaogapaaGreatDoor
end
namespace Go.Ab
class CSpan (T:Tbl):Prop where
end Go.Ab
section
namespace Go.Ab
end Go.Ab
end
namespace Go.Ab
section
variable{T:Tbl}
theorem zhb(G:Nat):∀y:Nat×Nat,(y.1<18446744073709551616∧y.2<18446744073709551616∧Nat.gcd y.1 y.2=G) →
  loopN T 0 0 (.norm false [0]) l198_0 ⟨[(0,u64 y.1),(1,u64 y.2)],[],2⟩=some (.n,⟨[(0,u64 G)],[],2⟩):=by
 refine za3 (fun y:Nat×Nat=>⟨[(0,u64 y.1),(1,u64 y.2)],[],2⟩) _ (fun y=>y.2) _ ?_
 rintro⟨x,y⟩ ⟨hx,hy,hG⟩
 simp only at hx hy hG ⊢
 by_cases h:y=0
 ·right
  subst h
  rw[Nat.gcd_zero_right]at hG
  subst hG
  constructor<;>simp -implicitDefEqProofs[l198_0]
 ·left
  have hm:=Nat.mod_lt x (Nat.pos_of_ne_zero h)
  refine⟨(y,x%y),⟨hy,by simp only;omega,by simp only;rw[←hG,Nat.gcd_comm y,←Nat.gcd_rec,Nat.gcd_comm]⟩,hm,?_,trivial⟩
  simp -implicitDefEqProofs[l198_0,h]
end
section
variable{T:Tbl}[CCommon T]
theorem zke(x y:Nat)(hx:x<18446744073709551616)(hy:y<18446744073709551616):callF T 198 [u64 x,u64 y]=some (u64 (Nat.gcd x y)):=by
 have h:=zhb (T:=T) (Nat.gcd x y) (x,y) ⟨hx,hy,rfl⟩
 simp only at h
 rw[f198 _ rfl,b198]
 simp -implicitDefEqProofs[h]
theorem zop(a:List UInt32):callF T 200 [.sl (u32s (ofN (val a))) .an]=some (.b (decide (val a=1))):=by
 rw[f200 _ rfl,b200]
 generalize val a=n
 by_cases h0:n=0
 ·subst h0
  simp -implicitDefEqProofs
 ·rw[zg1 h0]
  by_cases h1:n/4294967296=0
  ·have e:ofN (n/4294967296)=[]:=za1.2 h1
   have e2:n%4294967296=n:=Nat.mod_eq_of_lt (by omega)
   simp -implicitDefEqProofs[e,u32s,zc9,e2]
  ·have h2:¬ ofN (n/4294967296)=[]:=fun e=>h1 (za1.1 e)
   have h3:¬ n=1:=by rintro rfl;simp at h1
   have h4:¬ ((ofN (n/4294967296)).length:Int)+1=1:=by
    have:=List.length_pos_iff.2 h2
    omega
   simp -implicitDefEqProofs[u32s,h3,h4]
end
section
variable{T:Tbl}[CNat T][CProd T][CTwos T][CQuot T][CQuotD T][CCommon T]
theorem zud(G:Nat):∀y:List UInt32×List UInt32,(y.1.length≤90000∧y.2.length≤90000∧(∃n,y.1=ofN n)∧(∃n,y.2=ofN n)∧Nat.gcd (val y.1) (val y.2)=G) →
  ∃r,(∃a b:List UInt32,r=(Ex.n,(⟨[(0,.sl (u32s a) .an),(1,.sl (u32s b) .an)],[],2⟩:St))∧a.length≤90000∧b.length≤2∧(∃n,a=ofN n)∧(∃n,b=ofN n)∧Nat.gcd (val a) (val b)=G) ∧
   loopN T 0 0 (.norm false [0,1]) l199_0 ⟨[(0,.sl (u32s y.1) .an),(1,.sl (u32s y.2) .an)],[],2⟩=some r:=by
 refine zax (fun y:List UInt32×List UInt32=>⟨[(0,.sl (u32s y.1) .an),(1,.sl (u32s y.2) .an)],[],2⟩) _ (fun y=>val y.2) _ ?_
 rintro⟨a,b⟩ ⟨ha,hb,hk,hn,hG⟩
 simp only at ha hb hk hn hG ⊢
 by_cases h:2<b.length
 ·left
  have h':(2:Int)<b.length:=by omega
  have hv:val b≠0:=by
   obtain⟨n,rfl⟩:=hn
   rw[zag]
   rintro rfl
   simp at h
  have hd:=zeq (T:=T) a b ha hb
  rw[if_neg hv]at hd
  have hm:=Nat.mod_lt (val a) (Nat.pos_of_ne_zero hv)
  refine⟨(b,ofN (val a%val b)),⟨hb,?_,hn,⟨_,rfl⟩,?_⟩,?_,?_⟩
  ·have:=zbj (Nat.le_of_lt hm)
   have:=zad b
   simp only;omega
  ·simp only
   rw[zag,←hG,Nat.gcd_comm (val b),←Nat.gcd_rec,Nat.gcd_comm]
  ·simp only[zag]
   exact hm
  ·clear hG hm hn hv hk
   simp -implicitDefEqProofs[l199_0,h',hd]
 ·right
  have h':¬ (2:Int)<b.length:=by omega
  refine⟨_,⟨a,b,rfl,ha,by omega,hk,hn,hG⟩,?_,?_⟩<;>clear hG<;>simp -implicitDefEqProofs[l199_0,h']
theorem zlz(a b:List UInt32)(ha:a.length≤90000)(hb:b.length≤90000):callF T 199 [.sl (u32s a) .an,.sl (u32s b) .an]=some (.sl (u32s (ofN (Nat.gcd (val a) (val b)))) .an):=by
 have h1:=za4 (T:=T) a (by omega)
 have h2:=za4 (T:=T) b (by omega)
 have la:=zad a
 have lb:=zad b
 obtain⟨G,hG⟩:∃G,G=Nat.gcd (val a) (val b):=⟨_,rfl⟩
 obtain⟨_,⟨x,y,rfl,hx,hy,⟨m,rfl⟩,⟨n,rfl⟩,hg⟩,hr⟩:=zud (T:=T) G (ofN (val a),ofN (val b)) ⟨by simp only;omega,by simp only;omega,⟨_,rfl⟩,⟨_,rfl⟩,by simp only[zag];exact hG.symm⟩
 simp only at hr
 rw[zag,zag]at hg
 rw[f199 _ rfl,b199,←hG]
 clear hG
 by_cases h0:n=0
 ·subst h0
  rw[Nat.gcd_zero_right]at hg
  subst hg
  simp -implicitDefEqProofs[h1,h2,hr]
 ·have hv:val (ofN n)≠0:=by rw[zag];exact h0
  have hd:=zeq (T:=T) (ofN m) (ofN n) hx (by omega)
  rw[if_neg hv,zag,zag]at hd
  have hn64:n<18446744073709551616:=by
   have:=za2 (ofN n)
   rw[zag]at this
   exact Nat.lt_of_lt_of_le this (Nat.pow_le_pow_right (by decide) hy)
  have hm:=Nat.mod_lt m (Nat.pos_of_ne_zero h0)
  have s1:=zko (T:=T) (ofN n) (by omega)
  rw[zag,if_pos hn64]at s1
  have s2:=zko (T:=T) (ofN (m%n)) (by have:=zbj (Nat.le_of_lt hm);omega)
  rw[zag,if_pos (by omega)]at s2
  have s3:=zke (T:=T) n (m%n) hn64 (by omega)
  have e:Nat.gcd n (m%n)=G:=by rw[←hg,Nat.gcd_comm n,←Nat.gcd_rec,Nat.gcd_comm]
  rw[e]at s3
  have s4:=zdv (T:=T) G (by
   rw[←hg]
   exact Nat.lt_of_le_of_lt (Nat.gcd_le_right _ (Nat.pos_of_ne_zero h0)) hn64)
  have hl:¬ ofN n=[]:=fun e=>h0 (za1.1 e)
  simp -implicitDefEqProofs[h1,h2,hr,hd,s1,s2,s3,s4,hl,h0]
theorem zhc(a b:List UInt32)(ha:a.length≤90000)(hb:b.length≤90000):callF T 201 [.sl (u32s a) .an,.sl (u32s b) .an] =
  some (.tup [.sl (u32s (ofN (val a/Nat.gcd (val a) (val b)))) .an,.sl (u32s (ofN (val b/Nat.gcd (val a) (val b)))) .an]):=by
 have hg:=zlz (T:=T) a b ha hb
 have ho:=zop (T:=T) (ofN (Nat.gcd (val a) (val b)))
 rw[zag]at ho
 have ll:(ofN (Nat.gcd (val a) (val b))).length≤90000:=by
  by_cases h:val a=0
  ·rw[h,Nat.gcd_zero_left]
   have:=zad b
   omega
  ·have:=zbj (Nat.gcd_le_left (val b) (Nat.pos_of_ne_zero h))
   have:=zad a
   omega
 have d1:=zeq (T:=T) a (ofN (Nat.gcd (val a) (val b))) ha ll
 have d2:=zeq (T:=T) b (ofN (Nat.gcd (val a) (val b))) hb ll
 have n1:=za4 (T:=T) a (by omega)
 have n2:=za4 (T:=T) b (by omega)
 rw[zag]at d1 d2
 rw[f201 _ rfl,b201]
 by_cases h0:Nat.gcd (val a) (val b)=0
 ·rw[h0]at hg ⊢
  simp only[zi2]at hg
  simp -implicitDefEqProofs[hg]
 ·rw[if_neg h0]at d1 d2
  have hl:¬ ofN (Nat.gcd (val a) (val b))=[]:=fun e=>h0 (za1.1 e)
  by_cases h1:Nat.gcd (val a) (val b)=1
  ·rw[h1]at hg ho hl ⊢
   simp -implicitDefEqProofs[hg,ho,n1,n2,hl]
  ·generalize Nat.gcd (val a) (val b)=g at *
   simp -implicitDefEqProofs[hg,ho,d1,d2,hl,h0,h1]
end
section
variable{T:Tbl}[CWhole T]
theorem zaw(n:Bool)(k:Nat):callF T 55 [.b n,.sl (u32s (ofN k)) .an]=some (ez (sg n k)):=by
 rw[f55 _ rfl,b55,z38]
 have h:(0<(ofN k).length)=(k≠0):=by
  rw[eq_iff_iff,List.length_pos_iff]
  exact not_congr za1
 cases n<;>simp -implicitDefEqProofs[h]
end
section
variable{T:Tbl}[CNat T][CWhole T]
theorem zpd(n:Bool)(a:List UInt32)(ha:a.length≤1000000):callF T 38 [wh n a]=some (ez (wv n a)):=by
 have h:=za4 (T:=T) a (by omega)
 have hs:=zaw (T:=T) n (val a)
 rw[f38 _ rfl,b38]
 simp -implicitDefEqProofs[h,hs,wv]
end
section
variable{T:Tbl}[CNat T][CWhole T]
theorem zs7(n:Bool)(a:List UInt32)(ha:a.length≤1000000):callF T 40 [wh n a]=some (ez (-wv n a)):=by
 have h:=za4 (T:=T) a (by omega)
 have hs:=zaw (T:=T) (!n) (val a)
 rw[z39]at hs
 rw[f40 _ rfl,b40]
 simp -implicitDefEqProofs[h,hs,wv]
end
section
variable{T:Tbl}[CNat T][CWhole T]
theorem zh2(n m:Bool)(a b:List UInt32)(ha:a.length≤90000)(hb:b.length≤90000):callF T 23 [wh n a,wh m b]=some (ez (wv n a+wv m b)):=by
 rw[f23 _ rfl,b23]
 by_cases h:n=m
 ·subst h
  have hn:=znm (T:=T) [a,b] (by simp) (by simp;omega)
  have hs:=zaw (T:=T) n (val a+val b)
  rw[zml]at hs
  have e:lls [a,b]=[[.sl (u32s a) .an],[.sl (u32s b) .an]]:=rfl
  have e2:sumL [a,b]=val a+val b:=by simp[sumL]
  rw[e,e2]at hn
  simp -implicitDefEqProofs[hn,hs,wv]
 ·have hg:=zx6 (T:=T) a b (by omega) (by omega)
  by_cases hlt:val a<val b
  ·have hs:=zaw (T:=T) m (val b-val a)
   rw[ztc h hlt]at hs
   simp -implicitDefEqProofs[h,hg,hlt,zc8,hs,wv]
  ·have hs:=zaw (T:=T) n (val a-val b)
   rw[ztd h hlt]at hs
   simp -implicitDefEqProofs[h,hg,hlt,zc8,hs,wv]
end
section
variable{T:Tbl}[CNat T][CWhole T]
theorem zpe(n m:Bool)(a b:List UInt32)(ha:a.length≤90000)(hb:b.length≤90000):callF T 25 [wh n a,wh m b]=some (ez (wv n a-wv m b)):=by
 obtain⟨z,hz⟩:∃z,z=-wv m b:=⟨_,rfl⟩
 have h1:=zs7 (T:=T) m b (by omega)
 have hl:=zcn m b
 rw[←zg4,←hz]at hl
 have h2:=zh2 (T:=T) n (decide (z<0)) a (ofN z.natAbs) (by omega) (by omega)
 have e:wv n a-wv m b=wv n a+z:=by omega
 rw[zi4,←e]at h2
 rw[←hz]at h1
 rw[f25 _ rfl,b25]
 simp -implicitDefEqProofs[h1,h2]
end
section
variable{T:Tbl}[CProd T][CWhole T]
theorem zk5(n m:Bool)(a b:List UInt32)(ha:a.length≤100000)(hb:b.length≤100000):callF T 27 [wh n a,wh m b]=some (ez (wv n a*wv m b)):=by
 have h1:=zep (T:=T) a b ha hb
 have hs:=zaw (T:=T) (n != m) (val a*val b)
 rw[z4a]at hs
 rw[f27 _ rfl,b27]
 simp -implicitDefEqProofs[h1,hs,wv]
end
section
variable{T:Tbl}[CNat T][CWhole T]
theorem zpf(n:Bool)(a:List UInt32)(ha:a.length≤1000000):callF T 37 [wh n a]=some (.i .i64 (sgI (wv n a))):=by
 have h1:=ziq (T:=T) a (by omega)
 rw[f37 _ rfl,b37]
 unfold wv
 rw[z4b]
 by_cases h:val a=0
 ·simp -implicitDefEqProofs[h1,h]
 ·cases n<;>simp -implicitDefEqProofs[h1,h]
end
section
variable{T:Tbl}[CNat T][CWhole T]
theorem zpg(n m:Bool)(a b:List UInt32)(ha:a.length≤90000)(hb:b.length≤90000):callF T 36 [wh n a,wh m b]=some (.i .i64 (sgI (wv n a-wv m b))):=by
 have h1:=zpe (T:=T) n m a b ha hb
 have hl:=zcd (x:=wv n a) (y:=-wv m b) (L:=90000) (by have:=zcn n a;omega) (by rw[zg4];have:=zcn m b;omega)
 rw[←Int.sub_eq_add_neg]at hl
 have h2:=zpf (T:=T) (decide (wv n a-wv m b<0)) (ofN (wv n a-wv m b).natAbs) (show (ofN (wv n a-wv m b).natAbs).length≤1000000 by omega)
 rw[zi4]at h2
 rw[f36 _ rfl,b36]
 simp -implicitDefEqProofs[h1,h2]
end
section
variable{T:Tbl}[CNat T][CWhole T]
theorem zvj(k:Int)(h1:-9223372036854775808≤k)(h2:k<9223372036854775808):callF T 41 [.i .i64 k]=some (ez k):=by
 rw[f41 _ rfl,b41]
 by_cases h:k<0
 ·have hn:=zdv (T:=T) k.natAbs (by omega)
  have hs:=zaw (T:=T) true k.natAbs
  have e:sg true k.natAbs=k:=by simp[sg];omega
  have e2:sub64 0 (k%18446744073709551616).toNat=k.natAbs:=by unfold sub64;omega
  rw[e]at hs
  simp -implicitDefEqProofs[h,e2,hn,hs]
 ·have hn:=zdv (T:=T) k.natAbs (by omega)
  have hs:=zaw (T:=T) false k.natAbs
  have e:sg false k.natAbs=k:=by simp[sg];omega
  have e2:(k%18446744073709551616).toNat=k.natAbs:=by omega
  rw[e]at hs
  simp -implicitDefEqProofs[h,e2,hn,hs]
end
section
variable{T:Tbl}[CProd T][CDigits T][CWhole T]
theorem zph(l:List UInt8)(hl:l.length≤1000000):callF T 32 [.s l]=some (.tup (if 0≤wrongZ l then [wh false [],.agg [.i .i64 1,.i .i64 0,.i .i64 0,.i .i64 (wrongZ l+minus l)]]
  else [ez (readZ l),.agg [.i .i64 0,.i .i64 0,.i .i64 0,.i .i64 0]])):=by
 have h1:=zrd (T:=T) l hl
 obtain⟨l',hl'⟩:∃l',l'=if l.head? = some 45 then l.tail else l:=⟨_,rfl⟩
 have hl2:l'.length≤1000000:=by
  rw[hl']
  split
  ·simp;omega
  ·exact hl
 have h2:=zgl (T:=T) l' hl2
 have hs:=zaw (T:=T) (l.head? = some 45) (rd l')
 have hm:(l.length:Int)-l'.length=minus l:=by
  rw[hl']
  unfold minus
  split
  ·rename_i h
   cases l with
   | nil=>cases h
   | cons c r=>simp;omega
  ·omega
 unfold wrongZ readZ
 rw[←hl']at h1 ⊢
 have hw1:IntKind.wrap .i64 ((l.length:Int)-l'.length)=minus l:=by rw[hm];exact zab _ (by unfold minus;split<;>omega)
 rw[f32 _ rfl,b32]
 have hwb:wrongI l'≤60:=by
  unfold wrongI
  split
  ·omega
  ·exact zg2 0 l' (by omega)
 by_cases h0:0≤wrongI l'
 ·have hw2:IntKind.wrap .i64 (wrongI l'+minus l)=wrongI l'+minus l:=zab _ (by unfold minus;split<;>omega)
  simp -implicitDefEqProofs[h1,h2,h0,hw1,hw2,zly]
 ·simp -implicitDefEqProofs[h1,h2,h0,hs]
end
section
variable{T:Tbl}[CNat T][CProd T][CTwos T][CQuot T][CQuotD T][CWhole T][CCommon T][CFrac T]
theorem zl0(p q:Int)(hp:(ofN p.natAbs).length≤90000)(hq:(ofN q.natAbs).length≤90000):callF T 23 [ez p,ez q]=some (ez (p+q)):=by
 grind[zh2,zi4]
theorem zl1(p q:Int)(hp:(ofN p.natAbs).length≤90000)(hq:(ofN q.natAbs).length≤90000):callF T 36 [ez p,ez q]=some (.i .i64 (sgI (p-q))):=by
 grind[zpg,zi4]
theorem zos{x d:Nat}(h:d≠0):decide (x/Nat.gcd x d≠0)=decide (x≠0):=by
 obtain⟨k,hk⟩:=Nat.gcd_dvd_left x d
 grind[Nat.mul_div_cancel_left,Nat.mul_eq_zero]
theorem zck(n:Bool)(a d:List UInt32)(ha:a.length≤90000)(hd:d.length≤90000)(h:val d≠0) :
  callF T 202 [wh n a,.sl (u32s d) .an]=some (efz (fz (mkRat (wv n a) (val d)))):=by
 have e:=zach n (val a) h
 change fz (mkRat (wv n a) (val d))=_ at e
 have hc:=zhc (T:=T) a d ha hd
 have hl:(ofN (val a/Nat.gcd (val a) (val d))).length≤1000000:=by
  have:=zbj (Nat.div_le_self (val a) (Nat.gcd (val a) (val d)))
  have:=zad a
  omega
 have hn:=zpd (T:=T) n _ hl
 have e2:wv n (ofN (val a/Nat.gcd (val a) (val d)))=sg n (val a/Nat.gcd (val a) (val d)):=by unfold wv;rw[zag]
 rw[e2,z38,zos h]at hn
 rw[e,f202 _ rfl,b202]
 simp -implicitDefEqProofs[hc,hn]
theorem zl2(n:Bool)(a d:List UInt32)(ha:a.length≤10000)(hd:d.length≤10000)(h:val d≠0) :
  callF T 202 [wh n a,.sl (u32s d) .an]=some (efz (fz (mkRat (wv n a) (val d)))):=zck (T:=T) n a d (Nat.le_trans ha (by decide)) (Nat.le_trans hd (by decide)) h
theorem zbu(x:Fz)(hx:fsz x≤100000):∃y:Fz,val y.2.2≠0∧fv y=fv x∧fsz y≤max 1 (fsz x)∧callF T 203 [efz x]=some (.tup [wh y.1 y.2.1,.sl (u32s y.2.2) .an]):=by
 obtain⟨n,a,d⟩:=x
 have h1:=zfk (n,a,d)
 have h2:=zfl (n,a,d)
 simp only at h1 h2
 have hz:=ziq (T:=T) d (by omega)
 by_cases h:val d=0
 ·refine⟨(false,[],[1]),by simp,?_,?_,?_⟩
  ·unfold fv
   simp only[h,Rat.mkRat_zero]
   rfl
  ·show 1≤_
   omega
  ·have ho:=zdv (T:=T) 1 (by decide)
   rw[zfb]at ho
   rw[f203 _ rfl,b203]
   simp -implicitDefEqProofs[hz,h,ho]
 ·refine⟨(n,a,d),h,rfl,by omega,?_⟩
  rw[f203 _ rfl,b203]
  simp -implicitDefEqProofs[hz,h]
theorem zl3(k:Int)(h1:-9223372036854775808≤k)(h2:k<9223372036854775808):callF T 205 [.i .i64 k]=some (efz (fz (k:Rat))):=by
 have hw:=zvj (T:=T) k h1 h2
 have ho:=zdv (T:=T) 1 (by decide)
 have e:fz (k:Rat)=(decide (k<0),ofN k.natAbs,ofN 1):=rfl
 rw[e,f205 _ rfl,b205]
 simp -implicitDefEqProofs[hw,ho]
theorem zcl:callF T 205 [.i .i64 0]=some (efz (fz 0)):=zl3 0 (by decide) (by decide)
theorem zil:callF T 205 [.i .i64 1]=some (efz (fz 1)):=zl3 1 (by decide) (by decide)
theorem zot(x:Fz)(hx:fsz x≤90000):callF T 207 [efz x]=some (efz (fz (fv x))):=by
 obtain⟨⟨n,a,d⟩,h1,h2,h3,hp⟩:=zbu (T:=T) x (by omega)
 have la:=zfk (n,a,d)
 have ld:=zfl (n,a,d)
 simp only at la ld
 have hc:=zck (T:=T) n a d (by omega) (by omega) h1
 rw[←h2]
 change _=some (efz (fz (mkRat (wv n a) (val d))))
 rw[f207 _ rfl,b207]
 simp -implicitDefEqProofs[hp,hc]
theorem zrh(x:Fz)(hx:fsz x≤10000):callF T 207 [efz x]=some (efz (fz (fv x))):=zot (T:=T) x (Nat.le_trans hx (by decide))
theorem zc7(n:Bool)(a d:List UInt32)(ha:a.length≤90000)(hd:d.length≤90000):callF T 210 [wh n a,.sl (u32s d) .an]=some (ez (wv n a*(val d:Int))):=by
 have hm:=zk5 (T:=T) n false a d (by omega) (by omega)
 rw[show wv false d=(val d:Int) from rfl]at hm
 rw[f210 _ rfl,b210]
 simp -implicitDefEqProofs[hm]
theorem zri(x x':Fz)(hx:fsz x≤30000)(hx':fsz x'≤30000):callF T 211 [efz x,efz x']=some (.i .i64 (sgQ (fv x-fv x'))):=by
 obtain⟨⟨n,a,d⟩,h1,h2,h3,hp⟩:=zbu (T:=T) x (by omega)
 obtain⟨⟨m,b,e⟩,h1',h2',h3',hp'⟩:=zbu (T:=T) x' (by omega)
 have la:=zfk (n,a,d)
 have ld:=zfl (n,a,d)
 have lb:=zfk (m,b,e)
 have le:=zfl (m,b,e)
 simp only at la ld lb le
 have c1:=zc7 (T:=T) n a e (by omega) (by omega)
 have c2:=zc7 (T:=T) m b d (by omega) (by omega)
 have l1:(ofN (wv n a*(val e:Int)).natAbs).length≤60000:=by
  have:=za6 (x:=wv n a) (y:=(val e:Int)) (L:=30000) (M:=30000) (Nat.le_trans (zcn n a) (by omega)) (Nat.le_trans (zcn false e) (by omega))
  omega
 have l2:(ofN (wv m b*(val d:Int)).natAbs).length≤60000:=by
  have:=za6 (x:=wv m b) (y:=(val d:Int)) (L:=30000) (M:=30000) (Nat.le_trans (zcn m b) (by omega)) (Nat.le_trans (zcn false d) (by omega))
  omega
 have e1:sgQ (fv x-fv x')=sgI (wv n a*(val e:Int)-wv m b*(val d:Int)):=by
  rw[←h2,←h2',Rat.sub_eq_add_neg]
  unfold fv
  rw[Rat.neg_mkRat,Rat.mkRat_add_mkRat _ _ h1 h1',z4d (Nat.mul_ne_zero h1 h1'),Int.neg_mul]
  rfl
 generalize wv n a*(val e:Int)=z1 at *
 generalize wv m b*(val d:Int)=z2 at *
 have c3:=zl1 (T:=T) z1 z2 (by omega) (by omega)
 rw[e1,f211 _ rfl,b211]
 simp -implicitDefEqProofs[hp,hp',c1,c2,c3]
theorem zht(x x':Fz)(hx:fsz x≤30000)(hx':fsz x'≤30000):callF T 212 [efz x,efz x']=some (.b (decide (fv x=fv x'))):=by
 have hc:=zri (T:=T) x x' hx hx'
 have e:(sgQ (fv x-fv x') == 0)=decide (fv x=fv x'):=by
  grind[zvn]
 rw[f212 _ rfl,b212]
 simp -implicitDefEqProofs[hc,e]
theorem zgm(x x':Fz)(hx:fsz x≤1000)(hx':fsz x'≤1000):callF T 212 [efz x,efz x']=some (.b (decide (fv x=fv x'))):=zht (T:=T) x x' (Nat.le_trans hx (by decide)) (Nat.le_trans hx' (by decide))
theorem zgn(x x':Fz)(hx:fsz x≤30000)(hx':fsz x'≤30000):callF T 215 [efz x,efz x']=some (efz (fz (fv x+fv x'))):=by
 obtain⟨⟨n,a,d⟩,h1,h2,h3,hp⟩:=zbu (T:=T) x (by omega)
 obtain⟨⟨m,b,e⟩,h1',h2',h3',hp'⟩:=zbu (T:=T) x' (by omega)
 have la:=zfk (n,a,d)
 have ld:=zfl (n,a,d)
 have lb:=zfk (m,b,e)
 have le:=zfl (m,b,e)
 simp only at la ld lb le
 have c1:=zc7 (T:=T) n a e (by omega) (by omega)
 have c2:=zc7 (T:=T) m b d (by omega) (by omega)
 have c4:=zep (T:=T) d e (by omega) (by omega)
 have l1:(ofN (wv n a*(val e:Int)).natAbs).length≤60000:=by
  have:=za6 (x:=wv n a) (y:=(val e:Int)) (L:=30000) (M:=30000) (Nat.le_trans (zcn n a) (by omega)) (Nat.le_trans (zcn false e) (by omega))
  omega
 have l2:(ofN (wv m b*(val d:Int)).natAbs).length≤60000:=by
  have:=za6 (x:=wv m b) (y:=(val d:Int)) (L:=30000) (M:=30000) (Nat.le_trans (zcn m b) (by omega)) (Nat.le_trans (zcn false d) (by omega))
  omega
 have l3:(ofN (val d*val e)).length≤60000:=by
  have:=zbw (x:=val d) (y:=val e) (L:=30000) (M:=30000) (Nat.le_trans (zad d) (by omega)) (Nat.le_trans (zad e) (by omega))
  omega
 have e1:fv x+fv x'=mkRat (wv n a*(val e:Int)+wv m b*(val d:Int)) (val d*val e):=by
  rw[←h2,←h2']
  exact Rat.mkRat_add_mkRat _ _ h1 h1'
 have hne:=Nat.mul_ne_zero h1 h1'
 generalize wv n a*(val e:Int)=z1 at *
 generalize wv m b*(val d:Int)=z2 at *
 generalize val d*val e=D at *
 have c3:=zl0 (T:=T) z1 z2 (by omega) (by omega)
 have c5:=zck (T:=T) (decide (z1+z2<0)) (ofN (z1+z2).natAbs) (ofN D) (by have:=zcd l1 l2;omega) (by omega) (by rw[zag];omega)
 rw[zi4,zag,←e1]at c5
 rw[f215 _ rfl,b215]
 simp -implicitDefEqProofs[hp,hp',c1,c2,c3,c4,c5]
theorem zuh(x x':Fz)(hx:fsz x≤1000)(hx':fsz x'≤1000):callF T 215 [efz x,efz x']=some (efz (fz (fv x+fv x'))):=zgn (T:=T) x x' (Nat.le_trans hx (by decide)) (Nat.le_trans hx' (by decide))
theorem zej(x x':Fz)(hx:fsz x≤30000)(hx':fsz x'≤30000):callF T 217 [efz x,efz x']=some (efz (fz (fv x*fv x'))):=by
 obtain⟨⟨n,a,d⟩,h1,h2,h3,hp⟩:=zbu (T:=T) x (by omega)
 obtain⟨⟨m,b,e⟩,h1',h2',h3',hp'⟩:=zbu (T:=T) x' (by omega)
 have la:=zfk (n,a,d)
 have ld:=zfl (n,a,d)
 have lb:=zfk (m,b,e)
 have le:=zfl (m,b,e)
 simp only at la ld lb le
 have c3:=zk5 (T:=T) n m a b (by omega) (by omega)
 have c4:=zep (T:=T) d e (by omega) (by omega)
 have l1:(ofN (wv n a*wv m b).natAbs).length≤60000:=by
  have:=za6 (x:=wv n a) (y:=wv m b) (L:=30000) (M:=30000) (Nat.le_trans (zcn n a) (by omega)) (Nat.le_trans (zcn m b) (by omega))
  omega
 have l3:(ofN (val d*val e)).length≤60000:=by
  have:=zbw (x:=val d) (y:=val e) (L:=30000) (M:=30000) (Nat.le_trans (zad d) (by omega)) (Nat.le_trans (zad e) (by omega))
  omega
 have e1:fv x*fv x'=mkRat (wv n a*wv m b) (val d*val e):=by
  rw[←h2,←h2']
  exact Rat.mkRat_mul_mkRat _ _ _ _
 have hne:=Nat.mul_ne_zero h1 h1'
 generalize wv n a*wv m b=z at *
 generalize val d*val e=D at *
 have c5:=zck (T:=T) (decide (z<0)) (ofN z.natAbs) (ofN D) (by omega) (by omega) (by rw[zag];omega)
 rw[zi4,zag,←e1]at c5
 rw[f217 _ rfl,b217]
 simp -implicitDefEqProofs[hp,hp',c3,c4,c5]
end
def nrm(l:List Fz):List Fz:=l.map fun x=>fz (fv x)
def fzs(l:List Rat):List Fz:=l.map fz
theorem zkz{m:List Fz}{n:Nat}(h:m.length=n)(x:Fz):wkL (rowF (List.take n m)++[celF x])=rowF (m++[x]):=by
 rw[List.take_of_length_le (by omega),zg6,zfc]
@[simp] theorem z3y:rowsT []=[]:=rfl
def textQ(q:Rat):List UInt8:=if q.den=1 then textZ q.num else textZ q.num++47::textN q.den
section
variable{T:Tbl}[CNat T][CProd T][CTwos T][CQuot T][CQuotD T][CText T][CWhole T][CCommon T][CFrac T][CJoin T][CRow T]
def stZe(n i:Nat):St:=⟨[(3,.bs (.loc 9) 1 3 0 n),(10,.i .i64 n),(11,.i .i64 i)],[(.loc 9,⟨1,.own,3,rowF (List.replicate i (fz 0))++List.replicate (n-i) [.b false,.sl [] .an,.sl [] .an]⟩)],3⟩
def stNm(l:List Fz)(i:Nat):St:=⟨[(3,.bs (.loc 3) 1 3 0 i),(6,.sl (rowF l) .an),(7,.i .i64 l.length),(8,.i .i64 i)],[(.loc 3,⟨1,.own,3,rowF (nrm (l.take i))⟩)],3⟩
def scl(c:Rat)(l:List Fz):List Fz:=l.map fun x=>fz (c*fv x)
def stSl(c:Fz)(l:List Fz)(i:Nat):St:=⟨[(2,.ptr (.loc 2) 1 3 0 0),(5,.bs (.loc 5) 2 3 0 i),(8,.sl (rowF l) .an),(9,.i .i64 l.length),(10,.i .i64 i)],[(.loc 2,⟨1,.str,3,[celF c]⟩),(.loc 5,⟨2,.own,3,rowF (scl (fv c) (l.take i))⟩)],4⟩
def dotQ:List Fz→List Fz→Rat
 | x::a,y::b=>fv x*fv y+dotQ a b
 | _,_=>0
def dotK(a b:List Fz)(i:Nat):Rat:=dotQ (a.take i) (b.take i)
theorem zk0:∀(a b:List Fz) (x y:Fz),a.length=b.length→dotQ (a++[x]) (b++[y])=dotQ a b+fv x*fv y
 | [],[],x,y,_=>by simp[dotQ,Rat.add_zero,Rat.zero_add]
 | u::a,v::b,x,y,h=>by
  have ih:=zk0 a b x y (by simpa using h)
  simp only[List.cons_append,dotQ,ih,Rat.add_assoc]
theorem zgv{a b:List Fz}(hab:a.length=b.length){i:Nat}(hi:i<a.length):dotK a b (i+1)=dotK a b i+fv (a[i]'hi)*fv (b[i]'(by omega)):=by
 grind[dotK,List.take_succ_eq_append_getElem,zk0]
abbrev nocell:List AV:=[.b false,.sl [] .an,.sl [] .an]
def stDt(a b:List Fz)(i:Nat):St:=⟨[(1,.sl (rowF b) .an),(4,.ptr (.loc 4) 1 3 0 0),(6,.ptr (.loc 6) 2 3 0 0),(16,.sl (rowF a) .an),(17,.i .i64 a.length),(18,.i .i64 i)],
 [(.loc 4,⟨1,.str,3,[nocell]⟩),(.loc 6,⟨2,.str,3,[celF (fz (dotK a b i))]⟩)],4⟩
def stSm(a b:List Fz)(i:Nat):St:=⟨[(0,.sl (rowF a) .an),(1,.sl (rowF b) .an),(12,.i .i64 a.length),(13,.i .i64 i)],[],2⟩
def txts(l:List Fz):List (List UInt8):=l.map fun x=>textQ (fv x)
def stTt(l:List Fz)(i:Nat):St:=⟨[(3,.bs (.loc 3) 1 1 0 i),(6,.sl (rowF l) .an),(7,.i .i64 l.length),(8,.i .i64 i)],[(.loc 3,⟨1,.own,1,rowsT (txts (l.take i))⟩)],3⟩
end
theorem zu9{α:Type}{L acc:List α}(hl:L.length=acc.length){i:Nat}(h:i<L.length) :
  (L.take i++acc.drop i).set i (L[i]'h)=L.take (i+1)++acc.drop (i+1):=by
 rw[List.set_append_right _ _ (by simp;omega),List.length_take,Nat.min_eq_left (by omega),Nat.sub_self,List.drop_eq_getElem_cons (show i<acc.length by omega),List.set_cons_zero,List.take_succ_eq_append_getElem h,List.append_assoc]
 rfl
theorem zyo{α:Type}{L acc:List α}(hl:L.length=acc.length){i:Nat}(h:i<L.length):(L.take i++acc.drop i)[i]? = some (acc[i]'(by omega)):=by
 rw[List.getElem?_append_right (by simp;omega),List.length_take,Nat.min_eq_left (by omega),Nat.sub_self,List.getElem?_drop,Nat.add_zero,List.getElem?_eq_getElem]
theorem zsd{l:List Rat}{i:Nat}{q:Rat}(h:l[i]? = some q):(fzs l)[i]? = some (fz q):=by
 unfold fzs
 rw[List.getElem?_map,h]
 rfl
theorem zyp(l:List Rat)(i:Nat)(q:Rat):(fzs l).set i (fz q)=fzs (l.set i q):=by
 unfold fzs
 rw[List.map_set]
@[simp] theorem zat(l:List Rat):(fzs l).length=l.length:=by simp[fzs]
def mixP(c:Rat)(acc:List Rat)(r:List Fz):List Rat:=List.zipWith (fun q x=>q+c*fv x) acc r
def addP(acc:List Rat)(r:List Fz):List Rat:=List.zipWith (fun q x=>q+fv x) acc r
section
variable{T:Tbl}[CNat T][CProd T][CTwos T][CQuot T][CQuotD T][CText T][CWhole T][CCommon T][CFrac T][CJoin T][CRow T]
def stAi(k j n:Nat)(rest:List (List Fz))(r:List Fz)(L acc:List Rat)(i:Nat):St:=
 ⟨[(4,.bs (.fld (.loc 15) 3) 1 3 0 n),(17,.sl (matF rest) .an),(18,.i .i64 k),(19,.i .i64 j),(28,.sl (rowF r) .an),(29,.i .i64 n),(30,.i .i64 i)],
  [(.fld (.loc 15) 3,⟨1,.own,3,rowF (fzs (L.take i++acc.drop i))⟩)],3⟩
def stAo(n:Nat)(rest:List (List Fz))(acc:List Rat)(j:Nat):St:=
 ⟨[(4,.bs (.fld (.loc 15) 3) 1 3 0 n),(17,.sl (matF rest) .an),(18,.i .i64 rest.length),(19,.i .i64 j)],[(.fld (.loc 15) 3,⟨1,.own,3,rowF (fzs ((rest.take j).foldl addP acc))⟩)],3⟩
end
def mixF(p:List (Fz×List Fz))(acc:List Rat):List Rat:=p.foldl (fun a q=>mixP (fv q.1) a q.2) acc
section
variable{T:Tbl}[CNat T][CProd T][CTwos T][CQuot T][CQuotD T][CText T][CWhole T][CCommon T][CFrac T][CJoin T][CRow T]
def stMi(C:List Fz)(k j n:Nat)(l:List (List Fz))(r:List Fz)(L acc:List Rat)(i:Nat):St:=
 ⟨[(0,.sl (rowF C) .an),(10,.bs (.fld (.loc 40) 9) 1 3 0 n),(11,.i .i64 k),(41,.sl (matF l) .an),(42,.i .i64 j),(43,.i .i64 k),(54,.sl (rowF r) .an),(55,.i .i64 n),(56,.i .i64 i)],
  [(.fld (.loc 40) 9,⟨1,.own,3,rowF (fzs (L.take i++acc.drop i))⟩)],3⟩
def stMo(C:List Fz)(n:Nat)(l:List (List Fz))(acc:List Rat)(k:Nat):St:=
 ⟨[(0,.sl (rowF C) .an),(10,.bs (.fld (.loc 40) 9) 1 3 0 n),(41,.sl (matF l) .an),(42,.i .i64 l.length),(43,.i .i64 k)],[(.fld (.loc 40) 9,⟨1,.own,3,rowF (fzs (mixF ((C.zip l).take k) acc))⟩)],3⟩
def stMc(C:List Fz)(l:List (List Fz))(n i:Nat):St:=⟨[(0,.sl (rowF C) .an),(1,.sl (matF l) .an),(2,.i .i64 n),(28,.sl (matF l) .an),(29,.i .i64 l.length),(30,.i .i64 i)],[],2⟩
end
abbrev agS(t h:Fz)(y0 y1 f0 f1:List Fz):AV:=
 .agg [.b t.1,.sl (u32s t.2.1) .an,.sl (u32s t.2.2) .an,.b h.1,.sl (u32s h.2.1) .an,.sl (u32s h.2.2) .an,.sl (rowF y0) .an,.sl (rowF y1) .an,.sl (rowF f0) .an,.sl (rowF f1) .an]
def prodQ(l:List Fz):Rat:=l.foldl (fun p x=>p*fv x) 1
section
variable{T:Tbl}[CNat T][CProd T][CTwos T][CQuot T][CQuotD T][CText T][CWhole T][CCommon T][CFrac T][CJoin T][CRow T][CSpan T]
def stTm(l:List Fz)(i:Nat):St:=⟨[(2,.ptr (.loc 2) 1 3 0 0),(3,.ptr (.loc 3) 2 3 0 0),(7,.sl (rowF l) .an),(8,.i .i64 l.length),(9,.i .i64 i)],[(.loc 2,⟨1,.str,3,[nocell]⟩),(.loc 3,⟨2,.str,3,[celF (fz (prodQ (l.take i)))]⟩)],4⟩
def rightS(h:Fz)(y0 y1 f0 f1:List Fz):Bool:=decide (0<fv h)&&decide (y0.length≤300)&&decide (y1.length=y0.length)&&decide (f0.length=y0.length)&&decide (f1.length=y0.length)
end
abbrev tyS:Ty:=.cons tyF (.cons tyF (.cons (.sl tyF) (.cons (.sl tyF) (.cons (.sl tyF) (.cons (.sl tyF) .nil)))))
class CRef5 (T:Tbl):Prop where
end Go.Ab
section
namespace Go.Ab
end Go.Ab
end
namespace Go.Ab
class CRef11 (T:Tbl):Prop where
class CRef09 (T:Tbl):Prop where
class CRef06 (T:Tbl):Prop where
class CRef02 (T:Tbl):Prop where
section
variable{T:Tbl}[CRef02 T]
def atW(a:List UInt32)(i:Nat):Nat:=(a[i]?.map UInt32.toNat).getD 0
end
section
variable{T:Tbl}[CRef02 T]
def stAdd2(a b:List UInt32)(n:Nat)(y:Nat×Nat×List UInt32):St:=
 ⟨[(0,.sl (u32s a) .an),(1,.sl (u32s b) .an),(5,.i .i64 n),(6,.bs (.loc 16) 1 1 0 n),(7,u64 y.2.1),(8,.i .i64 y.1)],[(.loc 16,⟨1,.own,1,u32s y.2.2⟩)],3⟩
def stSub2(a b:List UInt32)(n:Nat)(y:Nat×Nat×List UInt32):St:=
 ⟨[(0,.sl (u32s a) .an),(1,.sl (u32s b) .an),(5,.i .i64 n),(6,.bs (.loc 17) 1 1 0 n),(7,u64 y.2.1),(8,.i .i64 y.1)],[(.loc 17,⟨1,.own,1,u32s y.2.2⟩)],3⟩
end
class CRef04 (T:Tbl):Prop extends CRef02 T where
section
variable{T:Tbl}[CRef04 T]
def stIn4(P S a b:List UInt32)(y:Nat×Nat×List UInt32):St:=
 ⟨[(0,.sl (u32s a) .an),(1,.sl (u32s b) .an),(5,.bs (.loc 14) 1 1 0 (P.length+S.length)),(6,.i .i64 P.length),(7,u64 y.2.1),(8,.i .i64 y.1)],[(.loc 14,⟨1,.own,1,u32s (P++(y.2.2++S.drop y.1))⟩)],3⟩
end
section
variable{T:Tbl}[CRef04 T]
def stMul4(a b:List UInt32)(y:Nat×List UInt32):St:=
 ⟨[(0,.sl (u32s a) .an),(1,.sl (u32s b) .an),(5,.bs (.loc 14) 1 1 0 (a.length+b.length)),(6,.i .i64 y.1)],[(.loc 14,⟨1,.own,1,u32s (y.2++List.replicate (a.length-y.1) 0)⟩)],3⟩
end
class CRef05 (T:Tbl):Prop extends CRef04 T where
section
variable{T:Tbl}[CRef05 T]
def stDb(a:List UInt32)(y:Nat×Nat×List UInt32):St:=
 ⟨[(0,.bs (.bor 0) 0 1 0 a.length),(4,u32 y.2.1),(5,.i .i64 y.1)],[(.bor 0,⟨0,.own,1,u32s (y.2.2++a.drop y.1)⟩)],4⟩
end
section
variable{T:Tbl}[CRef05 T]
def stLs(a b:List UInt32)(y:Nat×Nat×List UInt32):St:=
 ⟨[(0,.bs (.bor 0) 0 1 0 a.length),(1,.sl (u32s b) .an),(4,u64 y.2.1),(5,.i .i64 y.1)],[(.bor 0,⟨0,.own,1,u32s (y.2.2++a.drop y.1)⟩)],4⟩
def stHs(x i:Nat)(y:Nat):St:=⟨[(1,.i .i64 i),(5,u32 (x/2^y)),(6,.i .i64 y)],[],2⟩
end
section
variable{T:Tbl}[CRef05 T]
def stLn(a:List UInt32)(y:Nat):St:=⟨[(0,.sl (u32s a) .an),(3,.i .i64 y)],[],2⟩
end
section
variable{T:Tbl}[CRef05 T]
def stDv(a b:List UInt32)(y:Nat×List UInt32×List UInt32):St:=
 ⟨[(0,.sl (u32s a) .an),(1,.sl (u32s b) .an),(6,.bs (.loc 11) 1 1 0 a.length),(7,.bs (.loc 15) 2 1 0 (b.length+1)),(8,.i .i64 ((y.1:Int)-1))],[(.loc 11,⟨1,.own,1,u32s y.2.1⟩),(.loc 15,⟨2,.own,1,u32s y.2.2⟩)],4⟩
end
class CRef07 (T:Tbl):Prop extends CRef05 T where
section
variable{T:Tbl}[CRef07 T]
def stTen(N:Nat)(y:Nat×Nat×List UInt32)(P:List UInt32):St:=
 ⟨[(0,.bs (.bor 0) 0 1 0 N),(3,u64 y.2.1),(4,.i .i64 ((y.1:Int)-1))],[(.bor 0,⟨0,.own,1,u32s (P.take y.1++y.2.2)⟩)],4⟩
end
section
variable{T:Tbl}[CRef07 T]
def stTx(b:BId)(x:List UInt32)(s:List UInt8):St:=⟨[(3,.bs b 1 1 0 x.length),(4,.s s)],[(b,⟨1,.own,1,u32s x⟩)],3⟩
end
section
variable{T:Tbl}
def stDw(Q:List UInt32)(o n s i:Nat):St:=⟨[(0,.bs (.bor 0) 0 1 o n),(1,.i .i64 s),(5,.i .i64 i)],[(.bor 0,⟨0,.own,1,u32s Q⟩)],4⟩
end
section
variable{T:Tbl}[CRef02 T][CRef04 T][CRef05 T][CRef07 T][CRef06 T]
def stLw(Q R:List UInt32)(o n o2 n2 c i:Nat):St:=⟨[(0,.bs (.bor 0) 0 1 o n),(1,.bs (.bor 1) 1 1 o2 n2),(4,u64 c),(5,.i .i64 i)],[(.bor 0,⟨0,.own,1,u32s Q⟩),(.bor 1,⟨1,.own,1,u32s R⟩)],6⟩
def nmX:BId:=.fld (.loc 12) 22
def nmY:BId:=.fld (.loc 14) 22
def nm2(f:Bool):BId×BId:=if f then (nmX,nmY) else (nmY,nmX)
def stGc(f:Bool)(P a S P2 b S2:List UInt32)(m n:Nat):St:=
 ⟨[(5,.bs (nm2 f).1 1 1 P.length a.length),(6,.bs (nm2 f).2 2 1 P2.length b.length),(7,.i .i64 m),(8,.i .i64 n)],[((nm2 f).1,⟨1,.own,1,u32s (P++(a++S))⟩),((nm2 f).2,⟨2,.own,1,u32s (P2++(b++S2))⟩)],4⟩
structure Gc where
 f:Bool
 P:List UInt32
 S:List UInt32
 P2:List UInt32
 S2:List UInt32
 X:Nat
 Y:Nat
end
class CRef08 (T:Tbl):Prop extends CRef07 T where
end Go.Ab
section
namespace Go.Ab
end Go.Ab
end
section
namespace Go.Ab
end Go.Ab
end
namespace Go.Ab
section
variable{T:Tbl}[CRef02 T][CRef04 T][CRef05 T][CRef07 T][CRef06 T][CRef08 T][CRef09 T][CRef11 T]
def stZ1(n i:Nat):St:=⟨[(0,.i .i64 n),(3,.bs (.loc 3) 1 3 0 i),(4,.i .i64 i)],[(.loc 3,⟨1,.own,3,rowF (List.replicate i (fz 0))⟩)],3⟩
def stN1(l:List Fz)(i:Nat):St:=⟨[(0,.sl (rowF l) .an),(3,.bs (.loc 3) 1 3 0 i),(4,.i .i64 i)],[(.loc 3,⟨1,.own,3,rowF (nrm (l.take i))⟩)],3⟩
def stS1(a b:List Fz)(i:Nat):St:=⟨[(0,.sl (rowF a) .an),(1,.sl (rowF b) .an),(5,.i .i64 i)],[],2⟩
def stA1(p q:List Rat)(i:Nat):St:=⟨[(0,.sl (rowF (fzs p)) .an),(1,.sl (rowF (fzs q)) .an),(5,.bs (.loc 5) 1 3 0 i),(6,.i .i64 i)],[(.loc 5,⟨1,.own,3,rowF (fzs ((addP p (fzs q)).take i))⟩)],3⟩
def stD1(p q:List Rat)(i:Nat):St:=⟨[(0,.sl (rowF (fzs p)) .an),(1,.sl (rowF (fzs q)) .an),(4,.ptr (.loc 4) 1 3 0 0),(5,.ptr (.loc 5) 2 3 0 0),(6,.i .i64 i)],
 [(.loc 4,⟨1,.str,3,[nocell]⟩),(.loc 5,⟨2,.str,3,[celF (fz (dotK (fzs p) (fzs q) i))]⟩)],4⟩
def longB(l:List Fz)(many words:Nat):Bool:=decide (many<l.length) || l.any fun x=>decide (words<fsz x)
def stL1(l:List Fz)(many words:Nat)(i:Nat):St:=⟨[(0,.sl (rowF l) .an),(1,.i .i64 many),(2,.i .i64 words),(7,.i .i64 i)],[],2⟩
end
def cap300(n:Int):Nat:=(min (max n 0) 300).toNat
section
variable{T:Tbl}[CNat T][CProd T][CTwos T][CQuot T][CQuotD T][CText T][CWhole T][CCommon T][CFrac T][CJoin T][CRow T]
def unitR(n i:Int):List Rat:=if 0≤i∧i<cap300 n then (List.replicate (cap300 n) 0).set i.toNat 1 else List.replicate (cap300 n) 0
end
section
variable{T:Tbl}[CRef02 T][CRef04 T][CRef05 T][CRef07 T][CRef06 T][CRef08 T][CRef09 T][CRef11 T]
def stZ1x(n:Int)(i:Nat):St:=⟨[(0,.i .i64 n),(3,.bs (.loc 3) 1 3 0 i),(4,.i .i64 i)],[(.loc 3,⟨1,.own,3,rowF (List.replicate i (fz 0))⟩)],3⟩
end
class CGrid (T:Tbl):Prop where
class CLaw09 (T:Tbl):Prop where
class CLaw11 (T:Tbl):Prop where
section
variable{T:Tbl}[CRef02 T][CRef04 T][CRef05 T][CRef07 T][CRef06 T][CRef08 T][CRef09 T][CRef11 T][CLaw09 T][CLaw11 T]
def stTo11(l:List Fz)(i:Nat):St:=⟨[(0,.sl (rowF l) .an),(3,.bs (.loc 3) 1 3 0 i),(4,.i .i64 i)],[((.loc 3),⟨1,.own,3,rowF (l.take i)⟩)],3⟩
def stOf11(l:List Fz)(i:Nat):St:=⟨[(0,.sl (rowF l) .an),(3,.bs (.loc 3) 1 3 0 i),(4,.i .i64 i)],[((.loc 3),⟨1,.own,3,rowF (l.take i)⟩)],3⟩
end
def widthM:List (List Fz)→Nat
 | []=>0
 | r::_=>r.length
def rightM(m:List (List Fz)):Bool:=m.all fun r=>decide (r.length=widthM m)
def colM(m:List (List Fz))(j:Nat):List Fz:=m.map fun r=>r.getD j (false,[],[])
def turnM(m:List (List Fz))(k:Nat):List (List Fz):=(List.range k).map fun j=>nrm (colM m j)
def scM(r:List Fz)(m:List (List Fz)):List (List Fz):=List.zipWith (fun x row=>scl (fv x) row) r m
def sumM:List (List Fz)→List Rat
 | []=>[]
 | r::m=>m.foldl addP (r.map fv)
def leftQ(r:List Fz)(m:List (List Fz)):List Rat:=sumM (scM r m)
def applyQ(m:List (List Fz))(c:List Fz):List Rat:=m.map fun r=>dotQ r c
section
variable{T:Tbl}[CNat T][CProd T][CTwos T][CQuot T][CQuotD T][CText T][CWhole T][CCommon T][CFrac T][CJoin T][CRow T][CGrid T]
def stGrR(m:List (List Fz))(i:Nat):St:=⟨[(0,.sl (matF m) .an),(5,.sl (matF m) .an),(6,.i .i64 m.length),(7,.i .i64 i)],[],2⟩
def stGrS(a b:List (List Fz))(i:Nat):St:=⟨[(1,.sl (matF b) .an),(12,.sl (matF a) .an),(13,.i .i64 a.length),(14,.i .i64 i)],[],2⟩
def idQ(k:Nat)(i:Nat):List (List Fz):=(List.range i).map fun j=>fzs ((List.replicate k 0).set j 1)
def stGrI(k:Nat)(i:Nat):St:=⟨[(0,.i .i64 k),(3,.bs (.loc 3) 1 1 0 i),(8,.i .i64 k),(9,.i .i64 i)],[((.loc 3),⟨1,.own,1,matF (idQ k i)⟩)],3⟩
def stGrT(m R:List (List Fz))(k j:Nat)(i:Nat):St:=⟨[(0,.sl (matF m) .an),(3,.bs (.loc 3) 1 1 0 j),(4,.i .i64 j),(5,.bs (.loc 5) 2 3 0 i),(12,.i .i64 k),(13,.i .i64 j),(16,.sl (matF m) .an),(17,.i .i64 m.length),(18,.i .i64 i)],[(.loc 3,⟨1,.own,1,matF R⟩),((.loc 5),⟨2,.own,3,rowF (nrm (colM (m.take i) j))⟩)],4⟩
def stTo12t(m:List (List Fz))(k:Nat)(i:Nat):St:=⟨[(0,.sl (matF m) .an),(3,.bs (.loc 3) 1 1 0 i),(12,.i .i64 k),(13,.i .i64 i)],[((.loc 3),⟨1,.own,1,matF (turnM m i)⟩)],3⟩
end
section
variable{T:Tbl}[CNat T][CProd T][CTwos T][CQuot T][CQuotD T][CText T][CWhole T][CCommon T][CFrac T][CJoin T][CRow T][CGrid T]
def stGrL(r:List Fz)(m:List (List Fz))(i:Nat):St:=⟨[(0,.sl (rowF r) .an),(6,.bs (.loc 6) 1 1 0 i),(19,.sl (matF m) .an),(20,.i .i64 m.length),(21,.i .i64 i)],[((.loc 6),⟨1,.own,1,matF (scM (r.take i) (m.take i))⟩)],3⟩
def stGrA(m:List (List Fz))(c:List Fz)(i:Nat):St:=⟨[(1,.sl (rowF c) .an),(6,.bs (.loc 6) 1 3 0 i),(21,.sl (matF m) .an),(22,.i .i64 m.length),(23,.i .i64 i)],[((.loc 6),⟨1,.own,3,rowF (fzs (applyQ (m.take i) c))⟩)],3⟩
def mulM(a b:List (List Fz)):List (List Fz):=a.map fun r=>fzs (leftQ r b)
def stGrM(a m:List (List Fz))(i:Nat):St:=⟨[(1,.sl (matF m) .an),(6,.bs (.loc 6) 1 1 0 i),(26,.sl (matF a) .an),(27,.i .i64 a.length),(28,.i .i64 i)],[((.loc 6),⟨1,.own,1,matF (mulM (a.take i) m)⟩)],3⟩
def addM(a b:List (List Fz)):List (List Fz):=List.zipWith (fun r s=>fzs (addP (r.map fv) s)) a b
def stGrP(a m:List (List Fz))(i:Nat):St:=⟨[(1,.sl (matF m) .an),(6,.bs (.loc 6) 1 1 0 i),(33,.sl (matF a) .an),(34,.i .i64 a.length),(35,.i .i64 i)],[((.loc 6),⟨1,.own,1,matF (addM (a.take i) (m.take i))⟩)],3⟩
end
def dotR:List Rat→List Rat→Rat
 | x::a,y::b=>x*y+dotR a b
 | _,_=>0
def valM(m:List (List Fz)):List (List Rat):=m.map fun r=>r.map fv
def fzM(L:List (List Rat)):List (List Fz):=L.map fzs
def widthQ:List (List Rat)→Nat
 | []=>0
 | r::_=>r.length
def rightQ(L:List (List Rat)):Bool:=L.all fun r=>decide (r.length=widthQ L)
def colQ(L:List (List Rat))(j:Nat):List Rat:=L.map fun p=>p.getD j 0
def turnQ(L:List (List Rat)):List (List Rat):=(List.range (widthQ L)).map (colQ L)
def applyR(L:List (List Rat))(c:List Rat):List Rat:=L.map fun p=>dotR p c
def leftR(r:List Rat)(L:List (List Rat)):List Rat:=applyR (turnQ L) r
def absQ(q:Rat):Rat:=if q<0 then -q else q
def sclR(c:Rat)(l:List Rat):List Rat:=l.map fun x=>c*x
def addR(a b:List Rat):List Rat:=List.zipWith (· + ·) a b
def maxStep(b x:Rat):Rat:=if b<absQ x then absQ x else b
def normR(l:List Rat):Rat:=l.foldl maxStep 0
def mixR:List (Rat×List Rat)→List Rat→List Rat
 | [],acc=>acc
 | p::l,acc=>mixR l (addR acc (sclR p.1 p.2))
def sqC:List UInt32→Nat
 | []=>0
 | x::r=>4294967296*(x.toNat*val r)+4294967296*4294967296*sqC r
def sqD:List UInt32→Nat
 | []=>0
 | x::r=>x.toNat*x.toNat+4294967296*4294967296*sqD r
theorem zv6:∀a:List UInt32,2*sqC a+sqD a=val a*val a
 | []=>rfl
 | x::r=>by
  have ih:=zv6 r
  simp only[sqC,sqD,zap]
  grind
theorem zku(i:Nat):4294967296^(2*i+2)=4294967296^(2*i)*(4294967296*4294967296):=by
 rw[Nat.pow_add]
theorem zkv{x L:Nat}(h:(ofN x).length≤L):(ofN (x*2^1)).length≤L+1:=by
 refine zae ?_
 have h1:=za2 (ofN x)
 rw[zag]at h1
 have h2:4294967296^(ofN x).length≤4294967296^L:=Nat.pow_le_pow_right (by decide) h
 omega
section
variable{T:Tbl}[CLimb T][CNat T][CProd T][CTwos T][CPow T]
theorem zfq(a:List UInt32)(ha:a.length≤1000000):callF T 356 [.sl (u32s a) .an]=some (.i .i64 (blen (val a))):=by
 have h1:=za4 (T:=T) a (by omega)
 have hl:=zad a
 have hv:val (ofN (val a))=val a:=zag _
 rw[f356 _ rfl,b356]
 by_cases h0:val a=0
 ·have e:ofN (val a)=[]:=za1.2 h0
  have eb:blen (val a)=0:=by rw[h0];rfl
  rw[e]at h1
  rw[eb]
  simp -implicitDefEqProofs[h1]
 ·have hne:ofN (val a)≠[]:=fun h=>h0 (za1.1 h)
  obtain⟨B,x,hB⟩:∃B x,ofN (val a)=B++[x]:=⟨_,_,(List.dropLast_concat_getLast hne).symm⟩
  have hx0:x.toNat≠0:=by
   intro hx
   have e1:val (ofN (val a))=val B:=by
    rw[hB,zai]
    simp[hx]
   have e2:ofN (val B)=ofN (val a):=by rw[←e1,zag]
   have e3:=zad B
   rw[e2,hB]at e3
   simp at e3
   omega
  have hlog:blen (val a)=32*B.length+blen x.toNat:=by
   have hdiv:val a/2^(32*B.length)=x.toNat:=by
    have e1:val a=val B+4294967296^B.length*x.toNat:=by
     rw[←hv,hB,zai]
     simp
    have e2:2^(32*B.length)=4294967296^B.length:=by
     rw[Nat.pow_mul]
    have e3:=za2 B
    rw[e2,e1,Nat.add_mul_div_left _ _ (by omega),Nat.div_eq_of_lt e3,Nat.zero_add]
   have:=zhv (n:=val a) (s:=32*B.length) (by rw[hdiv];exact hx0)
   rw[hdiv]at this
   exact this
  have hbl:B.length+1≤1000000:=by
   have:=congrArg List.length hB
   simp at this
   omega
  have hL:=znl (T:=T) x
  have hb32:blen x.toNat≤32:=by
   have hx:=zal x
   unfold blen
   split
   ·omega
   ·have:=(Nat.log2_lt (n:=x.toNat) (k:=32) (by assumption)).2 (by omega)
    omega
  rw[hB]at h1
  rw[hlog]
  have w2:IntKind.wrap .i64 (32*(B.length:Int))=32*(B.length:Int):=zab _ (by omega)
  have w3:IntKind.wrap .i64 (32*(B.length:Int)+(blen x.toNat:Int))=32*(B.length:Int)+(blen x.toNat:Int):=zab _ (by omega)
  have w4:IntKind.wrap .i64 (B.length:Int)=B.length:=zab _ (by omega)
  have n1:¬ (B.length:Int)+1=0:=by omega
  have n2:(B.length:Int)<(B.length:Int)+1:=by omega
  simp -implicitDefEqProofs[h1,hL,w2,w3,w4,n1,n2]
def stSqA(a X:List UInt32)(i:Nat):St:=
 ⟨[(0,.sl (u32s a) .an),(3,.bs (.loc 14) 1 1 0 (2*a.length+1)),(15,.sl (u32s a) .an),(16,.i .i64 a.length),(17,.i .i64 i)],[(.loc 14,⟨1,.own,1,u32s (X++List.replicate (a.length+1-i) 0)⟩)],3⟩
theorem zu1(a:List UInt32)(ha:a.length≤100000):∀y:Nat×List UInt32,
  (y.1≤a.length∧y.2.length=a.length+y.1∧val y.2+4294967296^(2*y.1)*sqC (a.drop y.1)=sqC a) →
  ∃r,(∃out:List UInt32,r=(Ex.n,(⟨[(0,.sl (u32s a) .an),(3,.bs (.loc 14) 1 1 0 (2*a.length+1))],[(.loc 14,⟨1,.own,1,u32s out⟩)],3⟩:St))∧out.length=2*a.length+1∧val out=sqC a) ∧
   loopN T 0 0 (.norm false [0,3]) l357_0 (stSqA a y.2 y.1)=some r:=by
 refine zax _ _ (fun y=>a.length-y.1) _ ?_
 rintro⟨i,X⟩ ⟨hi,hX,hv⟩
 simp only at hi hX hv
 by_cases h0:i<a.length
 ·left
  have hw:IntKind.wrap .i64 ((i:Int)+1)=((i+1:Nat):Int):=zab _ (by omega)
  have hw2:IntKind.wrap .i64 (2*(i:Int))=2*(i:Int):=zab _ (by omega)
  have hw3:IntKind.wrap .i64 (2*(i:Int)+1)=((2*i+1:Nat):Int):=zab _ (by omega)
  have hdl:(a.drop (i+1)).length=a.length-(i+1):=List.length_drop
  obtain⟨m,hm1,hm2,hc⟩:=zis (T:=T) (X.take (2*i+1)) (X.drop (2*i+1)++List.replicate (a.length+1-i) 0) (a.drop (i+1)) (a[i]'h0).toNat 0 (zal _) (by decide) (by simp;omega) (by simp;omega)
  have e1:X.take (2*i+1)++(X.drop (2*i+1)++List.replicate (a.length+1-i) 0)=X++List.replicate (a.length+1-i) 0:=by rw[←List.append_assoc,List.take_append_drop]
  have e2:(X.take (2*i+1)).length=2*i+1:=by simp;omega
  have e3:(X.drop (2*i+1)++List.replicate (a.length+1-i) 0).length=2*a.length+1-(2*i+1):=by simp;omega
  have e4:2*i+1+(2*a.length+1-(2*i+1))=2*a.length+1:=by omega
  have e5:(X.drop (2*i+1)++List.replicate (a.length+1-i) 0).drop ((a.drop (i+1)).length+1)=List.replicate (a.length+1-(i+1)) 0:=by
   rw[List.drop_append,List.drop_of_length_le (by simp;omega),List.drop_replicate]
   simp only[List.nil_append,List.length_drop]
   congr 1
   omega
  have e6:(X.drop (2*i+1)++List.replicate (a.length+1-i) 0).take (a.drop (i+1)).length=X.drop (2*i+1):=by
   rw[List.take_append_of_le_length (by simp;omega),List.take_of_length_le (by simp;omega)]
  rw[e1,e2,e3,e4,e5]at hc
  refine⟨(i+1,X.take (2*i+1)++m),⟨h0,by simp only[List.length_append,e2,hm1];omega,?_⟩,by omega,?_⟩
  ·simp only
   have e7:=zai (X.take (2*i+1)) (X.drop (2*i+1))
   rw[List.take_append_drop,e2]at e7
   rw[List.drop_eq_getElem_cons h0]at hv
   simp only[sqC]at hv
   rw[zai,e2,hm2]
   have p1:4294967296^(2*i+1)=4294967296^(2*i)*4294967296:=Nat.pow_succ ..
   have p2:4294967296^(2*(i+1))=4294967296^(2*i)*(4294967296*4294967296):=zku i
   rw[p1]at e7 ⊢
   rw[p2,←hv,e7]
   generalize 4294967296^(2*i)=q
   generalize val (a.drop (i+1))=v
   generalize sqC (a.drop (i+1))=w
   generalize (4294967296:Nat)=p
   grind
  ·have hle:(i:Int)+1≤a.length:=by omega
   have hm3:((2*i+1:Nat):Int)=2*(i:Int)+1:=by omega
   rw[hm3]at hc hw3
   simp -implicitDefEqProofs[l357_0,stSqA,h0,hw,hw2,hw3,hc,hle]
 ·right
  have:i=a.length:=by omega
  subst this
  refine⟨_,⟨X++List.replicate (a.length+1-a.length) 0,rfl,by simp;omega,by rw[zai,za5];simp[sqC]at hv;simp[hv]⟩,?_,?_⟩<;>simp -implicitDefEqProofs[l357_0,stSqA]
def stSqD(a X:List UInt32)(U:List (List AV))(i:Nat):St:=
 ⟨[(6,.sl U .an),(7,.bs (.loc 38) 1 1 0 (2*a.length)),(39,.sl (u32s a) .an),(40,.i .i64 a.length),(41,.i .i64 i)],[(.loc 38,⟨1,.own,1,u32s (X++List.replicate (2*a.length-2*i) 0)⟩)],3⟩
theorem zu2(a:List UInt32)(U:List (List AV))(hU:wkL U=U)(ha:a.length≤100000):∀y:Nat×List UInt32,
  (y.1≤a.length∧y.2.length=2*y.1∧val y.2+4294967296^(2*y.1)*sqD (a.drop y.1)=sqD a) →
  ∃r,(∃out:List UInt32,r=(Ex.n,(⟨[(6,.sl U .an),(7,.bs (.loc 38) 1 1 0 (2*a.length))],[(.loc 38,⟨1,.own,1,u32s out⟩)],3⟩:St))∧out.length=2*a.length∧val out=sqD a) ∧
   loopN T 0 2 (.norm false [6,7]) l357_1 (stSqD a y.2 U y.1)=some r:=by
 refine zax _ _ (fun y=>a.length-y.1) _ ?_
 rintro⟨i,X⟩ ⟨hi,hX,hv⟩
 simp only at hi hX hv
 by_cases h0:i<a.length
 ·left
  have hm:=znj (T:=T) (a[i]'h0) (a[i]'h0) 0 0
  obtain⟨hi_,hhi⟩:∃h:UInt32,h=w32 (((a[i]'h0).toNat*(a[i]'h0).toNat+(0:UInt32).toNat+(0:UInt32).toNat)/4294967296):=⟨_,rfl⟩
  obtain⟨lo_,hlo⟩:∃h:UInt32,h=w32 ((a[i]'h0).toNat*(a[i]'h0).toNat+(0:UInt32).toNat+(0:UInt32).toNat):=⟨_,rfl⟩
  rw[←hhi,←hlo]at hm
  have hx:=zal (a[i]'h0)
  have hval:lo_.toNat+4294967296*hi_.toNat=(a[i]'h0).toNat*(a[i]'h0).toNat:=by
   have hlt:=zgp hx hx
   have e0:(0:UInt32).toNat=0:=rfl
   rw[hlo,hhi,za7,za7,e0]
   omega
  have hw:IntKind.wrap .i64 ((i:Int)+1)=((i+1:Nat):Int):=zab _ (by omega)
  have hw2:IntKind.wrap .i64 (2*(i:Int))=2*(i:Int):=zab _ (by omega)
  have hw3:IntKind.wrap .i64 (2*(i:Int)+1)=2*(i:Int)+1:=zab _ (by omega)
  have e1:(X++List.replicate (2*a.length-2*i) (0:UInt32))=X++0::0::List.replicate (2*a.length-2*(i+1)) 0:=by
   rw[show 2*a.length-2*i=(2*a.length-2*(i+1))+1+1 by omega,List.replicate_succ,List.replicate_succ]
  have e2:((X++0::0::List.replicate (2*a.length-2*(i+1)) (0:UInt32)).set (2*i+1) hi_).set (2*i) lo_=X++[lo_,hi_]++List.replicate (2*a.length-2*(i+1)) 0:=by
   rw[List.set_append_right _ _ (by omega),List.set_append_right _ _ (by omega),hX,Nat.sub_self,show 2*i+1-2*i=1 by omega]
   simp
  refine⟨(i+1,X++[lo_,hi_]),⟨h0,by simp;omega,?_⟩,by omega,?_⟩
  ·simp only
   rw[List.drop_eq_getElem_cons h0]at hv
   simp only[sqD]at hv
   rw[zai,hX]
   simp only[zap,zbl,Nat.mul_zero,Nat.add_zero]
   have p2:4294967296^(2*(i+1))=4294967296^(2*i)*(4294967296*4294967296):=zku i
   rw[p2,←hv,←hval]
   generalize 4294967296^(2*i)=q
   generalize sqD (a.drop (i+1))=w
   generalize (4294967296:Nat)=p
   grind
  ·unfold stSqD
   rw[e1,←e2]
   have hl:(X++0::0::List.replicate (2*a.length-2*(i+1)) (0:UInt32)).length=2*a.length:=by simp;omega
   generalize (X++0::0::List.replicate (2*a.length-2*(i+1)) (0:UInt32))=B at *
   have s1:(u32s B).set (2*i+1) [u32 hi_.toNat]=u32s (B.set (2*i+1) hi_):=by simp[u32s,List.map_set]
   have s2:(u32s (B.set (2*i+1) hi_)).set (2*i) [u32 lo_.toNat]=u32s ((B.set (2*i+1) hi_).set (2*i) lo_):=by simp[u32s,List.map_set]
   have b1:2*i+1<2*a.length:=by omega
   have b2:2*i<2*a.length:=by omega
   have b3:2*(i:Int)+1<2*(a.length:Int):=by omega
   have b5:(0:Int)≤2*(i:Int)+1:=by omega
   have b6:(0:Int)≤2*(i:Int):=by omega
   have b7:(2*(i:Int)+1).toNat=2*i+1:=by omega
   have b8:(2*(i:Int)).toNat=2*i:=by omega
   have z0:(0:UInt32).toNat=0:=rfl
   rw[z0]at hm
   have hl2:((B.set (2*i+1) hi_)).length=2*a.length:=by simp[hl]
   simp -implicitDefEqProofs[l357_1,h0,hw,hw2,hw3,hm,hl,s1,s2,b1,b2,b3,b5,b6,b7,b8,hl2,hU]
 ·right
  have:i=a.length:=by omega
  subst this
  refine⟨_,⟨X++List.replicate (2*a.length-2*a.length) 0,rfl,by simp;omega,by simp[sqD]at hv;simp[hv]⟩,?_,?_⟩<;>simp -implicitDefEqProofs[l357_1,stSqD,hU]
theorem zmc(a:List UInt32)(ha:a.length≤4000):callF T 357 [.sl (u32s a) .an]=some (.sl (u32s (ofN (val a*val a))) .an):=by
 obtain⟨_,⟨out,rfl,ho,hv⟩,hr⟩:=zu1 (T:=T) a (by omega) (0,List.replicate a.length 0) ⟨Nat.zero_le _,by simp,by simp[za5]⟩
 unfold stSqA at hr
 have hup:=zy1 (T:=T) out 1 (by decide) (by omega)
 rw[Int.natCast_one]at hup
 have hupl:(ofN (val out*2^1)).length≤10000:=by
  have h1:=zad out
  have h2:=zkv (x:=val out) (L:=out.length) (by omega)
  omega
 obtain⟨_,⟨dg,rfl,hd,hdv⟩,hr2⟩:=zu2 (T:=T) a (u32s (ofN (val out*2^1))) (by simp) (by omega) (0,[]) ⟨Nat.zero_le _,rfl,by simp⟩
 unfold stSqD at hr2
 have hn:=zry (T:=T) [ofN (val out*2^1),dg] (by simp) (by
  intro x hx
  simp only[List.mem_cons,List.not_mem_nil,or_false]at hx
  rcases hx with rfl | rfl<;>omega)
 have e1:lls [ofN (val out*2^1),dg]=[[.sl (u32s (ofN (val out*2^1))) .an],[.sl (u32s dg) .an]]:=rfl
 have e2:sumL [ofN (val out*2^1),dg]=val a*val a:=by
  simp only[sumL,List.map_cons,List.map_nil,zag,List.sum_cons,List.sum_nil,hv,hdv]
  have:=zv6 a
  omega
 rw[e1,e2]at hn
 simp only[Int.natCast_zero,List.nil_append,Nat.sub_zero,Nat.mul_zero]at hr hr2
 have e3:List.replicate a.length (0:UInt32)++List.replicate (a.length+1) 0=List.replicate (2*a.length+1) 0:=by
  rw[List.replicate_append_replicate]
  congr 1
  omega
 rw[e3]at hr
 have w1:IntKind.wrap .i64 (2*(a.length:Int))=2*(a.length:Int):=zab _ (by omega)
 have w2:IntKind.wrap .i64 (2*(a.length:Int)+1)=2*(a.length:Int)+1:=zab _ (by omega)
 have n1:(0:Int)≤2*(a.length:Int)+1:=by omega
 have n2:2*(a.length:Int)+1≤4294967296:=by omega
 have n3:(0:Int)≤2*(a.length:Int):=by omega
 have n4:2*(a.length:Int)≤4294967296:=by omega
 have n5:(2*(a.length:Int)+1).toNat=2*a.length+1:=by omega
 have n6:(2*(a.length:Int)).toNat=2*a.length:=by omega
 have t1:List.take (2*a.length+1) out=out:=List.take_of_length_le (by omega)
 have t2:List.take (2*a.length) dg=dg:=List.take_of_length_le (by omega)
 rw[f357 _ rfl,b357]
 simp -implicitDefEqProofs[w1,w2,n1,n2,n3,n4,n5,n6,hr,ho,t1,hup,hr2,hd,t2,hn]
end
theorem zyh(e m:Nat)(hm:m≤63):binV .shr (.i .i64 (e:Int)) (.i .i64 (m:Int))=some (.i .i64 ((e/2^m:Nat):Int)):=by
 have h1:¬ (m:Int)<0:=by omega
 have h2:min m 64=m:=by omega
 simp only[binV,IntKind.bits,h1,if_false,Int.toNat_natCast,h2]
 rw[Int.fdiv_eq_ediv_of_nonneg _ (Int.le_of_lt (Int.pow_pos (by decide)))]
 norm_cast
theorem zyi(k:Nat)(hk:k<9223372036854775808):binV .and (.i .i64 (k:Int)) (.i .i64 1)=some (.i .i64 ((k%2:Nat):Int)):=by
 show some (AV.i .i64 (IntKind.wrap .i64 ((BitVec.ofInt 64 (k:Int) &&& BitVec.ofInt 64 1).toNat:Int)))=_
 have h1:(BitVec.ofInt 64 (k:Int)).toNat=k:=by
  rw[BitVec.ofInt_natCast,BitVec.toNat_ofNat]
  omega
 have h2:(BitVec.ofInt 64 1).toNat=1:=rfl
 rw[BitVec.toNat_and,h1,h2,Nat.and_one_is_mod,zab _ (by omega)]
theorem zr6(e m:Nat):e/2^m=2*(e/2^(m+1))+e/2^m%2:=by
 rw[Nat.pow_succ,←Nat.div_div_eq_div_mul]
 omega
theorem znp(x e:Nat)(h:e*blen x≤65536):(ofN (x^e)).length≤2048:=by
 by_cases h1:x^e=0
 ·rw[h1]
  have:ofN 0=[]:=za1.2 rfl
  rw[this]
  decide
 by_cases hx:x=0
 ·subst hx
  cases e with
  | zero=>exact Nat.le_trans (zae (k:=1) (by decide)) (by decide)
  | succ e=>simp at h1
 ·refine zae ?_
  generalize hk:(2048:Nat)=k
  have h2:x<2^blen x:=by
   unfold blen
   rw[if_neg hx]
   exact Nat.lt_log2_self
  have h5:∀m,(2:Nat)^(32*m)=4294967296^m:=fun m=>by rw[Nat.pow_mul]
  cases e with
  | zero=>exact Nat.one_lt_pow (by omega) (by decide)
  | succ e=>
   have h3:x^(e+1)<(2^blen x)^(e+1):=Nat.pow_lt_pow_left h2 (by omega)
   rw[←Nat.pow_mul,Nat.mul_comm]at h3
   refine Nat.lt_of_lt_of_le h3 ?_
   rw[←h5]
   exact Nat.pow_le_pow_right (by decide) (by omega)
theorem zr7{e:Nat}(h:e<9223372036854775808):blen e≤63:=by
 unfold blen
 split
 ·omega
 ·next h0=>
  have:=(Nat.log2_lt (n:=e) (k:=63) h0).2 h
  omega
theorem zu3(e:Nat):e/2^blen e=0:=by
 unfold blen
 split
 ·next h=>simp[h]
 ·exact Nat.div_eq_of_lt Nat.lt_log2_self
section
variable{T:Tbl}[CLimb T][CNat T][CProd T][CTwos T][CPow T]
theorem zu4(a:List UInt32)(e:Nat)(ha:a.length≤3000)(he:e<9223372036854775808)(hb:e*blen (val a)≤65536):∀b:Nat,b≤63 →
  loopN T 0 0 (.norm false [7]) l258_0 ⟨[(0,.sl (u32s a) .an),(1,.i .i64 e),(7,.sl (u32s (ofN (val a^(e/2^b)))) .an),(8,.i .i64 ((b:Int)-1))],[],2⟩ =
   some (.n,⟨[(7,.sl (u32s (ofN (val a^e))) .an)],[],2⟩):=by
 refine za3 (fun b:Nat=>⟨[(0,.sl (u32s a) .an),(1,.i .i64 e),(7,.sl (u32s (ofN (val a^(e/2^b)))) .an),(8,.i .i64 ((b:Int)-1))],[],2⟩) (fun b=>b≤63) (fun b=>b) (fun _=>_) ?_
 intro b hb63
 cases b with
 | zero=>
  right
  rw[Nat.pow_zero,Nat.div_one]
  constructor<;>simp -implicitDefEqProofs[l258_0]
 | succ m=>
  left
  have hs:=zr6 e m
  have hmul:∀k,k≤e→k*blen (val a)≤65536:=fun k hk=>Nat.le_trans (Nat.mul_le_mul_right _ hk) hb
  have hd0:e/2^m≤e:=Nat.div_le_self _ _
  have l1:=znp (val a) (e/2^(m+1)) (hmul _ (Nat.div_le_self _ _))
  have l2:=znp (val a) (2*(e/2^(m+1))) (hmul _ (by omega))
  have c1:=zmc (T:=T) (ofN (val a^(e/2^(m+1)))) (by omega)
  rw[zag,←Nat.pow_add,←Nat.two_mul]at c1
  have c2:=zep (T:=T) (ofN (val a^(2*(e/2^(m+1))))) a (by omega) (by omega)
  rw[zag,←Nat.pow_add_one]at c2
  have hsh:=zyh e m (by omega)
  have han:=zyi (e/2^m) (by omega)
  have w1:IntKind.wrap .i64 ((m:Int)-1)=(m:Int)-1:=zab _ (by omega)
  have p1:(0:Int)≤m:=by omega
  have e1:((m+1:Nat):Int)-1=m:=by omega
  refine⟨m,by omega,by simp,?_,rfl⟩
  rcases Nat.mod_two_eq_zero_or_one (e/2^m) with h0 | h0
  ·rw[h0]at han hs
   rw[Nat.add_zero]at hs
   rw[←hs]at c1
   generalize e/2^m=q at *
   simp -implicitDefEqProofs[l258_0,p1,c1,hsh,han,w1]
  ·rw[h0]at han hs
   rw[←hs]at c2
   generalize e/2^m=q at *
   simp -implicitDefEqProofs[l258_0,p1,c1,c2,hsh,han,w1]
theorem zu5(a:List UInt32)(e:Nat)(ha:a.length≤3000)(h2:2≤blen (val a))(hb:e≤65536/blen (val a)) :
  callF T 258 [.sl (u32s a) .an,.i .i64 e]=some (.tup [.sl (u32s (ofN (val a^e))) .an,.b true]):=by
 have hmul:e*blen (val a)≤65536:=Nat.le_trans (Nat.mul_le_mul_right _ hb) (Nat.div_mul_le_self _ _)
 have he:e≤65536:=Nat.le_trans hb (Nat.div_le_self _ _)
 have c1:=zfq (T:=T) a (by omega)
 have c2:=zdv (T:=T) 1 (by decide)
 have c3:=zdv (T:=T) e (by omega)
 have c4:=zfq (T:=T) (ofN e) (by
  have:=zae (n:=e) (k:=1) (by omega)
  omega)
 rw[zag]at c4
 have hl:=zu4 (T:=T) a e ha (by omega) hmul (blen e) (zr7 (by omega))
 rw[zu3,Nat.pow_zero]at hl
 have hbe:=zr7 (e:=e) (by omega)
 have hq:((65536:Int)).tdiv (blen (val a):Int)=((65536/blen (val a):Nat):Int):=by
  rfl
 have hbl:65536/blen (val a)≤65536:=Nat.div_le_self _ _
 have w0:IntKind.wrap .i64 ((65536/blen (val a):Nat):Int)=((65536/blen (val a):Nat):Int):=zab _ (by omega)
 have w1:IntKind.wrap .i64 ((blen e:Int)-1)=(blen e:Int)-1:=zab _ (by omega)
 have q1:¬ (e:Int)<0:=by omega
 have q2:(1:Int)<(blen (val a):Int):=by omega
 have q3:¬ ((65536/blen (val a):Nat):Int)<(e:Int):=by omega
 have q4:¬ (blen (val a):Int)<2:=by omega
 have q5':¬ blen (val a)=0:=by omega
 have qm:((e:Int)%18446744073709551616).toNat=e:=by omega
 rw[f258 _ rfl,b258]
 generalize 65536/blen (val a)=Q at *
 simp -implicitDefEqProofs[c1,c2,c3,c4,hl,hq,w0,w1,q1,q2,q3,q4,q5',qm]
end
class CLaw12 (T:Tbl):Prop where
class CRef12 (T:Tbl):Prop where
section
variable{T:Tbl}[CRef02 T][CRef04 T][CRef05 T][CRef07 T][CRef06 T][CRef08 T][CRef09 T][CRef11 T][CRef12 T]
def stR12(m:List (List Fz))(i:Nat):St:=⟨[(0,.sl (matF m) .an),(3,.i .i64 i)],[],2⟩
def stN12(m:List (List Fz))(i:Nat):St:=⟨[(0,.sl (matF m) .an),(3,.bs (.loc 3) 1 1 0 i),(4,.i .i64 i)],[((.loc 3),⟨1,.own,1,matF (fzM (valM (m.take i)))⟩)],3⟩
def stS12(a b:List (List Fz))(i:Nat):St:=⟨[(0,.sl (matF a) .an),(1,.sl (matF b) .an),(5,.i .i64 i)],[],2⟩
def stI12(n:Int)(k:Nat)(i:Nat):St:=⟨[(0,.i .i64 n),(3,.bs (.loc 3) 1 1 0 i),(4,.i .i64 i)],[((.loc 3),⟨1,.own,1,matF (idQ k i)⟩)],3⟩
def stT12i(L:List (List Rat))(R:List (List Fz))(j:Nat)(i:Nat):St:=⟨[(0,.sl (matF (fzM L)) .an),(3,.bs (.loc 3) 1 1 0 j),(4,.i .i64 j),(5,.bs (.loc 5) 2 3 0 i),(6,.i .i64 i)],[(.loc 3,⟨1,.own,1,matF R⟩),((.loc 5),⟨2,.own,3,rowF (fzs (colQ (L.take i) j))⟩)],4⟩
def stT12o(L:List (List Rat))(i:Nat):St:=⟨[(0,.sl (matF (fzM L)) .an),(3,.bs (.loc 3) 1 1 0 i),(4,.i .i64 i)],[((.loc 3),⟨1,.own,1,matF (fzM ((List.range i).map (colQ L)))⟩)],3⟩
def stA12(L:List (List Rat))(c:List Rat)(i:Nat):St:=⟨[(0,.sl (matF (fzM L)) .an),(1,.sl (rowF (fzs c)) .an),(5,.bs (.loc 5) 1 3 0 i),(6,.i .i64 i)],[((.loc 5),⟨1,.own,3,rowF (fzs (applyR (L.take i) c))⟩)],3⟩
def longM(m:List (List Fz))(many words:Nat):Bool:=decide (many<m.length) || m.any fun r=>longB r many words
def stL12(m:List (List Fz))(many words:Nat)(i:Nat):St:=⟨[(0,.sl (matF m) .an),(1,.i .i64 many),(2,.i .i64 words),(7,.i .i64 i)],[],2⟩
end
section
variable{T:Tbl}[CNat T][CProd T][CTwos T][CQuot T][CQuotD T][CText T][CWhole T][CCommon T][CFrac T][CJoin T][CRow T][CGrid T][CRef02 T][CRef04 T][CRef05 T][CRef07 T][CRef06 T][CRef08 T][CRef09 T][CRef11 T][CRef12 T][CLaw09 T][CLaw11 T][CLaw12 T]
def stTo12(m:List (List Fz))(i:Nat):St:=⟨[(0,.sl (matF m) .an),(3,.bs (.loc 3) 1 1 0 i),(4,.i .i64 i)],[((.loc 3),⟨1,.own,1,matF (m.take i)⟩)],3⟩
def stI12s(a b:List (List Fz))(i:Nat):St:=⟨[(0,.sl (matF a) .an),(1,.sl (matF b) .an),(5,.i .i64 i)],[],2⟩
theorem zab7{q:Rat}(h1:q.num.natAbs<4294967296)(h2:q.den<4294967296):sz q≤1:=Nat.max_le.2 ⟨zae (by omega),zae (by omega)⟩
end
class CPoly (T:Tbl):Prop where
def tlen(l:List Rat):Nat→Nat
 | 0=>0
 | n+1=>if l.getD n 0=0 then tlen l n else n+1
def trimR(l:List Rat):List Rat:=l.take (tlen l l.length)
section
variable{T:Tbl}[CNat T][CProd T][CTwos T][CQuot T][CQuotD T][CText T][CWhole T][CCommon T][CFrac T][CJoin T][CRow T][CPoly T]
def evlR:List Rat→Rat→Rat
 | [],_=>0
 | a::l,x=>evlR l x*x+a
def dif(l:List Rat):List Rat:=(List.range (l.length-1)).map fun(i:Nat)=>(((i:Int)+1:Int):Rat)*l.getD (i+1) 0
def stDf(l:List Fz)(i:Nat):St:=⟨[(0,.sl (rowF l) .an),(3,.bs (.loc 3) 1 3 0 i),(4,.i .i64 ((i:Int)+1))],[((.loc 3),⟨1,.own,3,rowF (fzs ((dif (l.map fv)).take i))⟩)],3⟩
end
def sizF(x:Fz):Nat:=blen (val x.2.1)+blen (val x.2.2)
def sizL(l:List Fz):Nat:=l.foldl (fun n x=>max n (sizF x)) 0
theorem zfr{x k:Nat}(h:(ofN x).length≤k):blen x≤32*k:=by
 unfold blen
 split
 ·omega
 ·next h0=>
  have h1:=za2 (ofN x)
  rw[zag]at h1
  have h2:4294967296^(ofN x).length≤4294967296^k:=Nat.pow_le_pow_right (by decide) h
  have h3:(4294967296:Nat)^k=2^(32*k):=by rw[Nat.pow_mul]
  have:=(Nat.log2_lt (n:=x) (k:=32*k) h0).2 (by omega)
  omega
theorem zyq{x:Fz}{k:Nat}(h:fsz x≤k):sizF x≤64*k:=by
 unfold sizF
 have h1:=zfr (Nat.le_trans (zad x.2.1) (Nat.le_trans (zfk x) h))
 have h2:=zfr (Nat.le_trans (zad x.2.2) (Nat.le_trans (zfl x) h))
 omega
section
variable{T:Tbl}[CLimb T][CNat T][CProd T][CTwos T][CQuot T][CQuotD T][CText T][CWhole T][CCommon T][CFrac T][CFrac2 T][CFrac5 T][CPow T][CJoin T][CRow T][CRow5 T]
def bestI(b c:Rat)(i:Nat):Rat:=if i=0 then 0 else if i=1 then b else (if b<c then c else b)
def stMx(b c:Rat)(i:Nat):St:=⟨[(2,.ptr (.loc 2) 1 3 0 0),(3,.ptr (.loc 3) 2 3 0 0),(7,.sl [celF (fz b),celF (fz c)] .an),(8,.i .i64 2),(9,.i .i64 i)],
 [(.loc 2,⟨1,.str,3,[nocell]⟩),(.loc 3,⟨2,.str,3,[celF (fz (bestI b c i))]⟩)],4⟩
def stRn(l:List Fz)(i:Nat):St:=⟨[(2,.ptr (.loc 2) 1 3 0 0),(3,.ptr (.loc 3) 2 3 0 0),(7,.sl (rowF l) .an),(8,.i .i64 l.length),(9,.i .i64 i)],
 [(.loc 2,⟨1,.str,3,[nocell]⟩),(.loc 3,⟨2,.str,3,[celF (fz (normR ((l.map fv).take i)))]⟩)],4⟩
def stRs(l:List Fz)(i:Nat):St:=⟨[(3,.i .i64 (sizL (l.take i))),(6,.sl (rowF l) .an),(7,.i .i64 l.length),(8,.i .i64 i)],[],2⟩
end
section
variable{T:Tbl}[CRef02 T][CRef04 T][CRef05 T][CRef07 T][CRef06 T][CRef08 T][CRef09 T][CRef11 T][CRef5 T]
def stSc(c:Rat)(p:List Rat)(i:Nat):St:=⟨[(1,.sl (rowF (fzs p)) .an),(2,.ptr (.loc 2) 1 3 0 0),(5,.bs (.loc 5) 2 3 0 i),(6,.i .i64 i)],
 [(.loc 2,⟨1,.str,3,[celF (fz c)]⟩),(.loc 5,⟨2,.own,3,rowF (fzs ((sclR c p).take i))⟩)],4⟩
def stRx(p:List Rat)(i:Nat):St:=⟨[(0,.sl (rowF (fzs p)) .an),(2,.ptr (.loc 2) 1 3 0 0),(3,.ptr (.loc 3) 2 3 0 0),(4,.i .i64 i)],
 [(.loc 2,⟨1,.str,3,[nocell]⟩),(.loc 3,⟨2,.str,3,[celF (fz (normR (p.take i)))]⟩)],4⟩
end
structure Ins where
 op:Int
 a:Int
 b:Int
 n:Fz
abbrev celI(i:Ins):List AV:=[.i .i64 i.op,.i .i64 i.a,.i .i64 i.b,.b i.n.1,.sl (u32s i.n.2.1) .an,.sl (u32s i.n.2.2) .an]
def rowI(l:List Ins):List (List AV):=l.map celI
@[simp] theorem z7h:rowI []=[]:=rfl
structure Tp where
 code:List Ins
 outs:List Int
 dim:Int
 par:Int
abbrev etp(t:Tp):AV:=.agg [.sl (rowI t.code) .an,.sl (ints t.outs) .an,.i .i64 t.dim,.i .i64 t.par]
def rightF(x:Fz):Bool:=decide (x=fz (fv x))
def blankF(x:Fz):Bool:=!x.1&&x.2.1.isEmpty&&x.2.2.isEmpty
def readsI(i:Ins):List Int:=if i.op=6∨i.op=11 then [i.a] else if 7≤i.op∧i.op≤10 then [i.a,i.b] else []
def belowB(i m:Int):Bool:=decide (0≤i)&&decide (i<m)
def mayI(dim par p:Int)(i:Ins):Bool:=
 if i.op=1 then decide (i.a=0)&&decide (i.b=0)&&rightF i.n
 else blankF i.n&&(readsI i).all (fun r=>belowB r p) &&
  (if i.op=2 then decide (i.a=0)&&decide (i.b=0)
   else if i.op=3 then belowB i.a dim&&decide (i.b=0)
   else if i.op=4 then belowB i.a par&&decide (i.b=0)
   else if i.op=6 then decide (i.b=0)
   else if i.op=11 then decide (-8≤i.b)&&decide (i.b≤8)
   else decide ((readsI i).length=2))
def firstI(dim par:Int):Nat→List Ins→Int
 | _,[]=>-1
 | p,i::r=>if mayI dim par p i then firstI dim par (p+1) r else p
def wholeT(t:Tp):Bool:=belowB (t.dim-1) 6&&belowB t.par 7&&decide ((t.outs.length:Int)=t.dim)&&decide (t.code.length≤300)
def wrongT(t:Tp):Int:=
 if wholeT t=false then -2 else if firstI t.dim t.par 0 t.code≠-1 then firstI t.dim t.par 0 t.code
 else if (t.outs.all fun o=>belowB o t.code.length)=false then t.code.length else -1
def okT(t:Tp):Bool:=decide (wrongT t=-1)
structure OkTp (t:Tp):Prop where
 d1:1≤t.dim
 d2:t.dim≤6
 p1:0≤t.par
 p2:t.par≤6
 ol:(t.outs.length:Int)=t.dim
 cl:t.code.length≤300
 may:∀(k:Nat) (i:Ins),t.code[k]? = some i→mayI t.dim t.par k i=true
 outs:∀o∈t.outs,0≤o∧o<t.code.length
structure Po where
 t:Rat
 y:List Rat
 p:List Rat
structure PoF where
 t:Fz
 y:List Fz
 p:List Fz
def PoF.v(x:PoF):Po:=⟨fv x.t,x.y.map fv,x.p.map fv⟩
def Po.f(x:Po):PoF:=⟨fz x.t,fzs x.y,fzs x.p⟩
abbrev ept(x:PoF):AV:=.agg [.b x.t.1,.sl (u32s x.t.2.1) .an,.sl (u32s x.t.2.2) .an,.sl (rowF x.y) .an,.sl (rowF x.p) .an]
def gI(l:List Rat)(i:Int):Rat:=l.getD i.toNat 0
def powZ(x:Rat)(e:Int):Rat:=x^e
def valI(P:Po)(D:List Rat)(i:Ins):Rat×Bool:=
 if i.op=1 then (fv i.n,true)
 else if i.op=3 then (gI P.y i.a,true)
 else if i.op=4 then (gI P.p i.a,true)
 else if i.op=6 then (-gI D i.a,true)
 else if i.op=7 then (gI D i.a+gI D i.b,true)
 else if i.op=8 then (gI D i.a-gI D i.b,true)
 else if i.op=9 then (gI D i.a*gI D i.b,true)
 else if i.op=10 then (gI D i.a/gI D i.b,decide (gI D i.b≠0))
 else if i.op=11 then (if i.b<0∧gI D i.a=0 then (0,false) else (powZ (gI D i.a) i.b,true))
 else (P.t,true)
def sizQ(q:Rat):Nat:=sizF (fz q)
def runR(lim:Nat)(P:Po):List Ins→List Rat→List Rat×Nat×Nat
 | [],D=>(D,0,0)
 | i::r,D=>if (valI P D i).2=false then ([],3,D.length) else if lim<sizQ (valI P D i).1 then ([],6,D.length) else runR lim P r (D++[(valI P D i).1])
abbrev tyI:Ty:=.cons (.int .i64) (.cons (.int .i64) (.cons (.int .i64) (.cons tyF .nil)))
abbrev tyT:Ty:=.cons (.sl tyI) (.cons (.sl (.int .i64)) (.cons (.int .i64) (.cons (.int .i64) .nil)))
abbrev tyP:Ty:=.cons tyF (.cons (.sl tyF) (.cons (.sl tyF) .nil))
abbrev tyW:Ty:=.cons tyP (.cons tyP (.cons (.int .i64) .nil))
section
variable{T:Tbl}[CJoin T][CLex T]
theorem zkj(c:UInt8):callF T 185 [u8 c.toNat]=some (.b (isD c)):=by
 rw[f185 _ rfl,b185]
 by_cases h1:48≤c.toNat
 ·simp -implicitDefEqProofs[isD,h1]
 ·simp -implicitDefEqProofs[isD,h1]
theorem zhu(c:UInt8):callF T 186 [u8 c.toNat]=some (.b (isL c)):=by
 rw[f186 _ rfl,b186]
 by_cases h1:97≤c.toNat<;>by_cases h2:c.toNat≤122<;>by_cases h3:65≤c.toNat<;>by_cases h4:c.toNat≤90<;>by_cases h5:c.toNat=95 <;>
  simp -implicitDefEqProofs[isL,h1,h2,h3,h4,h5]
theorem zuk(c:UInt8):callF T 187 [u8 c.toNat]=some (.b (isS c)):=by rw[p187,zpk]
theorem zul(c:UInt8):callF T 177 [u8 c.toNat]=some (.i .i64 (kindN c)):=by
 have h1:=zkj (T:=T) c
 have h2:=zhu (T:=T) c
 have h3:=zuk (T:=T) c
 rw[f177 _ rfl,b177]
 cases e1:isD c<;>cases e2:isL c<;>cases e3:isS c<;>simp -implicitDefEqProofs[kindN,h1,h2,h3,e1,e2,e3]
theorem zum(k:Nat)(c:UInt8):callF T 188 [.i .i64 k,u8 c.toNat]=some (.b (moreN k c)):=by
 have h1:=zkj (T:=T) c
 have h2:=zhu (T:=T) c
 rw[f188 _ rfl,b188]
 by_cases k1:k=1
 ·subst k1
  cases e1:isD c<;>cases e2:isL c<;>simp -implicitDefEqProofs[moreN,h1,e1,e2]
 ·have k1':¬ (k:Int)=1:=by omega
  by_cases k2:k=2
  ·subst k2
   cases e1:isD c<;>cases e2:isL c<;>simp -implicitDefEqProofs[moreN,h1,h2,e1,e2]
  ·have k2':¬ (k:Int)=2:=by omega
   simp -implicitDefEqProofs[moreN,k1,k2,k1',k2']
theorem zun(k:Nat):callF T 179 [.i .i64 k]=some (.i .i64 (mostN k)):=by
 rw[f179 _ rfl,b179]
 by_cases k1:k=1
 ·subst k1
  simp -implicitDefEqProofs[mostN]
 ·have k1':¬ (k:Int)=1:=by omega
  by_cases k2:k=2
  ·subst k2
   simp -implicitDefEqProofs[mostN]
  ·have k2':¬ (k:Int)=2:=by omega
   simp -implicitDefEqProofs[mostN,k1,k2,k1',k2']
theorem zox(s:List UInt8)(hs:s.length≤1000000)(k F:Nat):∀n:Nat,(n≤s.length∧n+((s.drop n).takeWhile (moreN k)).length=F) →
  loopN T 0 0 (.norm false [5]) l178_0 ⟨[(0,.s s),(1,.i .i64 k),(5,.i .i64 n)],[],2⟩=some (.n,⟨[(5,.i .i64 F)],[],2⟩):=by
 refine za3 (fun n:Nat=>⟨[(0,.s s),(1,.i .i64 k),(5,.i .i64 n)],[],2⟩) _ (fun n=>s.length-n) _ ?_
 rintro n ⟨hn,hF⟩
 by_cases h0:n<s.length
 ·have hd:=List.drop_eq_getElem_cons h0
  have hgo:=zum (T:=T) k (s[n]'h0)
  have hw:IntKind.wrap .i64 ((n:Int)+1)=((n+1:Nat):Int):=zab _ (by omega)
  by_cases hc:moreN k (s[n]'h0)=true
  ·left
   rw[hd,List.takeWhile_cons_of_pos hc]at hF
   refine⟨n+1,⟨h0,by grind⟩,by omega,?_,rfl⟩
   simp -implicitDefEqProofs[l178_0,h0,hgo,hc,hw]
  ·right
   rw[hd,List.takeWhile_cons_of_neg hc]at hF
   subst hF
   constructor<;>simp -implicitDefEqProofs[l178_0,h0,hgo,hc]
 ·right
  have:n=s.length:=by omega
  subst this
  rw[List.drop_length]at hF
  subst hF
  constructor<;>simp -implicitDefEqProofs[l178_0]
theorem zro(c:UInt8)(r:List UInt8)(hs:r.length≤100000)(k:Nat):callF T 178 [.s (c::r),.i .i64 k]=some (.i .i64 (firstN k r)):=by
 have h:=zox (T:=T) (c::r) (by grind) k (firstN k r) 1 ⟨by simp,rfl⟩
 rw[f178 _ rfl,b178]
 simp_all
theorem zrp(l:List UInt8)(h:l.length≤1000000):callF T 184 [.s l,.s [10]]=some (.tup [.s (l.takeWhile (· != 10)),.s ((l.dropWhile (· != 10)).drop 1),.b (l.contains 10)]):=by rw[p184,zfd l h]
def wdR(w:Wd):List AV:=[.i .i64 w.1,.s w.2.1,.i .i64 w.2.2]
def rowsW(l:List Wd):List (List AV):=l.map wdR
def stScL(s:List UInt8)(i:Nat)(acc:List Wd):St:=
 ⟨[(0,.s s),(3,.ptr (.loc 3) 1 4 0 0),(4,.bs (.loc 4) 2 3 0 acc.length),(5,.i .i64 i)],[(.loc 3,⟨1,.str,4,[[.i .i64 0,.i .i64 0,.i .i64 0,.i .i64 0]]⟩),(.loc 4,⟨2,.own,3,rowsW acc⟩)],4⟩
def resSc:Except Nat (List Wd)→Option (Ex×St)
 | .ok ws=>some (.n,⟨[(3,.ptr (.loc 3) 1 4 0 0),(4,.bs (.loc 4) 2 3 0 ws.length)],[(.loc 3,⟨1,.str,4,[[.i .i64 0,.i .i64 0,.i .i64 0,.i .i64 0]]⟩),(.loc 4,⟨2,.own,3,rowsW ws⟩)],4⟩)
 | .error e=>some (.r,⟨[(2,.sl [] .an),(3,.ptr (.loc 3) 1 4 0 0)],[(.loc 3,⟨1,.str,4,[[.i .i64 1,.i .i64 0,.i .i64 0,.i .i64 e]]⟩)],3⟩)
def ansScan(r:Except Nat (List Wd)):AV:=
 match r with
 | .ok ws=>.tup [.sl (rowsW ws) .an,.agg [.i .i64 0,.i .i64 0,.i .i64 0,.i .i64 0]]
 | .error e=>.tup [.sl [] .an,.agg [.i .i64 1,.i .i64 0,.i .i64 0,.i .i64 e]]
def scanT(s:List UInt8):Except Nat (List Wd):=if 4000<s.length then .error 4000 else scanL (s.drop (skipC false s)) (skipC false s) []
def rightB(k:Int)(t:List UInt8):Bool:=
 match t with
 | []=>false
 | c::r=>decide (k≠0)&&decide ((kindN c:Int)=k)&&decide (firstN (kindN c) r=r.length+1)&&decide (r.length+1≤mostN (kindN c))
theorem zkk(k a:Int)(t:List UInt8)(ht:t.length≤100000):callF T 172 [.agg [.i .i64 k,.s t,.i .i64 a]]=some (.b (rightB k t)):=by
 rw[f172 _ rfl,b172]
 cases t with
 | nil=>simp -implicitDefEqProofs[rightB]
 | cons c r=>
  simp only[List.length_cons]at ht
  have hk:=zul (T:=T) c
  have hf:=zro (T:=T) c r (by omega) (kindN c)
  have hm:=zun (T:=T) (kindN c)
  by_cases h0:k=0
  ·simp -implicitDefEqProofs[rightB,h0]
  ·by_cases h1:(kindN c:Int)=k
   ·subst h1
    have h0':¬ kindN c=0:=by omega
    by_cases h2:firstN (kindN c) r=r.length+1
    ·by_cases h3:r.length+1≤mostN (kindN c)
     ·have h3':(r.length:Int)+1≤(mostN (kindN c):Nat):=by omega
      simp -implicitDefEqProofs[rightB,h0',hk,hf,hm,h2,h3,h3']
     ·have h3':¬ (r.length:Int)+1≤(mostN (kindN c):Nat):=by omega
      simp -implicitDefEqProofs[rightB,h0',hk,hf,hm,h2,h3,h3']
    ·have h2':¬ ((firstN (kindN c) r:Nat):Int)=(r.length:Int)+1:=by omega
     simp -implicitDefEqProofs[rightB,h0',hk,hf,h2,h2']
   ·simp -implicitDefEqProofs[rightB,h0,hk,h1]
abbrev Wz:=Int×List UInt8×Int
def wzR(w:Wz):List AV:=[.i .i64 w.1,.s w.2.1,.i .i64 w.2.2]
def rowsZ(l:List Wz):List (List AV):=l.map wzR
def stTe(l:List Wz)(i:Nat)(b:BId):St:=
 ⟨[(3,.bs (.loc 3) 1 1 0 i),(6,.sl (rowsZ l) .an),(7,.i .i64 l.length),(8,.i .i64 i)],[(.loc 3,⟨1,.own,1,rowsT ((l.take i).map (·.2.1))⟩)],3⟩
end
structure Tr where
 t:Fz
 w:Fz
 h:Fz
 e:Fz
 y:List Fz
 ok:Bool
abbrev celR(r:Tr):List AV:=[.b r.t.1,.sl (u32s r.t.2.1) .an,.sl (u32s r.t.2.2) .an,.b r.w.1,.sl (u32s r.w.2.1) .an,.sl (u32s r.w.2.2) .an,.b r.h.1,.sl (u32s r.h.2.1) .an,.sl (u32s r.h.2.2) .an,.b r.e.1,.sl (u32s r.e.2.1) .an,.sl (u32s r.e.2.2) .an,.sl (rowF r.y) .an,.b r.ok]
def rowTr(l:List Tr):List (List AV):=l.map celR
@[simp] theorem z4g:rowTr []=[]:=rfl
structure Hs where
 l:List Tr
 t:Fz
 y:List Fz
abbrev ehs(h:Hs):AV:=.agg [.sl (rowTr h.l) .an,.b h.t.1,.sl (u32s h.t.2.1) .an,.sl (u32s h.t.2.2) .an,.sl (rowF h.y) .an]
def rightsB(l:List Fz):Bool:=l.all rightF
def Tr.nums(r:Tr):List Fz:=[r.t,r.w,r.h,r.e]
def plainH(h:Hs):Bool:=(h.l.all fun r=>rightsB r.nums&&rightsB r.y)&&(rightF h.t&&rightsB h.y)
def lensH(h:Hs):Bool:=(h.l.all fun r=>decide (r.y.length=h.y.length))&&(decide (1≤h.y.length)&&decide (h.y.length≤6))
def sizeR(r:Tr):Bool:=decide (0<fv r.w)&&decide (0<fv r.h)&&decide (fv r.h≤fv r.w)&&decide (0≤fv r.e)
def sizesH(h:Hs):Bool:=h.l.all sizeR
def follB(r:Tr)(at_:Fz)(y:List Fz):Bool:=if r.ok then decide (fv at_=fv r.t+fv r.h) else decide (fv at_=fv r.t)&&decide (y.map fv=r.y.map fv)
def nextH(l:List Tr)(t:Fz)(y:List Fz):Fz×List Fz:=match l with | []=>(t,y) | r::_=>(r.t,r.y)
def chainL:List Tr→Fz→List Fz→Bool
 | [],_,_=>true
 | r::l,t,y=>follB r (nextH l t y).1 (nextH l t y).2&&chainL l t y
def chainH(h:Hs):Bool:=chainL h.l h.t h.y
def wrongH(h:Hs):Int:=if !plainH h then 1 else if !lensH h then 2 else if 200<h.l.length then 3 else if !sizesH h then 4 else if !chainH h then 5 else 0
def rightH(h:Hs):Bool:=decide (wrongH h=0)
def nrmR(r:Tr):Tr:=⟨fz (fv r.t),fz (fv r.w),fz (fv r.h),fz (fv r.e),nrm r.y,r.ok⟩
def accH(l:List Tr):List Tr:=(l.filter (·.ok)).map nrmR
def nodeT(h:Hs):List Fz:=(accH h.l).map (·.t)++[fz (fv h.t)]
def nodeY(h:Hs):List (List Fz):=(accH h.l).map (·.y)++[nrm h.y]
def szsH(h:Hs):List Fz:=(accH h.l).map (·.h)
structure HsS (h:Hs) (B:Nat):Prop where
 len:h.l.length≤1000
 t:fsz h.t≤B
 y:∀x∈h.y,fsz x≤B
 yl:h.y.length≤1000
 rt:∀r∈h.l,∀x∈r.nums,fsz x≤B
 ry:∀r∈h.l,∀x∈r.y,fsz x≤B
 rl:∀r∈h.l,r.y.length≤1000
theorem zl4:∀(a b:List UInt32),a.length=b.length→val a=val b→a=b
 | [],[],_,_=>rfl
 | x::a,y::b,hl,hv=>by
  simp only[zap]at hv
  have hx:=zal x
  have hy:=zal y
  have h1:x.toNat=y.toNat:=by omega
  have h2:val a=val b:=by omega
  rw[UInt32.toNat_inj.1 h1,zl4 a b (by simpa using hl) h2]
 | [],_::_,hl,_=>by simp at hl
 | _::_,[],hl,_=>by simp at hl
theorem zek{x y:Nat}:cmpN x y=0↔x=y:=by
 grind[cmpN]
section
variable{T:Tbl}[CLimb T][CNat T][CProd T][CTwos T][CQuot T][CQuotD T][CWhole T][CCommon T][CFrac T][CFrac3 T]
theorem zou(x:Fz)(hx:fsz x≤10000):callF T 208 [efz x]=some (.b (rightF x)):=by
 have hn:=zrh (T:=T) x hx
 have hs:=zi6 (x:=x) (L:=10000) hx (by decide)
 have l1:=zk9 (fv x)
 have l2:=zh4 (fv x)
 unfold rightF
 have e':fz (fv x)=(decide ((fv x).num<0),ofN (fv x).num.natAbs,ofN (fv x).den):=rfl
 rw[e']at hn ⊢
 obtain⟨n,a,d⟩:=x
 have la:=zfk (n,a,d)
 have ld:=zfl (n,a,d)
 simp only at la ld
 generalize decide ((fv (n,a,d)).num<0)=m at *
 generalize ofN (fv (n,a,d)).num.natAbs=b at *
 generalize ofN (fv (n,a,d)).den=e at *
 have c1:=zgr (T:=T) a b (by omega) (by omega)
 have c2:=zgr (T:=T) d e (by omega) (by omega)
 rw[f208 _ rfl,b208]
 by_cases h1:n=m
 case neg=>
  have hd:decide ((n,a,d)=(m,b,e))=false:=by grind
  have hb:(n == m)=false:=by grind
  rw[hd]
  simp -implicitDefEqProofs[hn,hb]
 subst h1
 by_cases h2:a.length=b.length
 case neg=>
  have hd:decide ((n,a,d)=(n,b,e))=false:=by
   grind
  have hb:((a.length:Int) == b.length)=false:=by grind
  rw[hd]
  simp -implicitDefEqProofs[hn,hb]
 by_cases h3:d.length=e.length
 case neg=>
  have hd:decide ((n,a,d)=(n,b,e))=false:=by
   grind
  have hb:((d.length:Int) == e.length)=false:=by grind
  rw[hd]
  simp -implicitDefEqProofs[hn,h2,hb]
 by_cases h4:val a=val b
 case neg=>
  have hd:decide ((n,a,d)=(n,b,e))=false:=by
   grind
  have hc:¬ cmpN (val a) (val b)=0:=fun h=>h4 (zek.1 h)
  rw[hd]
  simp -implicitDefEqProofs[hn,h2,h3,c1,hc]
 have hab:=zl4 a b h2 h4
 subst hab
 have hk:cmpN (val a) (val a)=0:=zek.2 rfl
 rw[hk]at c1
 by_cases h5:val d=val e
 case neg=>
  have hd:decide ((n,a,d)=(n,a,e))=false:=by
   grind
  have hc:¬ cmpN (val d) (val e)=0:=fun h=>h5 (zek.1 h)
  rw[hd]
  simp -implicitDefEqProofs[hn,h3,c1,c2,hc]
 have hde:=zl4 d e h3 h5
 subst hde
 have hk2:cmpN (val d) (val d)=0:=zek.2 rfl
 rw[hk2]at c2
 have hd:decide ((n,a,d)=(n,a,d))=true:=by simp
 simp -implicitDefEqProofs[hn,c1,c2]
def stPw(a:List UInt32)(k i:Nat):St:=⟨[(0,.sl (u32s a) .an),(5,.sl (u32s (ofN (val a^i))) .an),(7,.i .i64 k),(8,.i .i64 i)],[],2⟩
def powR(q:Rat)(e:Int):Rat×Bool:=if -8≤e∧e≤8∧¬ (e<0∧q=0) then (powZ q e,true) else (0,false)
end
@[simp] theorem zy0(l:List Int):(ints l).length=l.length:=by simp[ints]
@[simp] theorem zi0(l:List Int):wkL (ints l)=ints l:=by rw[zbs];simp[ints,wkR,wkA]
@[simp] theorem ints_get?(l:List Int)(i:Nat):(ints l)[i]? = (l[i]?).map fun x=>[.i .i64 x]:=by simp[ints]
@[simp] theorem z7e:ints []=[]:=rfl
section
variable{T:Tbl}[CLimb T][CNat T][CProd T][CTwos T][CQuot T][CQuotD T][CWhole T][CCommon T][CFrac T][CFrac3 T][CTape T]
def stMy(t:Tp)(p:Nat)(x:Ins)(i:Nat):St:=
 ⟨[(1,.i .i64 p),(2,.ptr (.loc 2) 1 4 0 0),(5,.ptr (.loc 5) 2 6 0 0),(30,.sl (ints (readsI x)) .an),(31,.i .i64 (readsI x).length),(32,.i .i64 i)],
  [(.loc 2,⟨1,.str,4,[[.sl (rowI t.code) .an,.sl (ints t.outs) .an,.i .i64 t.dim,.i .i64 t.par]]⟩),(.loc 5,⟨2,.str,6,[celI x]⟩)],4⟩
end
section
variable{T:Tbl}[CLimb T][CNat T][CProd T][CTwos T][CQuot T][CQuotD T][CWhole T][CCommon T][CFrac T][CFrac3 T][CTape T]
structure Small (t:Tp):Prop where
 code:t.code.length≤4294967296
 outs:t.outs.length≤4294967296
 ns:∀i∈t.code,fsz i.n≤10000
 d1:-9223372036854775808≤t.dim
 d2:t.dim<9223372036854775808
def bxT(t:Tp):Box:=⟨1,.str,4,[[.sl (rowI t.code) .an,.sl (ints t.outs) .an,.i .i64 t.dim,.i .i64 t.par]]⟩
def stW1(t:Tp)(i:Nat):St:=⟨[(1,.ptr (.loc 1) 1 4 0 0),(11,.i .i64 t.code.length),(12,.i .i64 i)],[(.loc 1,bxT t)],3⟩
def stW2(t:Tp)(i:Nat):St:=⟨[(1,.ptr (.loc 1) 1 4 0 0),(22,.sl (ints t.outs) .an),(23,.i .i64 t.outs.length),(24,.i .i64 i)],[(.loc 1,bxT t)],3⟩
end
def limI(n:Int):Int:=if n<0 then 0 else if 4096<n then 4096 else n
abbrev bxG(g:Nat)(s p L:Int):Box:=⟨g,.str,3,[[.i .i64 s,.i .i64 p,.i .i64 L]]⟩
def cntS(s:Int):Int:=IntKind.wrap .i64 (s+1)
def cntP(p:Int)(x:Fz):Int:=if p<(sizF x:Int) then (sizF x:Int) else p
section
variable{T:Tbl}[CLimb T][CNat T][CProd T][CTwos T][CQuot T][CQuotD T][CWhole T][CCommon T][CFrac T][CFrac3 T][CFrac5 T][CPow T][CTape T][CGauge T][CEval T]
theorem zov(x:Fz)(hx:fsz x≤10000):callF T 223 [efz x]=some (.i .i64 (sizF x)):=by
 have h1:=zfk x
 have h2:=zfl x
 have c1:=zfq (T:=T) x.2.1 (by omega)
 have c2:=zfq (T:=T) x.2.2 (by omega)
 have b1:=zfr (x:=val x.2.1) (k:=10000) (Nat.le_trans (zad x.2.1) (by omega))
 have b2:=zfr (x:=val x.2.2) (k:=10000) (Nat.le_trans (zad x.2.2) (by omega))
 have w:IntKind.wrap .i64 ((blen (val x.2.1):Int)+(blen (val x.2.2):Int))=((sizF x:Nat):Int):=by
  have e:((sizF x:Nat):Int)=(blen (val x.2.1):Int)+(blen (val x.2.2):Int):=by unfold sizF;omega
  rw[e]
  exact zab _ (by omega)
 rw[f223 _ rfl,b223]
 generalize sizF x=S at *
 generalize blen (val x.2.1)=B1 at *
 generalize blen (val x.2.2)=B2 at *
 simp -implicitDefEqProofs[c1,c2,w]
def stEn(l:List Fz)(i:Nat):St:=⟨[(3,.bs (.loc 3) 1 3 0 i),(6,.sl (rowF l) .an),(7,.i .i64 l.length),(8,.i .i64 i)],[(.loc 3,⟨1,.own,3,rowF (nrm (l.take i))⟩)],3⟩
structure PoS (x:PoF) (B:Nat):Prop where
 t:fsz x.t≤B
 y:∀u∈x.y,fsz u≤B
 p:∀u∈x.p,fsz u≤B
 yl:x.y.length≤1000
 pl:x.p.length≤1000
end
abbrev mD:AV:=.agg [.dead]
theorem znq{n b:Nat}(h:blen n≤b):(ofN n).length≤b/32+1:=by
 refine zae ?_
 unfold blen at h
 split at h
 ·grind
 ·rename_i h0
  have h1:n<2^(n.log2+1):=(Nat.log2_lt h0).1 (Nat.lt_succ_self _)
  have h3:(4294967296:Nat)^(b/32+1)=2^(32*(b/32+1)):=by rw[Nat.pow_mul]
  have h2:2^(n.log2+1)≤2^(32*(b/32+1)):=Nat.pow_le_pow_right (by decide) (by omega)
  omega
theorem zyr{q:Rat}{b:Nat}(h:sizQ q≤b):sz q≤b/32+1:=by
 unfold sizQ sizF fz at h
 rw[zag,zag]at h
 exact Nat.max_le.2 ⟨znq (Nat.le_trans (Nat.le_add_right _ _) h),znq (Nat.le_trans (Nat.le_add_left _ _) h)⟩
structure PvS (P:Po) (B:Nat):Prop where
 t:sz P.t≤B
 y:∀q∈P.y,sz q≤B
 p:∀q∈P.p,sz q≤B
def runG(lim:Nat)(P:Po):List Ins→List Rat→Int→Int→Int×Int
 | [],_,s,p=>(s,p)
 | i::r,D,s,p=>if (valI P D i).2=false then (s,p) else if lim<sizQ (valI P D i).1 then (cntS s,cntP p (fz (valI P D i).1)) else runG lim P r (D++[(valI P D i).1]) (cntS s) (cntP p (fz (valI P D i).1))
abbrev bxM:Box:=⟨3,.str,1,[[.ptr (.bor 0) 0 3 0 0]]⟩
abbrev bxP(g:Nat)(x:PoF):Box:=⟨g,.str,5,[[.b x.t.1,.sl (u32s x.t.2.1) .an,.sl (u32s x.t.2.2) .an,.sl (rowF x.y) .an,.sl (rowF x.p) .an]]⟩
abbrev bxF(g:Nat)(a b c d:Int):Box:=⟨g,.str,4,[[.i .i64 a,.i .i64 b,.i .i64 c,.i .i64 d]]⟩
def stRun(Q:PoF)(L:Int)(code:List Ins)(i:Nat)(D:List Fz)(s p:Int)(kd:Kind):St:=
 ⟨[(3,.ptr (.loc 3) 3 1 0 0),(5,.ptr (.loc 5) 4 5 0 0),(7,.ptr (.loc 7) 5 4 0 0),(8,.bs (.loc 8) 6 3 0 i),(34,.sl (rowI code) .an),(35,.i .i64 code.length),(36,.i .i64 i)],
  [(.bor 0,bxG 0 s p L),(.loc 3,bxM),(.loc 5,bxP 4 Q),(.loc 7,bxF 5 0 0 0 0),(.loc 8,⟨6,kd,3,rowF D⟩)],8⟩
def endN(n:Nat)(D:List Fz)(s p L:Int)(kd:Kind):Ex×St:=(.n,⟨[(7,.ptr (.loc 7) 3 4 0 0),(8,.bs (.loc 8) 4 3 0 n)],[(.bor 0,bxG 0 s p L),(.loc 7,bxF 3 0 0 0 0),(.loc 8,⟨4,kd,3,rowF D⟩)],6⟩)
def endR(kind at_ s p L:Int):Ex×St:=(.r,⟨[(6,.sl [] .an),(7,.ptr (.loc 7) 3 4 0 0)],[(.bor 0,bxG 0 s p L),(.loc 7,bxF 3 kind 0 0 at_)],5⟩)
section
variable{T:Tbl}[CLimb T][CNat T][CProd T][CTwos T][CQuot T][CQuotD T][CWhole T][CCommon T][CFrac T][CFrac3 T][CFrac5 T][CPow T][CTape T][CGauge T][CEval T][CRun T][CIfc T]
def kdE(kd:Kind)(l:List Ins):Kind:=if l=[] then kd else .sh
def endRun(lim:Nat)(P:Po)(code l:List Ins)(D:List Rat)(s p:Int)(kd:Kind):Ex×St:=
 if (runR lim P l D).2.1=0 then endN code.length (fzs (runR lim P l D).1) (runG lim P l D s p).1 (runG lim P l D s p).2 lim (kdE kd l)
 else endR (runR lim P l D).2.1 (runR lim P l D).2.2 (runG lim P l D s p).1 (runG lim P l D s p).2 lim
end
def fitT(t:Tp)(y p:Nat):Bool:=okT t&&decide ((y:Int)=t.dim)&&decide ((p:Int)=t.par)
def tapeR(lim:Nat)(t:Tp)(P:Po):List Rat×Nat×Nat:=if fitT t P.y.length P.p.length=true then runR lim P t.code [] else ([],2,0)
def outsR(t:Tp)(D:List Rat):List Rat:=t.outs.map (gI D)
def fieldR(lim:Nat)(t:Tp)(P:Po):List Rat×Nat×Nat:=if (tapeR lim t P).2.1=0 then (outsR t (tapeR lim t P).1,0,0) else ([],(tapeR lim t P).2)
structure TpS (t:Tp):Prop where
 small:Small t
 ns:∀i∈t.code,fsz i.n≤1000
abbrev fltA(k s g a:Int):AV:=.agg [.i .i64 k,.i .i64 s,.i .i64 g,.i .i64 a]
section
variable{T:Tbl}[CLimb T][CNat T][CProd T][CTwos T][CQuot T][CQuotD T][CWhole T][CCommon T][CFrac T][CFrac3 T][CFrac5 T][CPow T][CTape T][CGauge T][CEval T][CRun T][CIfc T]
def limN(n:Int):Nat:=(limI n).toNat
def stOu(D:List Fz)(outs:List Int)(E:List Fz)(i:Nat)(kd:Kind):St:=
 ⟨[(1,.sl (rowF D) .an),(5,.bs (.loc 5) 1 3 0 i),(20,.sl (ints outs) .an),(21,.i .i64 outs.length),(22,.i .i64 i)],[(.loc 5,⟨1,.own,3,rowF (E.take i)⟩)],3⟩
end
structure Sm where
 nm:List UInt8
 c:List Fz
 a:List (List Fz)
 b:List Fz
 e:List Fz
abbrev esm(s:Sm):AV:=.agg [.s s.nm,.sl (rowF s.c) .an,.sl (matF s.a) .an,.sl (rowF s.b) .an,.sl (rowF s.e) .an]
def shapeL:List (List Fz)→Nat→Bool
 | [],_=>true
 | r::l,i=>decide (r.length=i)&&shapeL l (i+1)
def shapeS(s:Sm):Bool:=decide (1≤s.b.length)&&decide (s.b.length≤8)&&decide (s.c.length=s.b.length)&&decide (s.a.length=s.b.length)&&(decide (s.e.length=s.b.length) || decide (s.e.length=0))&&shapeL s.a 0
def numF(x:Fz):Bool:=rightF x&&decide (sizF x≤190)
def numM(m:List (List Fz)):Bool:=m.all fun r=>r.all numF
def sumF(l:List Fz):Rat:=l.foldl (fun s x=>s+fv x) 0
def rowsSm(a:List (List Fz))(c:List Fz):Bool:=(a.zip c).all fun p=>decide (sumF p.1=fv p.2)
def wrongS(s:Sm):Int:=
 if !rightB 2 s.nm then 1 else if !shapeS s then 2 else if !(numM s.a&&numM [s.b,s.c,s.e]) then 3
 else if !rowsSm s.a s.c then 4 else if sumF s.b≠1 then 5 else if s.e≠[]∧sumF s.e≠1 then 6 else 0
def okS(s:Sm):Bool:=decide (wrongS s=0)
structure SmS (s:Sm):Prop where
 nm:s.nm.length≤1000
 cl:s.c.length≤1000
 al:s.a.length≤1000
 bl:s.b.length≤1000
 el:s.e.length≤1000
 c:∀x∈s.c,fsz x≤300
 a:∀r∈s.a,r.length≤1000∧∀x∈r,fsz x≤300
 b:∀x∈s.b,fsz x≤300
 e:∀x∈s.e,fsz x≤300
structure Pb where
 t:Tp
 s:Sm
 p:List Fz
 bits:Int
abbrev epb(p:Pb):AV:=.agg [.sl (rowI p.t.code) .an,.sl (ints p.t.outs) .an,.i .i64 p.t.dim,.i .i64 p.t.par,.s p.s.nm,.sl (rowF p.s.c) .an,.sl (matF p.s.a) .an,.sl (rowF p.s.b) .an,.sl (rowF p.s.e) .an,.sl (rowF p.p) .an,.i .i64 p.bits]
def okP(p:Pb):Bool:=okT p.t&&okS p.s&&decide ((p.p.length:Int)=p.t.par)
abbrev tySm:Ty:=.cons .str (.cons (.sl tyF) (.cons (.sl (.sl tyF)) (.cons (.sl tyF) (.cons (.sl tyF) .nil))))
abbrev tyPb:Ty:=.cons tyT (.cons tySm (.cons (.sl tyF) (.cons (.int .i64) .nil)))
abbrev tyTr:Ty:=.cons tyF (.cons tyF (.cons tyF (.cons tyF (.cons (.sl tyF) (.cons .bool .nil)))))
abbrev tyHs:Ty:=.cons (.sl tyTr) (.cons tyF (.cons (.sl tyF) .nil))
end Go.Ab
section
namespace Go.Ab
end Go.Ab
end
section
namespace Go.Proofs.YtajopjoiaogapaaGreatDoor
open Go Go.Ab Go.ChangeShapes Go.WideShapes Go.ChangeAt Go.RowKit
theorem Tryz.own:ownKnob Tryz.prog.godebug=none:=by kernel_rfl
theorem Tryz.laidOut:laidOutB Tryz.prog=true:=by kernel_rfl
theorem Tryz.mixed:Tryz.prog.follows .mixedOrders=true:=by kernel_rfl
theorem Tryz.rowed:mapsRowed Tryz.prog=true:=by kernel_rfl
theorem Tryz.heard:Tryz.prog.stopsHeard=true:=by kernel_rfl
theorem Tryz.enters:Tryz.prog.mayEnter=true:=by kernel_rfl
theorem Tryz.keys:Tryz.prog.plainKeys=Rows.orderTreesRow.plainKeys:=by kernel_rfl
theorem Tryz.lifts:Tryz.prog.liftsFinal=Rows.orderTreesRow.lifted:=by kernel_rfl
theorem Tryz.makes:Tryz.prog.make=some Rows.orderTreesRow.make:=by kernel_rfl
def laid2:List (String×DataW Unit):=[("unicode/utf8.acceptRanges",Rows.laid_unicode_utf8_acceptRanges),("unicode/utf8.first",Rows.laid_unicode_utf8_first)]
noncomputable def laidWorld(os:Os):World:=
 let put (h:Array Obj) (g:Nat) (cs:Array Value):Array Obj:=h.modify g fun
  | .cells _ t frozen=>.cells cs t frozen
  | o=>o
 let w0:=World.holding Tryz.prog os ⟨#[],#[],[]⟩
 let h1:=put w0.heap 1 (Lib.firstTab.map fun z=>Value.int .u8 z).toArray
 let h2:=put h1 2 ((List.range 16).flatMap fun i=>[Value.int .u8 (Lib.accLo i),Value.int .u8 (Lib.accHi i)]).toArray
 { w0 with heap:=h2 }
theorem laid_met(os:Os)(args:Array Value):laidMetH Tryz.prog laid2 ((laidWorld os).forCall (fun _ _=>0) ⟨#[],args,[]⟩).memory:=
 laidMetH_of_parts3 (fuel:=8) (laidMet_of_run' 8 (by kernel_rfl) (by kernel_rfl)) (by kernel_rfl) (by kernel_rfl)
theorem laid_shaped(os:Os):(laidWorld os).Shaped Tryz.prog:=World.shaped_of_RefB (by kernel_rfl) (by kernel_rfl)
theorem tab_all:TOk Tryz.prog nu (fun u=>lTab.lookup u):=lTab_ok (str344_ok) (str194_ok) (str361_ok) (sign_ok) (str184_ok)
end Go.Proofs.YtajopjoiaogapaaGreatDoor
end
namespace Go.Ab
class CRef31 (T:Tbl):Prop where
def splitC(c:UInt8):List UInt8→List (List UInt8)
 | []=>[[]]
 | b::l=>if b=c then []::splitC c l else match splitC c l with
  | []=>[[b]]
  | p::r=>(b::p)::r
theorem zcm(c:UInt8):∀l:List UInt8,(l.count c=0∧Lib.indexByte l c=-1∧splitC c l=[l]) ∨
  ∃m:Nat,m<l.length∧Lib.indexByte l c=m∧splitC c l=l.take m::splitC c (l.drop (m+1))
 | []=>.inl ⟨rfl,rfl,rfl⟩
 | b::l=>by
  by_cases h:b=c
  ·right
   subst h
   refine⟨0,by simp,?_,?_⟩
   ·simp[Lib.indexByte]
   ·simp[splitC]
  ·have hb:(b == c)=false:=by simpa using h
   rcases zcm c l with ⟨h1,h2,h3⟩ | ⟨m,h1,h2,h3⟩
   ·left
    refine⟨by rw[List.count_cons_of_ne h,h1],by simp[Lib.indexByte,hb,h2],by simp[splitC,h,h3]⟩
   ·right
    have hm:((m:Int) == -1)=false:=by simp
    refine⟨m+1,by simpa using h1,by simp[Lib.indexByte,hb,h2,hm],by simp[splitC,h,h3]⟩
theorem zbv(c:UInt8):∀l:List UInt8,(splitC c l).length=l.count c+1
 | []=>rfl
 | b::l=>by
  have ih:=zbv c l
  by_cases h:b=c
  ·subst h
   simp[splitC,ih]
  ·rw[List.count_cons_of_ne h,←ih]
   cases hs:splitC c l with
   | nil=>rw[hs]at ih;simp at ih
   | cons p r=>simp[splitC,h,hs]
theorem zyw{T:Tbl}[CStr T](s:List UInt8)(c:UInt8):callF T 194 [.s s,.s [c]]=some (.i .i64 (Lib.indexByte s c)):=by rw[p194];rfl
theorem zyx{T:Tbl}[CStr T](s:List UInt8)(c:UInt8):callF T 361 [.s s,.s [c]]=some (.i .i64 ((s.count c:Nat):Int)):=by rw[p361];rfl
section
variable{T:Tbl}[CStr T][CSplit T]
theorem zk4(s:List UInt8)(c:UInt8):callF T 362 [.s s,.s [c]]=some (.i .i64 (Lib.indexByte s c)):=by
 have h:=zyw (T:=T) s c
 rw[f362 _ rfl,b362]
 simp -implicitDefEqProofs[h]
def stSp(c:UInt8)(N:Nat)(ps:List (List UInt8))(s:List UInt8):St:=
 ⟨[(0,.s s),(1,.s [c]),(2,.i .i64 0),(3,.i .i64 ((N:Int)-1)),(9,.bs (.loc 31) 1 1 0 N),(10,.i .i64 ps.length)],[(.loc 31,⟨1,.own,1,rowsT ps++List.replicate (N-ps.length) [.s []]⟩)],3⟩
theorem zpa(c:UInt8)(all:List (List UInt8))(hN:all.length≤1000001):∀y:List (List UInt8)×List UInt8,(y.1++splitC c y.2=all∧y.2.length≤1000000) →
  loopN T 0 0 (.norm false [0,9,10]) l354_0 (stSp c all.length y.1 y.2)=some (.n,⟨[(0,.s (all.getLastD [])),(9,.bs (.loc 31) 1 1 0 all.length),(10,.i .i64 ((all.length:Int)-1))],[(.loc 31,⟨1,.own,1,rowsT all.dropLast++[[.s []]]⟩)],3⟩):=by
 refine za3 (fun y:List (List UInt8)×List UInt8=>stSp c all.length y.1 y.2) (fun y=>y.1++splitC c y.2=all∧y.2.length≤1000000) (fun y=>y.2.length) (fun _=>_) ?_
 rintro⟨ps,s⟩ ⟨hall,hs⟩
 simp only at hall hs
 have hi:=zk4 (T:=T) s c
 have hlen:=congrArg List.length hall
 rw[List.length_append,zbv]at hlen
 unfold stSp
 rcases zcm c s with ⟨h1,h2,h3⟩ | ⟨m,h1,h2,h3⟩
 ·right
  rw[h3]at hall
  have e1:all.getLastD []=s:=by rw[←hall];simp
  have e2:all.dropLast=ps:=by rw[←hall];simp
  have e3:all.length-ps.length=1:=by omega
  have e4:¬ (ps.length:Int)<(all.length:Int)-1:=by omega
  have e5:(ps.length:Int)=(all.length:Int)-1:=by omega
  rw[e1,e2,e3,e5]
  have e6:List.replicate 1 [AV.s []]=[[AV.s []]]:=rfl
  rw[e6]
  have hw:wkL (rowsT ps++[[AV.s []]])=rowsT ps++[[AV.s []]]:=by
   rw[zbs,List.map_append,←zbs,zeu]
   rfl
  have hl2:(rowsT ps++[[AV.s []]]).length=all.length:=by simp;omega
  clear hall e1 e2 h3
  generalize rowsT ps++[[AV.s []]]=B at *
  constructor<;>simp -implicitDefEqProofs[l354_0,hw,hl2]
 ·left
  rw[h2]at hi
  have hpos:0<(splitC c (s.drop (m+1))).length:=by rw[zbv];omega
  have hlen2:=congrArg List.length hall
  rw[h3,List.length_append,List.length_cons]at hlen2
  refine⟨(ps++[s.take m],s.drop (m+1)),⟨by rw[←hall,h3];simp,by simp;omega⟩,by simp;omega,?_,rfl⟩
  have q1:(ps.length:Int)<(all.length:Int)-1:=by omega
  have q2:¬ (m:Int)<0:=by omega
  have q3:IntKind.wrap .i64 ((m:Int)+0)=m:=by rw[Int.add_zero];exact zab _ (by omega)
  have q3':IntKind.wrap .i64 (m:Int)=m:=zab _ (by omega)
  have q4:IntKind.wrap .i64 ((m:Int)+1)=((m+1:Nat):Int):=zab _ (by omega)
  have q5:IntKind.wrap .i64 ((ps.length:Int)+1)=((ps.length+1:Nat):Int):=zab _ (by omega)
  have q6:(m:Int)≤s.length:=by omega
  have q7:((m+1:Nat):Int)≤s.length:=by omega
  have q7':m+1≤s.length:=by omega
  have q8:(m:Int)+1≤s.length:=by omega
  have e:(rowsT ps++List.replicate (all.length-ps.length) [AV.s []]).set ps.length [AV.s (s.take m)]=rowsT (ps++[s.take m])++List.replicate (all.length-(ps.length+1)) [AV.s []]:=by
   rw[List.set_append_right _ _ (by simp),zco,Nat.sub_self,show all.length-ps.length=(all.length-(ps.length+1))+1 by omega,List.replicate_succ (n:=all.length-(ps.length+1)),List.set_cons_zero,
    show rowsT (ps++[s.take m])=rowsT ps++[[AV.s (s.take m)]] by simp[rowsT],List.append_assoc]
   rfl
  have hl:(rowsT ps++List.replicate (all.length-ps.length) [AV.s []]).length=all.length:=by simp;omega
  have hk:wkL ((rowsT ps++List.replicate (all.length-ps.length) [AV.s []]).set ps.length [AV.s (s.take m)])=(rowsT ps++List.replicate (all.length-ps.length) [AV.s []]).set ps.length [AV.s (s.take m)]:=by
   rw[e,zbs,List.map_append,←zbs,zeu]
   simp[wkR,wkA]
  have hg:(rowsT ps++List.replicate (all.length-ps.length) [AV.s []])[ps.length]? = some [AV.s []]:=by
   rw[List.getElem?_append_right (by simp),zco,Nat.sub_self,List.getElem?_replicate,if_pos (by omega)]
  simp only[List.length_append,List.length_cons,List.length_nil]
  rw[←e]
  have hnl:ps.length<all.length:=by omega
  have hnl':(ps.length:Int)<all.length:=by omega
  clear e hall h3 hpos hlen hlen2
  generalize rowsT ps++List.replicate (all.length-ps.length) [AV.s []]=B at *
  obtain⟨hb,hgE⟩:=List.getElem?_eq_some_iff.1 hg
  simp -implicitDefEqProofs[l354_0,hi,q1,q2,q3,q3',q4,q5,q6,q7,q7',q8,hl,hk,hg,hgE,hnl,hnl',h1]
theorem zsr(s:List UInt8)(c:UInt8)(hs:s.length≤1000000):callF T 346 [.s s,.s [c]]=some (.sl (rowsT (splitC c s)) .an):=by
 have hc:=zyx (T:=T) s c
 have hcl:s.count c≤s.length:=List.count_le_length
 have hlen:=zbv c s
 have h:=zpa (T:=T) c (splitC c s) (by omega) ([],s) ⟨by simp,hs⟩
 unfold stSp at h
 simp only[List.length_nil,Nat.sub_zero,Int.natCast_zero]at h
 have e0:rowsT []=[]:=rfl
 rw[e0,List.nil_append,hlen]at h
 have w1:IntKind.wrap .i64 ((s.count c:Int)+1)=((s.count c+1:Nat):Int):=zab _ (by omega)
 have w2:IntKind.wrap .i64 ((s.length:Int)+1)=((s.length+1:Nat):Int):=zab _ (by omega)
 have w3:IntKind.wrap .i64 (((s.count c+1:Nat):Int)-1)=((s.count c+1:Nat):Int)-1:=zab _ (by omega)
 have w4:IntKind.wrap .i64 (((s.count c+1:Nat):Int)-1+1)=((s.count c+1:Nat):Int):=by
  rw[Int.sub_add_cancel]
  exact zab _ (by omega)
 have mm:min ((s.count c+1:Nat):Int) ((s.length+1:Nat):Int)=((s.count c+1:Nat):Int):=by omega
 have hz:wkL (List.replicate (s.count c+1) [AV.s []])=List.replicate (s.count c+1) [AV.s []]:=by rw[zbs,List.map_replicate];rfl
 obtain⟨L,hL⟩:∃L,L=splitC c s:=⟨_,rfl⟩
 rw[←hL]at h ⊢ hlen
 have hne:L≠[]:=by intro e;rw[e]at hlen;simp at hlen
 have hset:(rowsT L.dropLast++[[AV.s []]]).set (s.count c) [AV.s (L.getLastD [])]=rowsT L:=by
  have h1:L.dropLast.length=s.count c:=by rw[List.length_dropLast];omega
  rw[List.set_append_right _ _ (by simp;omega),zco,h1,Nat.sub_self,List.set_cons_zero]
  have h2:L=L.dropLast++[L.getLastD []]:=by
   rw[List.getLastD_eq_getLast?,List.getLast?_eq_some_getLast hne,Option.getD_some,List.dropLast_concat_getLast]
  conv=>rhs;rw[h2]
  simp[rowsT]
 have hl2:(rowsT L.dropLast++[[AV.s []]]).length=s.count c+1:=by simp[List.length_dropLast];omega
 have hg:(rowsT L.dropLast++[[AV.s []]])[s.count c]? = some [AV.s []]:=by
  rw[List.getElem?_append_right (by simp[List.length_dropLast];omega)]
  simp[List.length_dropLast,hlen]
 have hr:(rowsT L).length=s.count c+1:=by simp[hlen]
 have n1:¬ ((s.count c:Int)+1<0):=by omega
 have n2:(s.count c:Int)+1≤4294967296:=by omega
 have hwR:wkL (rowsT L)=rowsT L:=zeu L
 generalize s.count c=k at *
 generalize rowsT L.dropLast++[[AV.s []]]=B at *
 obtain⟨hb,hgE⟩:=List.getElem?_eq_some_iff.1 hg
 generalize L.getLastD []=last at *
 generalize rowsT L=R at *
 clear hL hne
 have hk:(((k+1:Nat):Int)-1)=k:=by omega
 rw[hk]at h w3 w4
 have tk:List.take (k+1) R=R:=List.take_of_length_le (by omega)
 have hnlt:¬ s.length<k:=by omega
 have nn:(0:Int)≤(k:Int)+1:=by omega
 have nt:((k:Int)+1).toNat=k+1:=by omega
 have nk:(k:Int)<(k:Int)+1:=by omega
 have nle:(k:Int)+1≤(R.length:Int):=by omega
 have nle2:(k:Int)≤(B.length:Int):=by omega
 have hg354:callF T 354 [.s s,.s [c],.i .i64 0,.i .i64 (-1)]=some (.sl R .an):=by
  rw[f354 _ rfl,b354]
  simp -implicitDefEqProofs[hc,w1,w2,w3,w4,mm,hz,h,hset,hl2,hg,hgE,hr,n1,n2,tk,hnlt,nn,nt,nk,nle,nle2,hwR,hr]
 rw[f346 _ rfl,b346]
 simp -implicitDefEqProofs[hg354,hwR]
end
abbrev flt(k a:Int):AV:=.agg [.i .i64 k,.i .i64 0,.i .i64 0,.i .i64 a]
def isCut(c:UInt8):Bool:=c == 47 || c == 46
def cutN:List UInt8→Nat
 | []=>0
 | c::r=>if isCut c then 0 else cutN r+1
theorem zij:∀s,cutN s≤s.length
 | []=>Nat.le_refl _
 | c::r=>by
  have:=zij r
  simp only[cutN]
  split
  ·omega
  ·simp only[List.length_cons];omega
theorem znd:∀s:List UInt8,Lib.indexAny s [47,46]=if cutN s<s.length then (cutN s:Int) else -1
 | []=>rfl
 | c::r=>by
  have ih:=znd r
  have hc:([47,46]:List UInt8).contains c=isCut c:=by
   rw[Bool.eq_iff_iff]
   simp only[List.contains_iff_mem,List.mem_cons,List.not_mem_nil,or_false,isCut,Bool.or_eq_true,beq_iff_eq]
  have hle:=zij r
  simp only[Lib.indexAny,hc,cutN]
  by_cases hcut:isCut c=true
  ·simp[hcut]
  ·simp only[hcut,if_false,List.length_cons,Nat.add_lt_add_iff_right,Bool.false_eq_true]
   rw[ih]
   by_cases h:cutN r<r.length
   ·have e:((cutN r:Int) == -1)=false:=by simp
    simp[h,e]
   ·simp[h]
theorem zne:∀(s:List UInt8),cutN s<s.length→∃c,s[cutN s]? = some c∧(c=47∨c=46)
 | [],h=>by simp at h
 | c::r,h=>by
  simp only[cutN]at h ⊢
  cases hc:isCut c with
  | true=>
   refine⟨c,by simp,?_⟩
   simpa[isCut]using hc
  | false=>
   rw[hc]at h
   simp only[Bool.false_eq_true,if_false,List.length_cons,Nat.add_lt_add_iff_right]at h ⊢
   obtain⟨d,h1,h2⟩:=zne r h
   exact⟨d,by simpa using h1,h2⟩
theorem zre{l:List UInt8}(h0:¬ 0≤wrongI l):l.length≤60∧(ofN (rd l)).length≤60:=by
 have h1:wrAt 0 l<0:=by
  unfold wrongI at h0
  split at h0
  ·omega
  ·omega
 obtain⟨h2,h3⟩:=zft 0 l (Nat.zero_le _) h1
 refine⟨by omega,zae (k:=60) ?_⟩
 have h4:=ztb h3
 have h5:10^l.length≤10^60:=Nat.pow_le_pow_right (by decide) (by omega)
 exact Nat.lt_of_lt_of_le h4 (Nat.le_trans h5 (by decide))
def figB(z:Int)(neg:Bool)(s:List UInt8)(c:UInt8)(at_:Nat):Rat×Int×Int:=
 let rest:=s.drop at_
 if 0≤wrongI rest then (0,1,wrongI rest+at_)
 else if c=47 then (if rd rest=0 then (0,2,at_) else (mkRat z (rd rest),0,0))
 else (mkRat (sg neg (z.natAbs*10^rest.length+rd rest)) (10^rest.length),0,0)
def figR(s:List UInt8):Rat×Int×Int:=
 let first:=s.take (cutN s)
 if 0≤wrongZ first then (0,1,wrongZ first+minus first)
 else if cutN s<s.length then figB (readZ first) (s.head? = some 45) s (s.getD (cutN s) 0) (cutN s+1)
 else (mkRat (readZ first) 1,0,0)
theorem zrf{n:Nat}(h:n≤60):(ofN (10^n)).length≤60:=by
 refine zae (k:=60) ?_
 have h5:10^n≤10^60:=Nat.pow_le_pow_right (by decide) h
 exact Nat.lt_of_le_of_lt h5 (by decide)
theorem zrg(l:List UInt8):-1≤wrongZ l∧wrongZ l≤60∧0≤minus l∧minus l≤1:=by
 have key:∀l',-1≤wrongI l'∧wrongI l'≤60:=by
  intro l'
  unfold wrongI
  split
  ·omega
  ·exact⟨zmk 0 l',zg2 0 l' (by decide)⟩
 unfold wrongZ minus
 refine⟨(key _).1,(key _).2,?_,?_⟩<;>split<;>omega
section
variable{T:Tbl}[CNat T][CProd T][CTwos T][CQuot T][CQuotD T][CDigits T][CWhole T][CCommon T][CFrac T][CFrac2 T][CStr T][CSplit T][CFig T]
theorem zik(n:Bool)(a d:List UInt32)(ha:a.length≤10000)(hd:d.length≤10000) :
  callF T 204 [wh n a,.sl (u32s d) .an]=some (.tup (if val d=0 then [efz (fz 0),.b false] else [efz (fz (mkRat (wv n a) (val d))),.b true])):=by
 have c0:=zcl (T:=T)
 have c1:=ziq (T:=T) d (by omega)
 rw[f204 _ rfl,b204]
 by_cases h:val d=0
 ·rw[if_pos h]
  rw[decide_eq_true h]at c1
  generalize fz 0=Z at *
  simp -implicitDefEqProofs[c0,c1]
 ·rw[if_neg h]
  rw[decide_eq_false h]at c1
  have c2:=zl2 (T:=T) n a d ha hd h
  generalize fz (mkRat (wv n a) (val d))=R at *
  simp -implicitDefEqProofs[c1,c2]
theorem zoq(l:List UInt8):callF T 345 [.s l,.s [45]]=some (.b (l.head? = some 45)):=by
 have h1:callF T 123 [.s l,.s [45]]=some (.b (l.head? = some 45)):=by
  rw[f123 _ rfl,b123]
  cases l with
  | nil=>simp -implicitDefEqProofs
  | cons c r=>
   have h2:(1:Int)≤(r.length:Int)+1:=by omega
   by_cases hc:c=45<;>simp -implicitDefEqProofs[h2,hc]
 rw[f345 _ rfl,b345]
 simp -implicitDefEqProofs[h1]
theorem zhs(s:List UInt8)(k:Nat)(hk:k≤s.length)(hs:s.length≤1000000):callF T 253 [.s s,.i .i64 k] =
  some (.tup (if 0≤wrongI (s.drop k) then [.sl [] .an,flt 1 (wrongI (s.drop k)+k)] else [.sl (u32s (ofN (rd (s.drop k)))) .an,flt 0 0])):=by
 have h1:=zgl (T:=T) (s.drop k) (by rw[List.length_drop];omega)
 have hk':(k:Int)≤s.length:=by omega
 rw[f253 _ rfl,b253]
 by_cases h0:0≤wrongI (s.drop k)
 ·rw[if_pos h0]at h1 ⊢
  have hw:wrongI (s.drop k)≤60:=by
   unfold wrongI
   split
   ·omega
   ·exact zg2 0 _ (by decide)
  have w1:IntKind.wrap .i64 (wrongI (s.drop k)+(k:Int))=wrongI (s.drop k)+(k:Int):=zab _ (by omega)
  generalize wrongI (s.drop k)=W at *
  simp -implicitDefEqProofs[hk,hk',h1,w1]
 ·rw[if_neg h0]at h1 ⊢
  generalize ofN (rd (s.drop k))=R at *
  simp -implicitDefEqProofs[hk,hk',h1]
theorem zue(n:Bool)(a:List UInt32)(s:List UInt8)(k:Nat)(ha:a.length≤10000)(hk:k≤s.length)(hs:s.length≤1000000):callF T 254 [wh n a,.s s,.i .i64 k] =
  some (.tup (if 0≤wrongI (s.drop k) then [efz (fz 0),flt 1 (wrongI (s.drop k)+k)] else if rd (s.drop k)=0 then [efz (fz 0),flt 2 k] else [efz (fz (mkRat (wv n a) (rd (s.drop k)))),flt 0 0])):=by
 have h1:=zhs (T:=T) s k hk hs
 have c0:=zcl (T:=T)
 rw[f254 _ rfl,b254]
 by_cases h0:0≤wrongI (s.drop k)
 ·rw[if_pos h0]at h1 ⊢
  generalize fz 0=Z at *
  generalize wrongI (s.drop k)+(k:Int)=W at *
  simp -implicitDefEqProofs[h1,c0]
 ·rw[if_neg h0]at h1 ⊢
  have hl:=(zre h0).2
  have h2:=zik (T:=T) n a (ofN (rd (s.drop k))) ha (by omega)
  rw[zag]at h2
  by_cases hz:rd (s.drop k)=0
  ·rw[if_pos hz]at h2 ⊢
   clear hl h0
   generalize fz 0=Z at *
   generalize ofN (rd (s.drop k))=R at *
   simp -implicitDefEqProofs[h1,h2]
  ·rw[if_neg hz]at h2 ⊢
   clear hl h0
   generalize fz (mkRat (wv n a) (rd (s.drop k)))=Z at *
   generalize ofN (rd (s.drop k))=R at *
   simp -implicitDefEqProofs[h1,h2]
theorem zor(ht:∀n:Nat,n≤60→callF T 252 [.i .i64 n]=some (.sl (u32s (ofN (10^n))) .an))(n neg:Bool)(a:List UInt32)(s:List UInt8)(k:Nat)(ha:a.length≤1000)(hk:k≤s.length)(hs:s.length≤1000000) :
  callF T 255 [wh n a,.b neg,.s s,.i .i64 k] =
  some (.tup (if 0≤wrongI (s.drop k) then [efz (fz 0),flt 1 (wrongI (s.drop k)+k)] else [efz (fz (mkRat (sg neg (val a*10^(s.drop k).length+rd (s.drop k))) (10^(s.drop k).length))),flt 0 0])):=by
 have h1:=zhs (T:=T) s k hk hs
 have c0:=zcl (T:=T)
 rw[f255 _ rfl,b255]
 by_cases h0:0≤wrongI (s.drop k)
 ·rw[if_pos h0]at h1 ⊢
  generalize fz 0=Z at *
  generalize wrongI (s.drop k)+(k:Int)=W at *
  simp -implicitDefEqProofs[h1,c0]
 ·rw[if_neg h0]at h1 ⊢
  obtain⟨hl60,hl⟩:=zre h0
  have h2:=ht (s.drop k).length hl60
  have ht60:=zrf hl60
  have h3:=zep (T:=T) a (ofN (10^(s.drop k).length)) (by omega) (by omega)
  rw[zag]at h3
  have hm:(ofN (val a*10^(s.drop k).length)).length≤1060:=by
   have e1:=zad a
   have e2:=zbw (x:=val a) (y:=10^(s.drop k).length) (L:=1000) (M:=60) (by omega) ht60
   omega
  have h4:=zry (T:=T) [ofN (val a*10^(s.drop k).length),ofN (rd (s.drop k))] (by simp) (by
   intro x hx
   simp only[List.mem_cons,List.not_mem_nil,or_false]at hx
   rcases hx with rfl | rfl<;>omega)
  have e1:lls [ofN (val a*10^(s.drop k).length),ofN (rd (s.drop k))]=[[.sl (u32s (ofN (val a*10^(s.drop k).length))) .an],[.sl (u32s (ofN (rd (s.drop k)))) .an]]:=rfl
  have e2:sumL [ofN (val a*10^(s.drop k).length),ofN (rd (s.drop k))]=val a*10^(s.drop k).length+rd (s.drop k):=by simp[sumL,zag]
  rw[e1,e2]at h4
  have hsum:(ofN (val a*10^(s.drop k).length+rd (s.drop k))).length≤10000:=by
   have e3:=zcd (x:=((val a*10^(s.drop k).length:Nat):Int)) (y:=((rd (s.drop k):Nat):Int)) (L:=1060) (by rw[Int.natAbs_natCast];exact hm) (by rw[Int.natAbs_natCast];omega)
   rw[←Int.natCast_add,Int.natAbs_natCast]at e3
   omega
  have h5:=zik (T:=T) neg (ofN (val a*10^(s.drop k).length+rd (s.drop k))) (ofN (10^(s.drop k).length)) hsum (by omega)
  have hne:¬ 10^(s.drop k).length=0:=Nat.ne_of_gt (Nat.pow_pos (by decide))
  rw[zag,if_neg hne]at h5
  unfold wv at h5
  rw[zag]at h5
  have hd:(s.drop k).length=s.length-k:=List.length_drop
  have w1:IntKind.wrap .i64 ((s.length:Int)-(k:Int))=(((s.drop k).length:Nat):Int):=by
   rw[hd]
   have:((s.length-k:Nat):Int)=(s.length:Int)-k:=by omega
   rw[this]
   exact zab _ (by omega)
  clear hl hl60 ht60 hm e1 e2 hsum hne h0 hd ht
  generalize 10^(s.drop k).length=TN at *
  generalize (s.drop k).length=dl at *
  generalize fz (mkRat (sg neg (val a*TN+rd (s.drop k))) TN)=R at *
  generalize ofN (val a*TN+rd (s.drop k))=R1 at *
  generalize ofN (val a*TN)=R2 at *
  generalize ofN (rd (s.drop k))=R3 at *
  generalize ofN TN=R4 at *
  simp -implicitDefEqProofs[h1,h2,h3,h4,h5,w1]
theorem zuf(ht:∀n:Nat,n≤60→callF T 252 [.i .i64 n]=some (.sl (u32s (ofN (10^n))) .an))(s:List UInt8)(hs:s.length≤100000) :
  callF T 256 [.s s]=some (.tup [efz (fz (figR s).1),flt (figR s).2.1 (figR s).2.2]):=by
 have hi:callF T 344 [.s s,.s [47,46]]=some (.i .i64 (if cutN s<s.length then (cutN s:Int) else -1)):=by
  rw[p344,←znd]
  simp only[prim344]
  rw[if_pos (by omega)]
 have hr:=zph (T:=T) (s.take (cutN s)) (by rw[List.length_take];omega)
 have hle:=zij s
 have c0:=zcl (T:=T)
 rw[f256 _ rfl,b256]
 by_cases hc:cutN s<s.length
 ·rw[if_pos hc]at hi
  have q1:(0:Int)≤(cutN s:Int):=by omega
  have q2:(cutN s:Int)≤s.length:=by omega
  have q3:¬ (cutN s:Int)<0:=by omega
  by_cases h0:0≤wrongZ (s.take (cutN s))
  ·have eR:figR s=(0,1,wrongZ (s.take (cutN s))+minus (s.take (cutN s))):=by simp only[figR,if_pos h0]
   rw[eR]
   rw[if_pos h0]at hr
   clear eR
   simp only
   generalize fz 0=Z at *
   generalize wrongZ (s.take (cutN s))+minus (s.take (cutN s))=W at *
   simp -implicitDefEqProofs[hi,hr,c0,q1,q2,q3,hle]
  ·rw[if_neg h0]at hr
   have hrl:=zi5 h0
   obtain⟨c,hg,hcc⟩:=zne s hc
   obtain⟨_,hgE⟩:=List.getElem?_eq_some_iff.1 hg
   have hd:s.getD (cutN s) 0=c:=by rw[List.getD_eq_getElem?_getD,hg];rfl
   have eR:figR s=figB (readZ (s.take (cutN s))) (decide (s.head? = some 45)) s c (cutN s+1):=by simp only[figR,if_neg h0,if_pos hc,hd]
   rw[eR]
   have w1:IntKind.wrap .i64 ((cutN s:Int)+1)=((cutN s+1:Nat):Int):=zab _ (by omega)
   have q4:(cutN s:Int)<s.length:=by omega
   have px:=zoq (T:=T) s
   rcases hcc with rfl | rfl
   ·have ho:=zue (T:=T) (decide (readZ (s.take (cutN s))<0)) (ofN (readZ (s.take (cutN s))).natAbs) s (cutN s+1) (by omega) (by omega) (by omega)
    rw[zi4]at ho
    have ho2:callF T 254 [ez (readZ (s.take (cutN s))),.s s,.i .i64 ((cutN s+1:Nat):Int)]=some (.tup [efz (fz (figB (readZ (s.take (cutN s))) (decide (s.head? = some 45)) s 47 (cutN s+1)).1),
      flt (figB (readZ (s.take (cutN s))) (decide (s.head? = some 45)) s 47 (cutN s+1)).2.1 (figB (readZ (s.take (cutN s))) (decide (s.head? = some 45)) s 47 (cutN s+1)).2.2]):=by
     rw[ho]
     simp only[figB,if_true]
     split
     ·rfl
     ·split<;>rfl
    clear ho eR hd
    generalize figB (readZ (s.take (cutN s))) (decide (s.head? = some 45)) s 47 (cutN s+1)=R at *
    generalize fz R.1=Z at *
    have ec:((cutN s+1:Nat):Int)=(cutN s:Int)+1:=by omega
    rw[ec]at ho2 w1
    clear hrl h0 c0 ht
    generalize readZ (s.take (cutN s))=RZ at *
    simp -implicitDefEqProofs[hi,hr,q1,q2,q3,q4,hle,hc,hg,hgE,w1,ho2]
   ·have ho:=zor (T:=T) ht (decide (readZ (s.take (cutN s))<0)) (decide (s.head? = some 45)) (ofN (readZ (s.take (cutN s))).natAbs) s (cutN s+1) (by omega) (by omega) (by omega)
    rw[zag]at ho
    have ho2:callF T 255 [ez (readZ (s.take (cutN s))),.b (decide (s.head? = some 45)),.s s,.i .i64 ((cutN s+1:Nat):Int)]=some (.tup [efz (fz (figB (readZ (s.take (cutN s))) (decide (s.head? = some 45)) s 46 (cutN s+1)).1),
      flt (figB (readZ (s.take (cutN s))) (decide (s.head? = some 45)) s 46 (cutN s+1)).2.1 (figB (readZ (s.take (cutN s))) (decide (s.head? = some 45)) s 46 (cutN s+1)).2.2]):=by
     rw[ho]
     simp only[figB,show ¬ ((46:UInt8)=47) by decide,if_false]
     split<;>rfl
    clear ho eR hd
    generalize figB (readZ (s.take (cutN s))) (decide (s.head? = some 45)) s 46 (cutN s+1)=R at *
    generalize fz R.1=Z at *
    have ec:((cutN s+1:Nat):Int)=(cutN s:Int)+1:=by omega
    rw[ec]at ho2 w1
    clear hrl h0 c0 ht
    generalize readZ (s.take (cutN s))=RZ at *
    generalize decide (s.head? = some 45)=hd45 at *
    simp -implicitDefEqProofs[hi,hr,q1,q2,q3,q4,hle,hc,hg,hgE,w1,px,ho2]
 ·rw[if_neg hc]at hi
  have hcl:cutN s=s.length:=by omega
  have htk:s.take (cutN s)=s:=by rw[hcl];exact List.take_length
  rw[htk]at hr
  by_cases h0:0≤wrongZ s
  ·have eR:figR s=(0,1,wrongZ s+minus s):=by simp only[figR,htk,if_pos h0]
   rw[eR]
   rw[if_pos h0]at hr
   clear eR
   simp only
   generalize fz 0=Z at *
   generalize wrongZ s+minus s=W at *
   simp -implicitDefEqProofs[hi,hr,c0]
  ·have eR:figR s=(mkRat (readZ s) 1,0,0):=by simp only[figR,htk,if_neg h0,if_neg hc]
   rw[eR]
   rw[if_neg h0]at hr
   have hrl:=zi5 h0
   have h1:=zdv (T:=T) 1 (by decide)
   have h2:=zik (T:=T) (decide (readZ s<0)) (ofN (readZ s).natAbs) (ofN 1) (by omega) (by rw[zfb];decide)
   rw[zag,if_neg (by decide),zi4]at h2
   clear hrl h0 c0 ht eR
   simp only
   generalize fz (mkRat (readZ s) 1)=Z at *
   generalize readZ s=RZ at *
   generalize ofN 1=O at *
   simp -implicitDefEqProofs[hi,hr,h1,h2]
end
def readL:List (List UInt8)→Nat→List Rat→List Rat×Int×Int
 | [],_,acc=>(acc,0,0)
 | w::ws,k,acc=>if (figR w).2.1=0 then readL ws (k+w.length+1) (acc++[(figR w).1]) else ([],(figR w).2.1,(figR w).2.2+k)
def rowR(s:List UInt8):List Rat×Int×Int:=if s=[] then ([],0,0) else readL (splitC 44 s) 0 []
theorem ze3(w:List UInt8):((figR w).2.1=0∧(figR w).2.2=0)∨(((figR w).2.1=1∨(figR w).2.1=2)∧0≤(figR w).2.2∧(figR w).2.2≤w.length+62):=by
 have hle:=zij w
 obtain⟨z1,z2,z3,z4⟩:=zrg (w.take (cutN w))
 unfold figR
 simp only
 split
 ·next h=>refine .inr ⟨.inl rfl,?_,?_⟩<;>simp only<;>omega
 ·split
  ·next h h2=>
   unfold figB
   simp only
   split
   ·next h3=>
    have:wrongI (w.drop (cutN w+1))≤60:=by
     unfold wrongI
     split
     ·omega
     ·exact zg2 0 _ (by decide)
    refine .inr ⟨.inl rfl,?_,?_⟩<;>simp only<;>omega
   ·split
    ·split
     ·refine .inr ⟨.inr rfl,?_,?_⟩<;>simp only<;>omega
     ·left;simp
    ·left;simp
  ·left;simp
section
variable{T:Tbl}[CLimb T][CNat T][CProd T][CTwos T][CQuot T][CQuotD T][CDigits T][CText T][CWhole T][CCommon T][CFrac T][CFrac2 T][CStr T][CSplit T][CPow T][CFig T][CJoin T][CRow T][CRow2 T]
theorem zug(n:Nat)(hn:n≤60):callF T 252 [.i .i64 n]=some (.sl (u32s (ofN (10^n))) .an):=by
 have c1:=zdv (T:=T) 10 (by decide)
 have hb:blen 10=4:=by decide +kernel
 have c2:=zu5 (T:=T) (ofN 10) n (by
  have:=zae (n:=10) (k:=1) (by decide)
  omega) (by rw[zag,hb];decide) (by rw[zag,hb];omega)
 rw[zag]at c2
 rw[f252 _ rfl,b252]
 generalize ofN (10^n)=R at *
 generalize ofN 10=N at *
 simp -implicitDefEqProofs[c1,c2]
theorem zkg(s:List UInt8)(hs:s.length≤100000):callF T 256 [.s s]=some (.tup [efz (fz (figR s).1),flt (figR s).2.1 (figR s).2.2]):=
 zuf (T:=T) zug s hs
def stRR(ws:List (List UInt8))(y:Nat×Nat×List Rat):St:=
 ⟨[(3,.ptr (.loc 3) 1 4 0 0),(4,.bs (.loc 4) 2 3 0 y.2.2.length),(5,.i .i64 y.2.1),(14,.sl (rowsT ws) .an),(15,.i .i64 ws.length),(16,.i .i64 y.1)],
  [(.loc 3,⟨1,.str,4,[[.i .i64 0,.i .i64 0,.i .i64 0,.i .i64 0]]⟩),(.loc 4,⟨2,.own,3,rowF (fzs y.2.2)⟩)],4⟩
def resRR(r:List Rat×Int×Int):Option (Ex×St):=
 if r.2.1=0 then some (.n,⟨[(3,.ptr (.loc 3) 1 4 0 0),(4,.bs (.loc 4) 2 3 0 r.1.length)],[(.loc 3,⟨1,.str,4,[[.i .i64 0,.i .i64 0,.i .i64 0,.i .i64 0]]⟩),(.loc 4,⟨2,.own,3,rowF (fzs r.1)⟩)],4⟩)
 else some (.r,⟨[(2,.sl [] .an),(3,.ptr (.loc 3) 1 4 0 0)],[(.loc 3,⟨1,.str,4,[[.i .i64 r.2.1,.i .i64 0,.i .i64 0,.i .i64 r.2.2]]⟩)],3⟩)
theorem zxz(ws:List (List UInt8))(hl:ws.length≤1000000)(hw:∀w∈ws,w.length≤100000):∀y:Nat×Nat×List Rat,(y.1≤ws.length∧y.2.1≤y.1*100001∧y.2.2.length=y.1) →
  loopN T 0 0 (.norm false [3,4]) l275_0 (stRR ws y)=resRR (readL (ws.drop y.1) y.2.1 y.2.2):=by
 refine za3 (stRR ws) (fun y=>y.1≤ws.length∧y.2.1≤y.1*100001∧y.2.2.length=y.1) (fun y=>ws.length-y.1) (fun y=>resRR (readL (ws.drop y.1) y.2.1 y.2.2)) ?_
 rintro⟨i,k,acc⟩ ⟨hi,hk,ha⟩
 simp only at hi hk ha ⊢
 by_cases h0:i<ws.length
 ·have hm:=List.getElem_mem h0
  have hwl:=hw _ hm
  have hg:(rowsT ws)[i]? = some [.s (ws[i]'h0)]:=by simp[rowsT,h0]
  have hil:i<(rowsT ws).length:=by simpa using h0
  have hil':(i:Int)<ws.length:=by omega
  obtain⟨_,hgE⟩:=List.getElem?_eq_some_iff.1 hg
  have hwR:=zeu ws
  have c:=zkg (T:=T) (ws[i]'h0) hwl
  have hf:=ze3 (ws[i]'h0)
  have hdr:ws.drop i=ws[i]'h0::ws.drop (i+1):=List.drop_eq_getElem_cons h0
  have hws:=zda h0 (by omega)
  generalize ws[i]'h0=w at *
  have hml:(fzs acc).length=i:=by rw[zat,ha]
  have hb4:i≤4294967295:=by omega
  rcases hf with ⟨f1,f2⟩ | ⟨f1,f2,f3⟩
  ·left
   have hp:=zkz hml (fz (figR w).1)
   have ef:fzs (acc++[(figR w).1])=fzs acc++[fz (figR w).1]:=by simp[fzs]
   have w1:IntKind.wrap .i64 ((w.length:Int)+1)=(w.length:Int)+1:=zab _ (by omega)
   have w2:IntKind.wrap .i64 ((k:Int)+((w.length:Int)+1))=((k+w.length+1:Nat):Int):=by
    have:((k+w.length+1:Nat):Int)=(k:Int)+((w.length:Int)+1):=by omega
    rw[this]
    exact zab _ (by omega)
   refine⟨(i+1,k+w.length+1,acc++[(figR w).1]),⟨by omega,by simp only;omega,by simp[ha]⟩,by simp only;omega,?_,?_⟩
   ·unfold stRR
    simp only[List.length_append,List.length_cons,List.length_nil,ha]
    rw[ef]
    rw[f1,f2]at c
    clear hdr ef hw f1 f2
    generalize fz (figR w).1=X at *
    generalize fzs acc=M at *
    generalize rowsT ws=R at *
    simp -implicitDefEqProofs[l275_0,h0,hil,hil',hg,hgE,c,hws,w1,w2,hml,hb4,hp,hwR]
   ·simp only
    rw[hdr,readL,if_pos f1]
  ·right
   have hne:¬ (figR w).2.1=0:=by omega
   have er:readL (ws.drop i) k acc=([],(figR w).2.1,(figR w).2.2+k):=by rw[hdr,readL,if_neg hne]
   rw[er]
   unfold resRR stRR
   simp only[ha]
   rw[if_neg hne]
   have w1:IntKind.wrap .i64 ((figR w).2.2+(k:Int))=(figR w).2.2+(k:Int):=zab _ (by omega)
   clear hdr er hw
   generalize fz (figR w).1=X at *
   generalize (figR w).2.1=K at *
   generalize (figR w).2.2=A at *
   generalize fzs acc=M at *
   generalize rowsT ws=R at *
   rcases f1 with rfl | rfl<;>(constructor<;>simp -implicitDefEqProofs[l275_0,h0,hil,hil',hg,hgE,c,w1])
 ·right
  have hi2:i=ws.length:=by omega
  subst hi2
  rw[List.drop_length,readL]
  unfold resRR stRR
  simp only[if_true,ha]
  have hn:¬ ws.length<(rowsT ws).length:=by simp
  generalize fzs acc=M at *
  generalize rowsT ws=R at *
  generalize ws.length=n at *
  constructor<;>simp -implicitDefEqProofs[l275_0]
theorem zkh:∀(ws:List (List UInt8)) (k:Nat) (acc:List Rat),(readL ws k acc).2.1≠0→(readL ws k acc).1=[]
 | [],_,_,h=>by simp[readL]at h
 | w::ws,k,acc,h=>by
  unfold readL at h ⊢
  split at h
  ·next h1=>rw[if_pos h1];exact zkh ws _ _ h
  ·next h1=>rw[if_neg h1]
theorem znf:∀(ws:List (List UInt8)) (k:Nat) (acc:List Rat),(readL ws k acc).2.1=0→(readL ws k acc).2.2=0
 | [],_,_,h=>rfl
 | w::ws,k,acc,h=>by
  unfold readL at h ⊢
  split at h
  ·next h1=>rw[if_pos h1];exact znf ws _ _ h
  ·next h1=>exact absurd h h1
theorem zng(s:List UInt8)(hs:s.length≤100000) :
  callF T 275 [.s s]=some (.tup [.sl (rowF (fzs (rowR s).1)) .an,flt (rowR s).2.1 (rowR s).2.2]):=by
 rw[f275 _ rfl,b275]
 unfold rowR
 by_cases h0:s=[]
 ·subst h0
  have e0:fzs []=[]:=rfl
  simp only[if_true,e0,zet]
  simp -implicitDefEqProofs
 ·rw[if_neg h0]
  have hpl:∀(l:List UInt8) (w:List UInt8),w∈splitC 44 l→w.length≤l.length:=by
   intro l
   induction l with
   | nil=>intro w hw;simp[splitC]at hw;simp[hw]
   | cons b l ih=>
    intro w hw
    unfold splitC at hw
    split at hw
    ·rcases List.mem_cons.1 hw with rfl | hw
     ·simp
     ·have:=ih w hw;simp;omega
    ·cases hsp:splitC 44 l with
     | nil=>rw[hsp]at hw;simp at hw;simp[hw]
     | cons p r=>
      rw[hsp]at hw ih
      rcases List.mem_cons.1 hw with rfl | hw
      ·have:=ih p List.mem_cons_self;simp;omega
      ·have:=ih w (List.mem_cons_of_mem _ hw);simp;omega
  have hcl:(splitC 44 s).length≤s.length+1:=by
   rw[zbv]
   have:s.count 44≤s.length:=List.count_le_length
   omega
  have c:=zsr (T:=T) s 44 (by omega)
  have h:=zxz (T:=T) (splitC 44 s) (by omega) (fun w hw=>by have:=hpl s w hw;omega) (0,0,[]) ⟨Nat.zero_le _,Nat.zero_le _,rfl⟩
  have hnil:=zkh (splitC 44 s) 0 []
  have hat:=znf (splitC 44 s) 0 []
  simp only[List.drop_zero]at h
  unfold stRR at h
  have e0:fzs []=[]:=rfl
  simp only[e0,zet,Int.natCast_zero,List.length_nil]at h
  generalize readL (splitC 44 s) 0 []=r at *
  unfold resRR at h
  have hsl:=zco (splitC 44 s)
  have hwR:=zeu (splitC 44 s)
  generalize rowsT (splitC 44 s)=R at *
  generalize (splitC 44 s).length=n at *
  by_cases hr:r.2.1=0
  ·rw[if_pos hr]at h
   have ha:=hat hr
   rw[hr,ha]
   have hml:(fzs r.1).length=r.1.length:=zat r.1
   generalize fzs r.1=M at *
   generalize r.1.length=m at *
   have ht:List.take m M=M:=List.take_of_length_le (by omega)
   simp -implicitDefEqProofs[h0,c,hsl,h,ht,hml,hwR]
  ·rw[if_neg hr]at h
   rw[hnil hr]
   simp only[e0,zet]
   simp -implicitDefEqProofs[h0,c,hsl,h,hwR]
end
def Dig(l:List UInt8):Prop:=∀c∈l,48≤c.toNat∧c.toNat≤57
def NoCut(l:List UInt8):Prop:=∀c∈l,isCut c=false
def stgT(c:Fz)(r:List Fz):List UInt8:=textQ (fv c)++[124]++List.intercalate [44] (txts r)
def linesS(s:Sm):List (List UInt8):=
 [s.nm]++(s.c.zip s.a).map (fun p=>stgT p.1 p.2)++[[98,32]++List.intercalate [44] (txts s.b)]++(if s.e=[] then [] else [[101,32]++List.intercalate [44] (txts s.e)])
def textS(s:Sm):List UInt8:=List.intercalate [10] (linesS s)
structure Rd where
 rest:List UInt8
 at_:Nat
 over:Bool
def hdC(c:UInt8)(l:List UInt8):List UInt8:=l.takeWhile (· != c)
def tlC(c:UInt8)(l:List UInt8):List UInt8:=(l.dropWhile (· != c)).drop 1
def lineR(r:Rd):List UInt8:=if r.over then [] else hdC 10 r.rest
def nextR(r:Rd):Rd:=if r.over then r else ⟨tlC 10 r.rest,r.at_+(hdC 10 r.rest).length+(if r.rest.contains 10 then 1 else 0),!r.rest.contains 10⟩
def shF(f:Int×Int)(b:Int):Int×Int:=if f=(0,0) then f else (f.1,f.2+b)
def stgR(l:List UInt8)(from_:Int):Rat×List Rat×Int×Int:=
 if (figR (hdC 124 l)).2≠(0,0) then ((figR (hdC 124 l)).1,[],shF (figR (hdC 124 l)).2 from_)
 else ((figR (hdC 124 l)).1,(rowR (tlC 124 l)).1,shF (rowR (tlC 124 l)).2 (from_+(hdC 124 l).length+1))
def wgtR(c:UInt8)(r:Rd):List Rat×Int×Int:=
 if (lineR r).take 2=[c,32] then ((rowR ((lineR r).drop 2)).1,shF (rowR ((lineR r).drop 2)).2 (r.at_+2)) else ([],1,r.at_)
class CStep (T:Tbl):Prop where
theorem zsm(l:List Fz)(x:Fz):sumF (l++[x])=sumF l+fv x:=by simp[sumF]
theorem zk2(l:List Fz){i:Nat}(h:i<l.length):sumF (l.take (i+1))=sumF (l.take i)+fv (l[i]'h):=by
 rw[List.take_succ_eq_append_getElem h,zsm]
theorem ziw{l:List Fz}{B:Nat}(hw:∀x∈l,fsz x≤B)(hB:1≤B):∀i,i≤l.length→sz (sumF (l.take i))≤i*(B+1)+1
 | 0,_=>by
  grind[sumF,zg5]
 | i+1,hi=>by
  have ih:=ziw hw hB i (by omega)
  rw[zk2 l hi]
  have h1:=ztf (sumF (l.take i)) (fv (l[i]'hi))
  have h3:=zi6 (hw _ (List.getElem_mem hi)) hB
  grind
theorem zsn{x:Fz}(h:numF x=true):fsz x≤6:=by
 unfold numF at h
 simp only[Bool.and_eq_true,decide_eq_true_eq]at h
 obtain⟨h1,h2⟩:=h
 unfold rightF at h1
 have e:x=fz (fv x):=by grind
 rw[e]at h2 ⊢
 have:=zyr (q:=fv x) (b:=190) h2
 rw[zbg]
 omega
section
variable{T:Tbl}[CLimb T][CNat T][CProd T][CTwos T][CQuot T][CQuotD T][CWhole T][CCommon T][CFrac T][CFrac3 T][CFrac5 T][CPow T][CTape T][CGauge T][CEval T][CRun T][CIfc T][CScheme T]
def stSu(l:List Fz)(i:Nat):St:=⟨[(2,.ptr (.loc 2) 1 3 0 0),(3,.ptr (.loc 3) 2 3 0 0),(7,.sl (rowF l) .an),(8,.i .i64 l.length),(9,.i .i64 i)],
 [(.loc 2,⟨1,.str,3,[nocell]⟩),(.loc 3,⟨2,.str,3,[celF (fz (sumF (l.take i)))]⟩)],4⟩
theorem zve(l:List Fz){B:Nat}(hw:∀x∈l,fsz x≤B)(hB:1≤B)(hS:l.length*(B+1)+1≤1000) :
  loopN T 0 0 (.norm false [2,3]) l562_0 (stSu l 0)=some (.n,⟨[(2,.ptr (.loc 2) 1 3 0 0),(3,.ptr (.loc 3) 2 3 0 0)],[(.loc 2,⟨1,.str,3,[nocell]⟩),(.loc 3,⟨2,.str,3,[celF (fz (sumF l))]⟩)],4⟩):=by
 refine za0 (stSu l) l.length _ (fun i hi=>?_) ?_
 ·have hlen:l.length*1≤1000:=Nat.le_trans (Nat.mul_le_mul_left _ (show 1≤B+1 by omega)) (by omega)
  have hBB:B+1≤1000:=Nat.le_trans (Nat.le_mul_of_pos_left _ (show 0<l.length by omega)) (by omega)
  have hws:=zda hi (by omega)
  have ha1:=hw _ (List.getElem_mem hi)
  have s1:=ziw hw hB i (by omega)
  have s2:i*(B+1)≤l.length*(B+1):=Nat.mul_le_mul_right _ (by omega)
  have c2:=zuh (T:=T) (fz (sumF (l.take i))) (l[i]'hi) (by rw[zbg];omega) (by omega)
  rw[zcw,←zk2 l hi]at c2
  unfold stSu
  simp -implicitDefEqProofs[l562_0,hi,hws,c2]
 ·unfold stSu
  constructor<;>simp -implicitDefEqProofs[l562_0]
theorem ze8(l:List Fz){B:Nat}(hw:∀x∈l,fsz x≤B)(hB:1≤B)(hS:l.length*(B+1)+1≤1000) :
  callF T 562 [.sl (rowF l) .an]=some (efz (fz (sumF l))):=by
 have h0:=zcl (T:=T)
 have h:=zve (T:=T) l hw hB hS
 unfold stSu at h
 have e0:sumF (l.take 0)=0:=rfl
 rw[e0]at h
 simp only[Int.natCast_zero]at h
 rw[f562 _ rfl,b562]
 simp -implicitDefEqProofs[h0,h]
def stNu0(m:List (List Fz))(r:List Fz)(j i:Nat):St:=⟨[(7,.sl (matF m) .an),(8,.i .i64 m.length),(9,.i .i64 j),(13,.sl (rowF r) .an),(14,.i .i64 r.length),(15,.i .i64 i)],[],2⟩
theorem zso(m:List (List Fz))(r:List Fz)(j:Nat)(hl:r.length≤1000)(hw:∀x∈r,fsz x≤1000) :
  loopN T 0 2 (.norm false [7,8,9]) l560_0 (stNu0 m r j 0)=if (r.drop 0).all numF=true then some (.n,⟨[(7,.sl (matF m) .an),(8,.i .i64 m.length),(9,.i .i64 j)],[],2⟩) else some (.r,⟨[(2,.b false)],[],2⟩):=by
 refine zbm (stNu0 m r j) r.length (fun i=>if (r.drop i).all numF=true then some (.n,⟨[(7,.sl (matF m) .an),(8,.i .i64 m.length),(9,.i .i64 j)],[],2⟩) else some (.r,⟨[(2,.b false)],[],2⟩)) (fun i hi=>?_) ?_
 ·have hws:=zda hi (by omega)
  have hx:=hw _ (List.getElem_mem hi)
  have c1:=zou (T:=T) (r[i]'hi) (by omega)
  have c2:=zov (T:=T) (r[i]'hi) (by omega)
  have key:(r.drop i).all numF=(numF (r[i]'hi)&&(r.drop (i+1)).all numF):=by rw[List.drop_eq_getElem_cons hi,List.all_cons]
  have hn:numF (r[i]'hi)=(rightF (r[i]'hi)&&decide (sizF (r[i]'hi)≤190)):=rfl
  by_cases h1:rightF (r[i]'hi)=true
  ·by_cases h2:sizF (r[i]'hi)≤190
   ·left
    refine⟨?_,by grind⟩
    have h3:¬ (190:Int)<sizF (r[i]'hi):=by omega
    unfold stNu0
    simp -implicitDefEqProofs[l560_0,hi,hws,c1,c2,h1,h3]
   ·right
    have h3:(190:Int)<sizF (r[i]'hi):=by omega
    rw[if_neg (by grind)]
    unfold stNu0
    constructor<;>simp -implicitDefEqProofs[l560_0,hi,c1,c2,h1,h3]
  ·right
   have h1':rightF (r[i]'hi)=false:=by grind
   rw[if_neg (by grind)]
   unfold stNu0
   constructor<;>simp -implicitDefEqProofs[l560_0,hi,c1,h1']
 ·simp only[List.drop_length,List.all_nil,if_true]
  unfold stNu0
  constructor<;>simp -implicitDefEqProofs[l560_0]
def stNu1(m:List (List Fz))(i:Nat):St:=⟨[(7,.sl (matF m) .an),(8,.i .i64 m.length),(9,.i .i64 i)],[],2⟩
theorem zsp(m:List (List Fz))(hl:m.length≤1000)(hw:∀r∈m,r.length≤1000∧∀x∈r,fsz x≤1000) :
  loopN T 0 0 (.norm false []) l560_1 (stNu1 m 0)=if numM (m.drop 0)=true then some (.n,⟨[],[],2⟩) else some (.r,⟨[(2,.b false)],[],2⟩):=by
 refine zbm (stNu1 m) m.length (fun i=>if numM (m.drop i)=true then some (.n,⟨[],[],2⟩) else some (.r,⟨[(2,.b false)],[],2⟩)) (fun i hi=>?_) ?_
 ·have hws:=zda hi (by omega)
  obtain⟨h1,h2⟩:=hw _ (List.getElem_mem hi)
  have h:=zso (T:=T) m (m[i]'hi) i h1 h2
  have key:numM (m.drop i)=((m[i]'hi).all numF&&numM (m.drop (i+1))):=by grind[numM,List.drop_eq_getElem_cons]
  unfold stNu0 at h
  rw[List.drop_zero]at h
  simp only[Int.natCast_zero]at h
  by_cases hr:(m[i]'hi).all numF=true
  ·left
   rw[if_pos hr]at h
   refine⟨?_,by grind⟩
   unfold stNu1
   simp -implicitDefEqProofs[l560_1,hi,hws,h]
  ·right
   rw[if_neg hr]at h
   rw[if_neg (by grind)]
   unfold stNu1
   constructor<;>simp -implicitDefEqProofs[l560_1,hi,h]
 ·have e:numM []=true:=rfl
  simp only[List.drop_length,e,if_true]
  unfold stNu1
  constructor<;>simp -implicitDefEqProofs[l560_1]
theorem zdw(m:List (List Fz))(hl:m.length≤1000)(hw:∀r∈m,r.length≤1000∧∀x∈r,fsz x≤1000):callF T 560 [.sl (matF m) .an]=some (.b (numM m)):=by
 have h:=zsp (T:=T) m hl hw
 unfold stNu1 at h
 rw[List.drop_zero]at h
 simp only[Int.natCast_zero]at h
 rw[f560 _ rfl,b560]
 cases hn:numM m with
 | true=>rw[hn]at h;simp at h;simp -implicitDefEqProofs[h]
 | false=>rw[hn]at h;simp at h;simp -implicitDefEqProofs[h]
def stShp(a:List (List Fz))(i:Nat):St:=⟨[(43,.sl (matF a) .an),(44,.i .i64 a.length),(45,.i .i64 i)],[],2⟩
theorem zo9(a:List (List Fz))(hl:a.length≤1000) :
  loopN T 0 0 (.norm false []) l559_0 (stShp a 0)=if shapeL (a.drop 0) 0=true then some (.n,⟨[],[],2⟩) else some (.r,⟨[(2,.b false)],[],2⟩):=by
 refine zbm (stShp a) a.length (fun i=>if shapeL (a.drop i) i=true then some (.n,⟨[],[],2⟩) else some (.r,⟨[(2,.b false)],[],2⟩)) (fun i hi=>?_) ?_
 ·have hws:=zda hi (by omega)
  have key:shapeL (a.drop i) i=(decide ((a[i]'hi).length=i)&&shapeL (a.drop (i+1)) (i+1)):=by rw[List.drop_eq_getElem_cons hi,shapeL]
  by_cases hr:(a[i]'hi).length=i
  ·left
   refine⟨?_,by grind⟩
   unfold stShp
   simp -implicitDefEqProofs[l559_0,hi,hws,hr]
  ·right
   have hr':¬ ((a[i]'hi).length:Int)=i:=by omega
   rw[if_neg (by grind)]
   unfold stShp
   constructor<;>simp -implicitDefEqProofs[l559_0,hi,hr']
 ·have e:shapeL [] a.length=true:=rfl
  simp only[List.drop_length,e,if_true]
  unfold stShp
  constructor<;>simp -implicitDefEqProofs[l559_0]
theorem zk3(s:Sm)(hs:SmS s):callF T 559 [esm s]=some (.b (shapeS s)):=by
 have h:=zo9 (T:=T) s.a hs.al
 unfold stShp at h
 rw[List.drop_zero]at h
 have l4:=hs.el
 rw[f559 _ rfl,b559]
 unfold shapeS
 obtain⟨nm,c,a,b,e⟩:=s
 by_cases p1:b.length<1
 ·have q2:b=[]:=List.length_eq_zero_iff.1 (by omega)
  subst q2
  simp -implicitDefEqProofs[]
 have p1':1≤b.length:=by omega
 have m2:¬ (b.length:Int)<1:=by omega
 by_cases p2:8<b.length
 ·have q2:¬ b.length≤8:=by omega
  have m3:(8:Int)<b.length:=by omega
  simp -implicitDefEqProofs[p1',q2,m2,m3]
 have p2':b.length≤8:=by omega
 have m3:¬ (8:Int)<b.length:=by omega
 by_cases p3:c.length=b.length
 rotate_left
 ·have q3:¬ (c.length:Int)=b.length:=by omega
  simp -implicitDefEqProofs[p1',p2',m2,m3,p3,q3]
 by_cases p4:a.length=b.length
 rotate_left
 ·have q4:¬ (a.length:Int)=b.length:=by omega
  simp -implicitDefEqProofs[p1',p2',m2,m3,p3,p4,q4]
 rw[p4]at h
 by_cases p5:e.length=b.length
 ·cases hsh:shapeL a 0<;>rw[hsh]at h<;>simp at h<;>simp -implicitDefEqProofs[p1',p2',m2,m3,p3,p4,p5,h]
 have q5:¬ (e.length:Int)=b.length:=by omega
 by_cases p6:e.length=0
 ·have e0:e=[]:=List.length_eq_zero_iff.1 p6
  have q7:¬ (0:Int)=b.length:=by omega
  have q8:¬ 0=b.length:=by omega
  subst e0
  cases hsh:shapeL a 0<;>rw[hsh]at h<;>simp at h<;>simp -implicitDefEqProofs[p1',p2',m2,m3,p3,p4,q7,q8,h]
 ·have q7:¬ e=[]:=fun h=>p6 (by grind)
  simp -implicitDefEqProofs[p1',p2',m2,m3,p3,p4,p5,q5,p6]
def bxS(s:Sm):Box:=⟨1,.str,5,[[.s s.nm,.sl (rowF s.c) .an,.sl (matF s.a) .an,.sl (rowF s.b) .an,.sl (rowF s.e) .an]]⟩
def stRw(s:Sm)(i:Nat):St:=⟨[(1,.ptr (.loc 1) 1 5 0 0),(6,.sl (matF s.a) .an),(7,.i .i64 s.a.length),(8,.i .i64 i)],[(.loc 1,bxS s)],3⟩
theorem zsq(s:Sm)(hl:s.a.length≤8)(hc:s.c.length=s.a.length)(h1:∀r∈s.a,r.length≤8∧∀x∈r,fsz x≤6)(h2:∀x∈s.c,fsz x≤6) :
  loopN T 0 0 (.norm false []) l561_0 (stRw s 0)=if rowsSm (s.a.drop 0) (s.c.drop 0)=true then some (.n,⟨[],[],2⟩) else some (.r,⟨[(2,.b false)],[],2⟩):=by
 refine zbm (stRw s) s.a.length (fun i=>if rowsSm (s.a.drop i) (s.c.drop i)=true then some (.n,⟨[],[],2⟩) else some (.r,⟨[(2,.b false)],[],2⟩)) (fun i hi=>?_) ?_
 ·have hic:i<s.c.length:=by omega
  have hws:=zda hi (by omega)
  obtain⟨g1,g2⟩:=h1 _ (List.getElem_mem hi)
  have g3:=h2 _ (List.getElem_mem hic)
  have c1:=ze8 (T:=T) (s.a[i]'hi) g2 (by decide) (by omega)
  have z1:=ziw g2 (by decide) (s.a[i]'hi).length (Nat.le_refl _)
  rw[List.take_of_length_le (Nat.le_refl _)]at z1
  have c2:=zgm (T:=T) (fz (sumF (s.a[i]'hi))) (s.c[i]'hic) (by rw[zbg];omega) (by omega)
  rw[zcw]at c2
  have key:rowsSm (s.a.drop i) (s.c.drop i)=(decide (sumF (s.a[i]'hi)=fv (s.c[i]'hic))&&rowsSm (s.a.drop (i+1)) (s.c.drop (i+1))):=by
   grind[rowsSm,List.drop_eq_getElem_cons,List.zip_cons_cons]
  have hic':(i:Int)<s.c.length:=by omega
  generalize fz (sumF (s.a[i]'hi))=z at *
  by_cases he:sumF (s.a[i]'hi)=fv (s.c[i]'hic)
  ·left
   refine⟨?_,by grind⟩
   unfold stRw bxS
   simp -implicitDefEqProofs[l561_0,hi,hws,c1,c2,he,hic,hic']
  ·right
   rw[if_neg (by grind)]
   unfold stRw bxS
   constructor<;>simp -implicitDefEqProofs[l561_0,hi,c1,c2,he,hic,hic']
 ·have e:rowsSm [] (s.c.drop s.a.length)=true:=rfl
  simp only[List.drop_length,e,if_true]
  unfold stRw bxS
  constructor<;>simp -implicitDefEqProofs[l561_0]
theorem zmi(s:Sm)(hl:s.a.length≤8)(hc:s.c.length=s.a.length)(h1:∀r∈s.a,r.length≤8∧∀x∈r,fsz x≤6)(h2:∀x∈s.c,fsz x≤6):callF T 561 [esm s]=some (.b (rowsSm s.a s.c)):=by
 have h:=zsq (T:=T) s hl hc h1 h2
 unfold stRw bxS at h
 rw[List.drop_zero,List.drop_zero]at h
 rw[f561 _ rfl,b561]
 obtain⟨nm,c,a,b,e⟩:=s
 cases hr:rowsSm a c<;>rw[hr]at h<;>simp at h<;>simp -implicitDefEqProofs[h]
theorem ze9:∀(a:List (List Fz)) (i:Nat),shapeL a i=true→∀r∈a,r.length≤i+a.length
 | [],_,_,r,hr=>by grind
 | x::a,i,h,r,hr=>by
  simp only[shapeL,Bool.and_eq_true,decide_eq_true_eq]at h
  rcases List.mem_cons.1 hr with rfl | hr
  ·omega
  ·have:=ze9 a (i+1) h.2 r hr
   grind
theorem zh1{s:Sm}(h:shapeS s=true):1≤s.b.length∧s.b.length≤8∧s.c.length=s.b.length∧s.a.length=s.b.length∧(s.e.length=s.b.length∨s.e.length=0)∧shapeL s.a 0=true:=by
 grind[shapeS]
theorem zix{m:List (List Fz)}(h:numM m=true):∀r∈m,∀x∈r,fsz x≤6:=by
 grind[numM,zsn]
theorem znr{l:List Fz}(hl:l.length≤8)(hw:∀x∈l,fsz x≤6):sz (sumF l)≤57:=by
 have:=ziw hw (by decide) l.length (Nat.le_refl _)
 grind
end
section
variable{T:Tbl}[CLimb T][CNat T][CProd T][CTwos T][CQuot T][CQuotD T][CWhole T][CCommon T][CFrac T][CFrac3 T][CFrac5 T][CPow T][CTape T][CGauge T][CEval T][CRun T][CIfc T][CJoin T][CLex T][CScheme T]
theorem zfh(s:Sm)(hs:SmS s):callF T 551 [esm s]=some (.i .i64 (wrongS s)):=by
 have o1:=zil (T:=T)
 have c1:=zkk (T:=T) 2 0 s.nm (Nat.le_trans hs.nm (by decide))
 have c2:=zk3 (T:=T) s hs
 have c3:=zdw (T:=T) s.a hs.al (fun r hr=>⟨(hs.a r hr).1,fun x hx=>Nat.le_trans ((hs.a r hr).2 x hx) (by decide)⟩)
 have c4:=zdw (T:=T) [s.b,s.c,s.e] (by simp) (fun r hr=>by
  simp only[List.mem_cons,List.not_mem_nil,or_false]at hr
  rcases hr with rfl | rfl | rfl
  ·exact⟨hs.bl,fun x hx=>Nat.le_trans (hs.b x hx) (by decide)⟩
  ·exact⟨hs.cl,fun x hx=>Nat.le_trans (hs.c x hx) (by decide)⟩
  ·exact⟨hs.el,fun x hx=>Nat.le_trans (hs.e x hx) (by decide)⟩)
 replace c4:callF T 560 [.sl [[.sl (rowF s.b) .an],[.sl (rowF s.c) .an],[.sl (rowF s.e) .an]] .an]=some (.b (numM [s.b,s.c,s.e])):=c4
 have k5:=zmi (T:=T) s
 have k6:=fun(hl:s.b.length≤8) (h:∀x∈s.b,fsz x≤6)=>ze8 (T:=T) s.b h (by decide) (by omega)
 have k7:=fun(hl:s.e.length≤8) (h:∀x∈s.e,fsz x≤6)=>ze8 (T:=T) s.e h (by decide) (by omega)
 rw[f551 _ rfl,b551]
 unfold wrongS
 cases g1:rightB 2 s.nm with
 | false=>
  rw[g1]at c1
  obtain⟨nm,c,a,b,e⟩:=s
  generalize fz 1=z1 at *
  dsimp only at *
  simp -implicitDefEqProofs[o1,c1]
 | true=>
 rw[g1]at c1
 cases g2:shapeS s with
 | false=>
  rw[g2]at c2
  obtain⟨nm,c,a,b,e⟩:=s
  generalize fz 1=z1 at *
  dsimp only at *
  simp -implicitDefEqProofs[o1,c1,c2]
 | true=>
 rw[g2]at c2
 obtain⟨s1,s2,s3,s4,s5,s6⟩:=zh1 g2
 cases g3:numM s.a with
 | false=>
  rw[g3]at c3
  obtain⟨nm,c,a,b,e⟩:=s
  simp -implicitDefEqProofs[o1,c1,c2,c3]
 | true=>
 rw[g3]at c3
 cases g4:numM [s.b,s.c,s.e]with
 | false=>
  rw[g4]at c4
  obtain⟨nm,c,a,b,e⟩:=s
  simp -implicitDefEqProofs[o1,c1,c2,c3,c4]
 | true=>
 rw[g4]at c4
 have n1:=zix g3
 have n2:=zix g4
 have nb:=n2 s.b (by simp)
 have nc:=n2 s.c (by simp)
 have ne:=n2 s.e (by simp)
 have c5:=k5 (by omega) (by omega) (fun r hr=>⟨by have:=ze9 _ _ s6 r hr;omega,n1 r hr⟩) nc
 have c6:=k6 (by omega) nb
 have c7:=k7 (by omega) ne
 have z6:=znr (l:=s.b) (by omega) nb
 have z7:=znr (l:=s.e) (by omega) ne
 have d6:=zgm (T:=T) (fz (sumF s.b)) (fz 1) (by rw[zbg];omega) (by rw[zbg,znx];omega)
 have d7:=zgm (T:=T) (fz (sumF s.e)) (fz 1) (by rw[zbg];omega) (by rw[zbg,znx];omega)
 rw[zcw,zcw]at d6 d7
 cases g5:rowsSm s.a s.c with
 | false=>
  rw[g5]at c5
  obtain⟨nm,c,a,b,e⟩:=s
  simp -implicitDefEqProofs[o1,c1,c2,c3,c4,c5]
 | true=>
 rw[g5]at c5
 obtain⟨nm,c,a,b,e⟩:=s
 generalize fz (sumF b)=zb at *
 generalize fz (sumF e)=ze at *
 by_cases g6:sumF b=1
 ·by_cases g7:e=[]
  ·subst g7
   replace c2:callF T 559 [.agg [.s nm,.sl (rowF c) .an,.sl (matF a) .an,.sl (rowF b) .an,.sl [] .an]]=_:=c2
   replace c4:callF T 560 [.sl [[.sl (rowF b) .an],[.sl (rowF c) .an],[.sl [] .an]] .an]=_:=c4
   replace c5:callF T 561 [.agg [.s nm,.sl (rowF c) .an,.sl (matF a) .an,.sl (rowF b) .an,.sl [] .an]]=_:=c5
   simp -implicitDefEqProofs[o1,c1,c2,c3,c4,c5,c6,d6,g6]
  ·have l7:0<e.length:=List.length_pos_iff.2 g7
   by_cases g8:sumF e=1
   ·simp -implicitDefEqProofs[o1,c1,c2,c3,c4,c5,c6,d6,g6,c7,d7,g7,g8,l7]
   ·simp -implicitDefEqProofs[o1,c1,c2,c3,c4,c5,c6,d6,g6,c7,d7,g7,g8,l7]
 ·simp -implicitDefEqProofs[o1,c1,c2,c3,c4,c5,c6,d6,g6]
theorem zfi(s:Sm)(hs:SmS s):callF T 536 [esm s]=some (.b (okS s)):=by
 have h:=zfh (T:=T) s hs
 rw[f536 _ rfl,b536]
 unfold okS
 generalize wrongS s=w at *
 by_cases hw:w=0
 ·subst hw
  simp -implicitDefEqProofs[h]
 ·simp -implicitDefEqProofs[h,hw]
end
structure PbS (q:Pb):Prop where
 t:TpS q.t
 s:SmS q.s
 p:∀x∈q.p,fsz x≤1000
 pl:q.p.length≤1000
def slopeP(p:Pb)(t:Fz)(y:List Fz):List Rat×Nat×Nat:=fieldR (limN p.bits) p.t ⟨fv t,y.map fv,p.p.map fv⟩
def bxR(g:Nat)(r:Rd):Box:=⟨g,.str,3,[[.s r.rest,.i .i64 r.at_,.b r.over]]⟩
theorem zsj(c:UInt8):∀l:List UInt8,decide (0≤Lib.indexByte l c)=l.contains c:=by
 intro l
 have h:=Lib.indexByte
 rcases zcm c l with ⟨h1,h2,_⟩ | ⟨m,h1,h2,h3⟩
 ·rw[h2]
  have:c∉l:=fun hc=>by have:=List.count_pos_iff.2 hc;omega
  simp[this]
 ·rw[h2]
  have:c∈l:=by
   have hc:l.count c≠0:=by
    intro h0
    rcases zcm c l with ⟨_,k,_⟩ | ⟨k,_,_,h4⟩
    ·rw[k]at h2;omega
    ·have:=zbv c l
     rw[h3,List.length_cons,zbv,h0]at this
     omega
   exact List.count_pos_iff.1 (by omega)
  simp[this]
section
variable{T:Tbl}[CDigits T][CJoin T][CLex T][CStr T][CSplit T][CSchP T]
theorem zo7(l:List UInt8)(c:UInt8)(hl:l.length≤1000000):callF T 64 [.s l,.s [c,32]]=some (.tup [.s (if l.take 2=[c,32] then l.drop 2 else l),.b (decide (l.take 2=[c,32]))]):=by
 have h1:callF T 123 [.s l,.s [c,32]]=some (.b (decide (l.take 2=[c,32]))):=by
  rw[f123 _ rfl,b123]
  match l with
  | []=>simp -implicitDefEqProofs
  | [a]=>simp -implicitDefEqProofs
  | a::b::r=>
   have h2:(2:Int)≤(r.length:Int)+1+1:=by omega
   have h3:2≤r.length+1+1:=by omega
   by_cases ha:a=c
   ·by_cases hb:b=32
    ·simp -implicitDefEqProofs[h2,h3,ha,hb]
    ·simp -implicitDefEqProofs[h2,h3,ha,hb]
   ·simp -implicitDefEqProofs[h2,h3,ha]
 have h3:callF T 98 [.s l,.s [c,32]]=some (.tup [.s (if l.take 2=[c,32] then l.drop 2 else l),.b (decide (l.take 2=[c,32]))]):=by
  rw[f98 _ rfl,b98]
  by_cases h:l.take 2=[c,32]
  ·have hlen:2≤l.length:=by
    have:=congrArg List.length h
    rw[List.length_take]at this
    simp at this
    omega
   have hlen':(2:Int)≤l.length:=by omega
   rw[decide_eq_true h]at h1
   rw[if_pos h,decide_eq_true h]
   clear h
   simp -implicitDefEqProofs[h1,hlen,hlen']
  ·rw[decide_eq_false h]at h1
   rw[if_neg h,decide_eq_false h]
   clear h
   simp -implicitDefEqProofs[h1]
 rw[f64 _ rfl,b64]
 generalize decide (l.take 2=[c,32])=B at *
 generalize (if l.take 2=[c,32] then l.drop 2 else l)=M at *
 simp -implicitDefEqProofs[h3]
theorem zme(l:List UInt8)(c:UInt8):callF T 618 [.s l,.s [c]]=some (.b (l.contains c)):=by
 have h:=zk4 (T:=T) l c
 have e:=zsj c l
 rw[f618 _ rfl,b618,←e]
 generalize Lib.indexByte l c=n at *
 simp -implicitDefEqProofs[h]
theorem ze6(r:Rd)(hr:r.rest.length≤1000000)(ha:r.at_≤1000000) :
  callH T 614 [.ptr (.bor 0) 0 3 0 0] [(.bor 0,bxR 0 r)]=some (.tup [.s (lineR r),.i .i64 r.at_,.b (!r.over)],[(.bor 0,bxR 0 (nextR r))]):=by
 have c:=zrp (T:=T) r.rest hr
 unfold bxR lineR nextR
 obtain⟨l,a,o⟩:=r
 dsimp only at *
 have e1:l.takeWhile (· != 10)=hdC 10 l:=rfl
 have e2:(l.dropWhile (· != 10)).drop 1=tlC 10 l:=rfl
 have hle:(hdC 10 l).length≤l.length:=(List.takeWhile_sublist _).length_le
 rw[e1,e2]at c
 rw[f614 _ _ rfl,b614]
 cases o with
 | true=>simp -implicitDefEqProofs[]
 | false=>
  generalize hdC 10 l=H at *
  generalize tlC 10 l=Tl at *
  have w1:IntKind.wrap .i64 ((a:Int)+H.length)=((a+H.length:Nat):Int):=by rw[zab _ (by omega)];omega
  have w2:IntKind.wrap .i64 ((a:Int)+H.length+1)=(a:Int)+H.length+1:=zab _ (by omega)
  cases hc:l.contains 10 with
  | true=>
   rw[hc]at c
   simp -implicitDefEqProofs[c,w1,w2]
  | false=>
   rw[hc]at c
   simp -implicitDefEqProofs[c,w1,w2]
theorem zyu(r:Rd)(t:List UInt8)(n:Nat)(hn:n≤t.length)(ht:t.length≤1000000) :
  callH T 619 [.ptr (.bor 0) 0 3 0 0,.s t,.i .i64 n] [(.bor 0,bxR 0 r)]=some (.tup [],[(.bor 0,bxR 0 ⟨t.drop n,n,false⟩)]):=by
 unfold bxR
 obtain⟨l,a,o⟩:=r
 dsimp only at *
 have hn':(n:Int)≤t.length:=by omega
 rw[f619 _ _ rfl,b619]
 simp -implicitDefEqProofs[hn,hn']
theorem zgw(k a b:Int)(h1:-1000000≤a∧a≤1000000)(h2:-2000000≤b∧b≤2000000):callF T 621 [flt k a,.i .i64 b]=some (flt (shF (k,a) b).1 (shF (k,a) b).2):=by
 have w:IntKind.wrap .i64 (a+b)=a+b:=zab _ (by omega)
 unfold shF
 rw[f621 _ rfl,b621]
 by_cases hk:k=0
 ·by_cases ha:a=0
  ·subst hk ha
   simp -implicitDefEqProofs[]
  ·simp -implicitDefEqProofs[hk,ha,w]
 ·simp -implicitDefEqProofs[hk,w]
end
end Go.Ab