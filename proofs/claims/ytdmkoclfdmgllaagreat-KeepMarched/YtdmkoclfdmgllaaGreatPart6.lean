/-
  A calculus of values, boxes and code, and what functions of the program compute, proved in it.
  Conditions: none beyond those that the theorems state. (Part 6.)
-/
import Derived.Test.YtdmkoclfdmgllaaGreatPart5
import Derived.Test.YtdmkoclfdmgllaaGreatProg
import Derived.KernelRfl
import Derived.ProofKit
import Derived.OpenShut
import Derived.Shelf.Strings.Builder1
import Derived.Shelf.Strings.Builder2
import Derived.Shelf.Strings.OnBuilder
import Derived.WalkKit
import Derived.Deep.LoopGhost
import Derived.Deep.DeepCutAuto
import Derived.Deep.DeepFit
import Derived.Deep.CutBlock
import Derived.Lib.OthersKept

set_option linter.unusedSectionVars false
set_option linter.unusedVariables false
set_option linter.unusedSimpArgs false
set_option linter.unnecessarySimpa false

section
namespace Go.Proofs.YtdmkoclfdmgllaaGreat
open Go Go.Ab
set_option maxRecDepth 100000
def nus:List (Nat×Nat):=[(23,84),(25,178),(27,118),(36,143),(37,75),(38,127),(40,206),(41,79),(55,119),(56,128),(57,129),(60,86),(62,166),(70,115),(71,131),(72,80),(73,193),(85,167),(86,120),(87,168),(88,169),(89,130),(90,195),(91,196),(93,198),(94,199),(106,171),(115,200),(116,201),(117,170),(118,215),(119,216),(120,217),(121,218),(172,152),(177,184),(178,185),(179,186),(185,207),(186,208),(187,209),(188,210),(198,194),(199,164),(200,165),(201,126),(202,83),(203,74),(205,51),(207,61),(208,181),(209,46),(210,85),(211,108),(212,67),(213,247),(214,105),(215,53),(216,250),(217,78),(218,249),(219,251),(220,248),(221,104),(223,187),(247,32),(248,25),(265,29),(267,160),(268,162),(269,50),(271,163),(272,62),(286,23),(287,26),(308,43),(356,211),(379,30),(382,54),(384,188),(389,157),(405,212),(406,81),(407,213),(409,189),(411,191),(413,161),(420,219),(421,76),(422,220),(426,214),(430,116),(431,221),(433,149),(434,150),(435,151),(437,180),(438,182),(439,183),(441,239),(442,240),(443,241),(444,242),(445,243),(446,244),(447,245),(448,246),(495,4),(496,5),(498,7),(499,8),(504,15),(506,17),(507,18),(511,22),(512,24),(513,27),(514,28),(515,31),(517,34),(518,35),(519,36),(524,48),(525,49),(526,52),(527,55),(531,60),(532,63),(533,64),(534,65),(535,66),(536,77),(537,82),(549,106),(550,107),(551,117),(552,121),(553,122),(554,123),(555,124),(556,125),(559,153),(560,154),(561,155),(562,156),(563,158),(564,159),(2071,131),(2092,197),(2106,171),(2263,192),(2266,190)]
def nu(u:Nat):FuncId:=(nus.lookup u).getD 0
def row115:AFx:=⟨3,26,[.t 6,.t 7],b115,none,false⟩
def row116:AFx:=⟨3,25,[.t 6,.t 7],b116,none,false⟩
def row117:AFx:=⟨4,27,[.t 8,.t 9],b117,none,false⟩
def row118:AFx:=⟨3,29,[.t 6,.t 7,.t 8],b118,none,false⟩
def row91:AFx:=⟨1,23,[.t 2],b91,none,false⟩
def row86:AFx:=⟨1,21,[.t 2],b86,none,false⟩
def row106:AFx:=⟨2,15,[.t 4],b106,none,false⟩
def row71:AFx:=⟨1,6,[.t 2],b71,none,false⟩
def row72:AFx:=⟨1,10,[.t 2],b72,none,false⟩
def row73:AFx:=⟨1,28,[.t 2,.t 3],b73,none,false⟩
def row70:AFx:=⟨1,7,[.t 2],b70,none,false⟩
def row87:AFx:=⟨2,49,[.t 4],b87,none,false⟩
def row85:AFx:=⟨2,52,[.t 4],b85,none,false⟩
def row56:AFx:=⟨1,18,[.t 2],b56,none,false⟩
def row88:AFx:=⟨2,49,[.t 4,.t 5],b88,none,false⟩
def row57:AFx:=⟨2,24,[.t 4,.t 5],b57,none,false⟩
def row2106:AFx:=⟨2,15,[.t 4],b2106,(some [false,false]),false⟩
def row89:AFx:=⟨5,45,[],b89,(some [true,false,false,false,false]),false⟩
def row60:AFx:=⟨2,30,[.t 4],b60,none,false⟩
def row92:AFx:=⟨2,57,[.t 4],b92,none,false⟩
def row94:AFx:=⟨2,65,[.t 4],b94,none,false⟩
def row90:AFx:=⟨2,37,[.t 4,.t 5,.t 6],b90,none,false⟩
def row119:AFx:=⟨5,76,[.t 10],b119,none,false⟩
def row120:AFx:=⟨4,66,[.t 8],b120,(some [true,false,false,false]),false⟩
def row121:AFx:=⟨3,44,[],b121,(some [true,false,false]),false⟩
def row93:AFx:=⟨2,70,[.t 4],b93,(some [true,false]),false⟩
def row2071:AFx:=⟨1,6,[.t 2],b2071,(some [false]),false⟩
def row2092:AFx:=⟨2,57,[.t 4],b2092,(some [false,false]),false⟩
def row62:AFx:=⟨2,65,[.t 4,.t 5,.t 6],b62,none,false⟩
def row55:AFx:=⟨2,13,[.cell 4 (some 2)],b55,none,false⟩
def row38:AFx:=⟨1,9,[.cell 2 (some 2)],b38,none,false⟩
def row40:AFx:=⟨1,10,[.cell 2 (some 2)],b40,none,false⟩
def row23:AFx:=⟨2,39,[.cell 4 (some 2)],b23,none,false⟩
def row25:AFx:=⟨2,9,[.cell 4 (some 2)],b25,none,false⟩
def row27:AFx:=⟨2,16,[.cell 4 (some 2)],b27,none,false⟩
def row37:AFx:=⟨1,10,[.t 2],b37,none,false⟩
def row41:AFx:=⟨1,14,[.cell 2 (some 2)],b41,none,false⟩
def row36:AFx:=⟨2,9,[.t 4],b36,none,false⟩
def row198:AFx:=⟨2,12,[.t 4],b198,none,false⟩
def row199:AFx:=⟨2,56,[.t 4],b199,none,false⟩
def row200:AFx:=⟨1,12,[.t 2],b200,none,false⟩
def row201:AFx:=⟨2,37,[.t 4,.t 5],b201,none,false⟩
def row202:AFx:=⟨2,21,[.cell 4 (some 3)],b202,none,false⟩
def row203:AFx:=⟨1,13,[.cell 2 (some 2),.t 3],b203,none,false⟩
def row205:AFx:=⟨1,7,[.cell 2 (some 3)],b205,none,false⟩
def row207:AFx:=⟨1,8,[.cell 2 (some 3)],b207,none,false⟩
def row209:AFx:=⟨1,12,[.t 2],b209,none,false⟩
def row210:AFx:=⟨2,9,[.cell 4 (some 2)],b210,none,false⟩
def row211:AFx:=⟨2,26,[.t 4],b211,none,false⟩
def row212:AFx:=⟨2,9,[.t 4],b212,none,false⟩
def row213:AFx:=⟨1,11,[.cell 2 (some 3)],b213,none,false⟩
def row215:AFx:=⟨2,30,[.cell 4 (some 3)],b215,none,false⟩
def row216:AFx:=⟨2,30,[.cell 4 (some 3)],b216,none,false⟩
def row217:AFx:=⟨2,26,[.cell 4 (some 3)],b217,none,false⟩
def row218:AFx:=⟨2,40,[.cell 4 (some 3),.t 5],b218,none,false⟩
def row214:AFx:=⟨1,9,[.cell 2 (some 3)],b214,none,false⟩
def row208:AFx:=⟨1,51,[.t 2],b208,none,false⟩
def row219:AFx:=⟨2,15,[.t 4],b219,none,false⟩
def row220:AFx:=⟨2,58,[.cell 4 (some 3),.t 5],b220,none,false⟩
def row221:AFx:=⟨1,26,[.cell 2 (some 3)],b221,none,false⟩
def row223:AFx:=⟨1,11,[.t 2],b223,none,false⟩
def row356:AFx:=⟨1,20,[.t 2],b356,none,false⟩
def row421:AFx:=⟨1,6,[.t 2],b421,none,false⟩
def row430:AFx:=⟨1,38,[.t 2],b430,none,false⟩
def row433:AFx:=⟨1,26,[.t 2],b433,none,false⟩
def row434:AFx:=⟨2,92,[.t 4],b434,none,false⟩
def row435:AFx:=⟨2,12,[.t 4],b435,none,false⟩
def row437:AFx:=⟨1,10,[.cell 2 (some 3)],b437,none,false⟩
def row438:AFx:=⟨1,20,[.t 2],b438,none,false⟩
def row439:AFx:=⟨1,21,[.t 2],b439,none,false⟩
def row406:AFx:=⟨1,8,[.t 2],b406,(some [false]),false⟩
def row411:AFx:=⟨2,19,[.t 4],b411,(some [true,false]),false⟩
def row426:AFx:=⟨2,20,[],b426,(some [true,false]),false⟩
def row413:AFx:=⟨2,23,[.t 4,.t 5],b413,(some [true,false]),false⟩
def row405:AFx:=⟨1,13,[.cell 2 (some 5)],b405,none,false⟩
def row420:AFx:=⟨1,19,[.t 2],b420,none,false⟩
def row384:AFx:=⟨3,27,[.t 6,.cell 7 (some 4)],b384,none,false⟩
def row389:AFx:=⟨3,25,[.t 6,.cell 7 (some 4)],b389,none,false⟩
def row407:AFx:=⟨3,70,[.t 6,.cell 7 (some 4)],b407,(some [true,false,false]),false⟩
def row409:AFx:=⟨2,36,[.t 4],b409,none,false⟩
def row422:AFx:=⟨4,108,[.cell 8 (some 3),.t 9],b422,none,false⟩
def row431:AFx:=⟨3,35,[.cell 6 (some 3)],b431,none,false⟩
def row441:AFx:=⟨3,10,[.cell 6 (some 3)],b441,none,false⟩
def row442:AFx:=⟨2,9,[.t 4],b442,(some [true,false]),false⟩
def row443:AFx:=⟨3,10,[.cell 6 (some 3)],b443,none,false⟩
def row444:AFx:=⟨2,7,[.cell 4 (some 3)],b444,none,false⟩
def row445:AFx:=⟨2,7,[.cell 4 (some 3)],b445,none,false⟩
def row446:AFx:=⟨3,13,[.cell 6 (some 3),.t 7],b446,none,false⟩
def row447:AFx:=⟨3,13,[.cell 6 (some 3),.t 7],b447,none,false⟩
def row448:AFx:=⟨3,10,[.cell 6 (some 3)],b448,none,false⟩
def row1000001:AFx:=⟨282,0,meths1,.bad,none,false⟩
def row263:AFx:=⟨1,20,[.t 2],b263,none,false⟩
def row265:AFx:=⟨2,27,[.t 4],b265,none,false⟩
def row266:AFx:=⟨1,19,[.t 2],b266,none,false⟩
def row267:AFx:=⟨1,47,[.t 2,.t 3],b267,none,false⟩
def row269:AFx:=⟨2,22,[.t 4],b269,none,false⟩
def row271:AFx:=⟨3,78,[.t 6,.t 7],b271,none,false⟩
def row2263:AFx:=⟨1,20,[.t 2],b2263,(some [false]),false⟩
def row2266:AFx:=⟨1,19,[.t 2],b2266,(some [false]),false⟩
def row268:AFx:=⟨2,14,[.t 4,.t 5],b268,none,false⟩
def row272:AFx:=⟨1,20,[.cell 2 (some 3)],b272,none,false⟩
def row185:AFx:=⟨1,9,[.t 2],b185,none,false⟩
def row186:AFx:=⟨1,21,[.t 2],b186,none,false⟩
def row187:AFx:=⟨0,0,[],.prim prim187,none,false⟩
def row177:AFx:=⟨1,12,[.t 2],b177,none,false⟩
def row188:AFx:=⟨2,23,[.t 4],b188,none,false⟩
def row179:AFx:=⟨1,8,[.t 2],b179,none,false⟩
def row178:AFx:=⟨2,20,[.t 4],b178,none,false⟩
def row172:AFx:=⟨1,38,[.t 2],b172,none,false⟩
def row536:AFx:=⟨1,6,[.t 2],b536,none,false⟩
def row551:AFx:=⟨1,55,[.t 2],b551,none,false⟩
def row559:AFx:=⟨1,55,[.t 2],b559,none,false⟩
def row560:AFx:=⟨1,29,[.t 2],b560,none,false⟩
def row561:AFx:=⟨1,23,[.t 2],b561,none,false⟩
def row562:AFx:=⟨1,18,[.cell 2 (some 3)],b562,none,false⟩
def row555:AFx:=⟨1,23,[.t 2],b555,none,false⟩
def row524:AFx:=⟨1,20,[.t 2],b524,none,false⟩
def row563:AFx:=⟨3,12,[.cell 6 (some 5)],b563,none,false⟩
def row526:AFx:=⟨4,46,[.cell 8 (some 4),.cell 9 (some 4)],b526,none,false⟩
def row537:AFx:=⟨1,72,[.cell 2 (some 4)],b537,(some [true]),false⟩
def row552:AFx:=⟨2,93,[.cell 4 (some 4)],b552,(some [true,false]),false⟩
def row553:AFx:=⟨2,20,[.t 4],b553,(some [true,false]),false⟩
def row554:AFx:=⟨3,25,[.cell 6 (some 4)],b554,(some [true,false,false]),false⟩
def row556:AFx:=⟨2,28,[.t 4],b556,(some [true,false]),false⟩
def row564:AFx:=⟨4,31,[.cell 8 (some 3)],b564,none,false⟩
def row499:AFx:=⟨2,50,[.cell 4 (some 4)],b499,none,false⟩
def row504:AFx:=⟨1,50,[.t 2],b504,none,false⟩
def row506:AFx:=⟨3,109,[.t 6,.cell 7 (some 4)],b506,none,false⟩
def row514:AFx:=⟨2,45,[.t 4],b514,none,false⟩
def row517:AFx:=⟨2,25,[.t 4],b517,none,false⟩
def row518:AFx:=⟨1,6,[.t 2],b518,none,false⟩
def row525:AFx:=⟨2,22,[.t 4],b525,none,false⟩
def row534:AFx:=⟨2,13,[],b534,(some [true,false]),false⟩
def row535:AFx:=⟨1,41,[.cell 2 (some 2),.t 3],b535,(some [true]),false⟩
def row550:AFx:=⟨1,24,[.cell 2 (some 2),.t 3],b550,(some [true]),false⟩
def row512:AFx:=⟨4,92,[.cell 8 (some 5),.cell 9 (some 4)],b512,none,false⟩
def row531:AFx:=⟨1,18,[.t 2],b531,none,false⟩
def row513:AFx:=⟨1,38,[.t 2,.t 3],b513,none,false⟩
def row532:AFx:=⟨1,40,[.t 2],b532,none,false⟩
def row533:AFx:=⟨1,6,[.t 2],b533,none,false⟩
def row549:AFx:=⟨1,12,[.t 2],b549,none,false⟩
def row519:AFx:=⟨1,20,[.t 2],b519,none,false⟩
def row496:AFx:=⟨4,26,[.t 8],b496,none,false⟩
def row515:AFx:=⟨3,55,[.t 6],b515,none,false⟩
def row507:AFx:=⟨1,15,[.cell 2 (some 11)],b507,none,false⟩
def row527:AFx:=⟨1,18,[.cell 2 (some 5)],b527,none,false⟩
def row495:AFx:=⟨4,165,[.t 8],b495,none,false⟩
def row498:AFx:=⟨0,33,[.t 0],b498,none,false⟩
def row511:AFx:=⟨1,16,[.t 2],b511,none,false⟩
def row247:AFx:=⟨2,17,[.t 4],b247,none,false⟩
def row286:AFx:=⟨3,29,[.t 6],b286,none,false⟩
def row248:AFx:=⟨1,11,[.cell 2 (some 3)],b248,none,false⟩
def row287:AFx:=⟨1,20,[.t 2],b287,none,false⟩
def row308:AFx:=⟨1,20,[.t 2],b308,none,false⟩
def row379:AFx:=⟨3,40,[.t 6],b379,none,false⟩
def row382:AFx:=⟨1,43,[.cell 2 (some 4)],b382,none,false⟩
def RowOk(P:Program)(ν:Nat→FuncId)(τ:Nat→Nat)(u:Nat)(af:AFx):Prop:=
 match af.body.isPrim with
 | some f=>∀xs r,f xs=some r→PCall P (ν u) xs (·=r)
 | none=>if af.body.isBad=true then (∀m∈methsA af,methOf P af.np m.1=some (ν m.2))∧(af.res.isEmpty=true→af.np=ν af.nt) else resFn P (ν u)=some (erF ν τ af)
theorem ok_pr{P:Program}{ν:Nat→FuncId}{τ:Nat→Nat}{u:Nat}{af:AFx}{f:List AV→Option AV}(h0:af.body.isPrim=some f)(h:∀xs r,f xs=some r→PCall P (ν u) xs (·=r)):RowOk P ν τ u af:=by unfold RowOk;rw[h0];exact h
theorem ok_fn{P:Program}{ν:Nat→FuncId}{τ:Nat→Nat}{u:Nat}{af:AFx}(h0:af.body.isPrim=none)(h1:af.body.isBad=false)(h:resFn P (ν u)=some (erF ν τ af)):RowOk P ν τ u af:=by unfold RowOk;rw[h0];simp only[h1];exact h
theorem ok_ty{P:Program}{ν:Nat→FuncId}{τ:Nat→Nat}{u:Nat}{af:AFx}(h0:af.body.isPrim=none)(h1:af.body.isBad=true)(h:((methsA af).all fun m=>methOf P af.np m.1 == some (ν m.2))=true)(h2:(!af.res.isEmpty || af.np == ν af.nt)=true):RowOk P ν τ u af:=by unfold RowOk;rw[h0];simp only[h1,if_true];exact⟨fun m hm=>eq_of_beq (List.all_eq_true.1 h m hm),fun he=>by rw[he]at h2;exact eq_of_beq (by simpa using h2)⟩
theorem ok_cons{P:Program}{ν:Nat→FuncId}{τ:Nat→Nat}{u:Nat}{af:AFx}{l:List (Nat×AFx)}(h:RowOk P ν τ u af)(hl:∀p∈l,RowOk P ν τ p.1 p.2) :
  ∀p∈(u,af)::l,RowOk P ν τ p.1 p.2:=by
 intro p hp
 rcases List.mem_cons.1 hp with rfl | hp
 ·exact h
 ·exact hl p hp
theorem ok_lookup{P:Program}{ν:Nat→FuncId}{l:List (Nat×AFx)}(hl:∀p∈l,RowOk P ν (tyNum fun u=>l.lookup u) p.1 p.2):TOk P ν (fun u=>l.lookup u):=fun _ _ h=>hl _ (zdu h)
theorem sub_cons{l l2:List (Nat×AFx)}{u:Nat}{af:AFx}(h:l.lookup u=some af)(h2:∀p∈l2,l.lookup p.1=some p.2):∀p∈(u,af)::l2,l.lookup p.1=some p.2:=by
 intro p hp
 rcases List.mem_cons.1 hp with rfl | hp
 ·exact h
 ·exact h2 p hp
def gTab:List (Nat×AFx):=[(115,row115),(116,row116),(117,row117),(118,row118),(91,row91),(86,row86),(106,row106),(71,row71),(72,row72),(73,row73),(70,row70),(87,row87),(85,row85),(56,row56),(88,row88),(57,row57),(2106,row2106),(89,row89),(60,row60),(92,row92),(94,row94),(90,row90),(119,row119),(120,row120),(121,row121),(93,row93),(2071,row2071),(2092,row2092),(62,row62),(55,row55),(38,row38),(40,row40),(23,row23),(25,row25),(27,row27),(37,row37),(41,row41),(36,row36),(198,row198),(199,row199),(200,row200),(201,row201),(202,row202),(203,row203),(205,row205),(207,row207),(209,row209),(210,row210),(211,row211),(212,row212),(213,row213),(215,row215),(216,row216),(217,row217),(218,row218),(214,row214),(208,row208),(219,row219),(220,row220),(221,row221),(223,row223),(356,row356),(421,row421),(430,row430),(433,row433),(434,row434),(435,row435),(437,row437),(438,row438),(439,row439),(406,row406),(411,row411),(426,row426),(413,row413),(405,row405),(420,row420),(384,row384),(389,row389),(407,row407),(409,row409),(422,row422),(431,row431),(441,row441),(442,row442),(443,row443),(444,row444),(445,row445),(446,row446),(447,row447),(448,row448),(1000001,row1000001),(263,row263),(265,row265),(266,row266),(267,row267),(269,row269),(271,row271),(2263,row2263),(2266,row2266),(268,row268),(272,row272),(185,row185),(186,row186),(187,row187),(177,row177),(188,row188),(179,row179),(178,row178),(172,row172),(536,row536),(551,row551),(559,row559),(560,row560),(561,row561),(562,row562),(555,row555),(524,row524),(563,row563),(526,row526),(537,row537),(552,row552),(553,row553),(554,row554),(556,row556),(564,row564),(499,row499),(504,row504),(506,row506),(514,row514),(517,row517),(518,row518),(525,row525),(534,row534),(535,row535),(550,row550),(512,row512),(531,row531),(513,row513),(532,row532),(533,row533),(549,row549),(519,row519),(496,row496),(515,row515),(507,row507),(527,row527),(495,row495),(498,row498),(511,row511),(247,row247),(286,row286),(248,row248),(287,row287),(308,row308),(379,row379),(382,row382)]
def lTab:List (Nat×AFx):=[(115,row115),(116,row116),(117,row117),(118,row118),(91,row91),(86,row86),(106,row106),(71,row71),(72,row72),(73,row73),(70,row70),(87,row87),(85,row85),(56,row56),(88,row88),(57,row57),(2106,row2106),(89,row89),(60,row60),(94,row94),(90,row90),(119,row119),(120,row120),(121,row121),(93,row93),(2071,row2071),(2092,row2092),(62,row62),(55,row55),(38,row38),(40,row40),(23,row23),(25,row25),(27,row27),(37,row37),(41,row41),(36,row36),(198,row198),(199,row199),(200,row200),(201,row201),(202,row202),(203,row203),(205,row205),(207,row207),(209,row209),(210,row210),(211,row211),(212,row212),(213,row213),(215,row215),(216,row216),(217,row217),(218,row218),(214,row214),(208,row208),(219,row219),(220,row220),(221,row221),(223,row223),(356,row356),(421,row421),(430,row430),(433,row433),(434,row434),(435,row435),(437,row437),(438,row438),(439,row439),(406,row406),(411,row411),(426,row426),(413,row413),(405,row405),(420,row420),(384,row384),(389,row389),(407,row407),(409,row409),(422,row422),(431,row431),(441,row441),(442,row442),(443,row443),(444,row444),(445,row445),(446,row446),(447,row447),(448,row448),(1000001,row1000001),(265,row265),(267,row267),(269,row269),(271,row271),(2263,row2263),(2266,row2266),(268,row268),(272,row272),(185,row185),(186,row186),(187,row187),(177,row177),(188,row188),(179,row179),(178,row178),(172,row172),(536,row536),(551,row551),(559,row559),(560,row560),(561,row561),(562,row562),(555,row555),(524,row524),(563,row563),(526,row526),(537,row537),(552,row552),(553,row553),(554,row554),(556,row556),(564,row564),(499,row499),(504,row504),(506,row506),(514,row514),(517,row517),(518,row518),(525,row525),(534,row534),(535,row535),(550,row550),(512,row512),(531,row531),(513,row513),(532,row532),(533,row533),(549,row549),(519,row519),(496,row496),(515,row515),(507,row507),(527,row527),(495,row495),(498,row498),(511,row511),(247,row247),(286,row286),(248,row248),(287,row287),(308,row308),(379,row379),(382,row382)]
def tab:Tbl:=fun u=>gTab.lookup u
def tau_l:Nat→Nat:=tyNum fun u=>lTab.lookup u
theorem resl_115:resFn Tryz.prog (nu 115)=some (erF nu tau_l row115):=by kernel_rfl
theorem resl_116:resFn Tryz.prog (nu 116)=some (erF nu tau_l row116):=by kernel_rfl
theorem resl_117:resFn Tryz.prog (nu 117)=some (erF nu tau_l row117):=by kernel_rfl
theorem resl_118:resFn Tryz.prog (nu 118)=some (erF nu tau_l row118):=by kernel_rfl
theorem resl_91:resFn Tryz.prog (nu 91)=some (erF nu tau_l row91):=by kernel_rfl
theorem resl_86:resFn Tryz.prog (nu 86)=some (erF nu tau_l row86):=by kernel_rfl
theorem resl_106:resFn Tryz.prog (nu 106)=some (erF nu tau_l row106):=by kernel_rfl
theorem resl_71:resFn Tryz.prog (nu 71)=some (erF nu tau_l row71):=by kernel_rfl
theorem resl_72:resFn Tryz.prog (nu 72)=some (erF nu tau_l row72):=by kernel_rfl
theorem resl_73:resFn Tryz.prog (nu 73)=some (erF nu tau_l row73):=by kernel_rfl
theorem resl_70:resFn Tryz.prog (nu 70)=some (erF nu tau_l row70):=by kernel_rfl
theorem resl_87:resFn Tryz.prog (nu 87)=some (erF nu tau_l row87):=by kernel_rfl
theorem resl_85:resFn Tryz.prog (nu 85)=some (erF nu tau_l row85):=by kernel_rfl
theorem resl_56:resFn Tryz.prog (nu 56)=some (erF nu tau_l row56):=by kernel_rfl
theorem resl_88:resFn Tryz.prog (nu 88)=some (erF nu tau_l row88):=by kernel_rfl
theorem resl_57:resFn Tryz.prog (nu 57)=some (erF nu tau_l row57):=by kernel_rfl
theorem resl_2106:resFn Tryz.prog (nu 2106)=some (erF nu tau_l row2106):=by kernel_rfl
theorem resl_89:resFn Tryz.prog (nu 89)=some (erF nu tau_l row89):=by kernel_rfl
theorem resl_60:resFn Tryz.prog (nu 60)=some (erF nu tau_l row60):=by kernel_rfl
theorem resl_94:resFn Tryz.prog (nu 94)=some (erF nu tau_l row94):=by kernel_rfl
theorem resl_90:resFn Tryz.prog (nu 90)=some (erF nu tau_l row90):=by kernel_rfl
theorem resl_119:resFn Tryz.prog (nu 119)=some (erF nu tau_l row119):=by kernel_rfl
theorem resl_120:resFn Tryz.prog (nu 120)=some (erF nu tau_l row120):=by kernel_rfl
theorem resl_121:resFn Tryz.prog (nu 121)=some (erF nu tau_l row121):=by kernel_rfl
theorem resl_93:resFn Tryz.prog (nu 93)=some (erF nu tau_l row93):=by kernel_rfl
theorem resl_2071:resFn Tryz.prog (nu 2071)=some (erF nu tau_l row2071):=by kernel_rfl
theorem resl_2092:resFn Tryz.prog (nu 2092)=some (erF nu tau_l row2092):=by kernel_rfl
theorem resl_62:resFn Tryz.prog (nu 62)=some (erF nu tau_l row62):=by kernel_rfl
theorem resl_55:resFn Tryz.prog (nu 55)=some (erF nu tau_l row55):=by kernel_rfl
theorem resl_38:resFn Tryz.prog (nu 38)=some (erF nu tau_l row38):=by kernel_rfl
theorem resl_40:resFn Tryz.prog (nu 40)=some (erF nu tau_l row40):=by kernel_rfl
theorem resl_23:resFn Tryz.prog (nu 23)=some (erF nu tau_l row23):=by kernel_rfl
theorem resl_25:resFn Tryz.prog (nu 25)=some (erF nu tau_l row25):=by kernel_rfl
theorem resl_27:resFn Tryz.prog (nu 27)=some (erF nu tau_l row27):=by kernel_rfl
theorem resl_37:resFn Tryz.prog (nu 37)=some (erF nu tau_l row37):=by kernel_rfl
theorem resl_41:resFn Tryz.prog (nu 41)=some (erF nu tau_l row41):=by kernel_rfl
theorem resl_36:resFn Tryz.prog (nu 36)=some (erF nu tau_l row36):=by kernel_rfl
theorem resl_198:resFn Tryz.prog (nu 198)=some (erF nu tau_l row198):=by kernel_rfl
theorem resl_199:resFn Tryz.prog (nu 199)=some (erF nu tau_l row199):=by kernel_rfl
theorem resl_200:resFn Tryz.prog (nu 200)=some (erF nu tau_l row200):=by kernel_rfl
theorem resl_201:resFn Tryz.prog (nu 201)=some (erF nu tau_l row201):=by kernel_rfl
theorem resl_202:resFn Tryz.prog (nu 202)=some (erF nu tau_l row202):=by kernel_rfl
theorem resl_203:resFn Tryz.prog (nu 203)=some (erF nu tau_l row203):=by kernel_rfl
theorem resl_205:resFn Tryz.prog (nu 205)=some (erF nu tau_l row205):=by kernel_rfl
theorem resl_207:resFn Tryz.prog (nu 207)=some (erF nu tau_l row207):=by kernel_rfl
theorem resl_209:resFn Tryz.prog (nu 209)=some (erF nu tau_l row209):=by kernel_rfl
theorem resl_210:resFn Tryz.prog (nu 210)=some (erF nu tau_l row210):=by kernel_rfl
theorem resl_211:resFn Tryz.prog (nu 211)=some (erF nu tau_l row211):=by kernel_rfl
theorem resl_212:resFn Tryz.prog (nu 212)=some (erF nu tau_l row212):=by kernel_rfl
theorem resl_213:resFn Tryz.prog (nu 213)=some (erF nu tau_l row213):=by kernel_rfl
theorem resl_215:resFn Tryz.prog (nu 215)=some (erF nu tau_l row215):=by kernel_rfl
theorem resl_216:resFn Tryz.prog (nu 216)=some (erF nu tau_l row216):=by kernel_rfl
theorem resl_217:resFn Tryz.prog (nu 217)=some (erF nu tau_l row217):=by kernel_rfl
theorem resl_218:resFn Tryz.prog (nu 218)=some (erF nu tau_l row218):=by kernel_rfl
theorem resl_214:resFn Tryz.prog (nu 214)=some (erF nu tau_l row214):=by kernel_rfl
theorem resl_208:resFn Tryz.prog (nu 208)=some (erF nu tau_l row208):=by kernel_rfl
theorem resl_219:resFn Tryz.prog (nu 219)=some (erF nu tau_l row219):=by kernel_rfl
theorem resl_220:resFn Tryz.prog (nu 220)=some (erF nu tau_l row220):=by kernel_rfl
theorem resl_221:resFn Tryz.prog (nu 221)=some (erF nu tau_l row221):=by kernel_rfl
theorem resl_223:resFn Tryz.prog (nu 223)=some (erF nu tau_l row223):=by kernel_rfl
theorem resl_356:resFn Tryz.prog (nu 356)=some (erF nu tau_l row356):=by kernel_rfl
theorem resl_421:resFn Tryz.prog (nu 421)=some (erF nu tau_l row421):=by kernel_rfl
theorem resl_430:resFn Tryz.prog (nu 430)=some (erF nu tau_l row430):=by kernel_rfl
theorem resl_433:resFn Tryz.prog (nu 433)=some (erF nu tau_l row433):=by kernel_rfl
theorem resl_434:resFn Tryz.prog (nu 434)=some (erF nu tau_l row434):=by kernel_rfl
theorem resl_435:resFn Tryz.prog (nu 435)=some (erF nu tau_l row435):=by kernel_rfl
theorem resl_437:resFn Tryz.prog (nu 437)=some (erF nu tau_l row437):=by kernel_rfl
theorem resl_438:resFn Tryz.prog (nu 438)=some (erF nu tau_l row438):=by kernel_rfl
theorem resl_439:resFn Tryz.prog (nu 439)=some (erF nu tau_l row439):=by kernel_rfl
theorem resl_406:resFn Tryz.prog (nu 406)=some (erF nu tau_l row406):=by kernel_rfl
theorem resl_411:resFn Tryz.prog (nu 411)=some (erF nu tau_l row411):=by kernel_rfl
theorem resl_426:resFn Tryz.prog (nu 426)=some (erF nu tau_l row426):=by kernel_rfl
theorem resl_413:resFn Tryz.prog (nu 413)=some (erF nu tau_l row413):=by kernel_rfl
theorem resl_405:resFn Tryz.prog (nu 405)=some (erF nu tau_l row405):=by kernel_rfl
theorem resl_420:resFn Tryz.prog (nu 420)=some (erF nu tau_l row420):=by kernel_rfl
theorem resl_384:resFn Tryz.prog (nu 384)=some (erF nu tau_l row384):=by kernel_rfl
theorem resl_389:resFn Tryz.prog (nu 389)=some (erF nu tau_l row389):=by kernel_rfl
theorem resl_407:resFn Tryz.prog (nu 407)=some (erF nu tau_l row407):=by kernel_rfl
theorem resl_409:resFn Tryz.prog (nu 409)=some (erF nu tau_l row409):=by kernel_rfl
theorem resl_422:resFn Tryz.prog (nu 422)=some (erF nu tau_l row422):=by kernel_rfl
theorem resl_431:resFn Tryz.prog (nu 431)=some (erF nu tau_l row431):=by kernel_rfl
theorem resl_441:resFn Tryz.prog (nu 441)=some (erF nu tau_l row441):=by kernel_rfl
theorem resl_442:resFn Tryz.prog (nu 442)=some (erF nu tau_l row442):=by kernel_rfl
theorem resl_443:resFn Tryz.prog (nu 443)=some (erF nu tau_l row443):=by kernel_rfl
theorem resl_444:resFn Tryz.prog (nu 444)=some (erF nu tau_l row444):=by kernel_rfl
theorem resl_445:resFn Tryz.prog (nu 445)=some (erF nu tau_l row445):=by kernel_rfl
theorem resl_446:resFn Tryz.prog (nu 446)=some (erF nu tau_l row446):=by kernel_rfl
theorem resl_447:resFn Tryz.prog (nu 447)=some (erF nu tau_l row447):=by kernel_rfl
theorem resl_448:resFn Tryz.prog (nu 448)=some (erF nu tau_l row448):=by kernel_rfl
theorem resl_1000001:((methsA row1000001).all fun m=>methOf Tryz.prog row1000001.np m.1 == some (nu m.2))=true:=by kernel_rfl
theorem resl_265:resFn Tryz.prog (nu 265)=some (erF nu tau_l row265):=by kernel_rfl
theorem resl_267:resFn Tryz.prog (nu 267)=some (erF nu tau_l row267):=by kernel_rfl
theorem resl_269:resFn Tryz.prog (nu 269)=some (erF nu tau_l row269):=by kernel_rfl
theorem resl_271:resFn Tryz.prog (nu 271)=some (erF nu tau_l row271):=by kernel_rfl
theorem resl_2263:resFn Tryz.prog (nu 2263)=some (erF nu tau_l row2263):=by kernel_rfl
theorem resl_2266:resFn Tryz.prog (nu 2266)=some (erF nu tau_l row2266):=by kernel_rfl
theorem resl_268:resFn Tryz.prog (nu 268)=some (erF nu tau_l row268):=by kernel_rfl
theorem resl_272:resFn Tryz.prog (nu 272)=some (erF nu tau_l row272):=by kernel_rfl
theorem resl_185:resFn Tryz.prog (nu 185)=some (erF nu tau_l row185):=by kernel_rfl
theorem resl_186:resFn Tryz.prog (nu 186)=some (erF nu tau_l row186):=by kernel_rfl
theorem resl_177:resFn Tryz.prog (nu 177)=some (erF nu tau_l row177):=by kernel_rfl
theorem resl_188:resFn Tryz.prog (nu 188)=some (erF nu tau_l row188):=by kernel_rfl
theorem resl_179:resFn Tryz.prog (nu 179)=some (erF nu tau_l row179):=by kernel_rfl
theorem resl_178:resFn Tryz.prog (nu 178)=some (erF nu tau_l row178):=by kernel_rfl
theorem resl_172:resFn Tryz.prog (nu 172)=some (erF nu tau_l row172):=by kernel_rfl
theorem resl_536:resFn Tryz.prog (nu 536)=some (erF nu tau_l row536):=by kernel_rfl
theorem resl_551:resFn Tryz.prog (nu 551)=some (erF nu tau_l row551):=by kernel_rfl
theorem resl_559:resFn Tryz.prog (nu 559)=some (erF nu tau_l row559):=by kernel_rfl
theorem resl_560:resFn Tryz.prog (nu 560)=some (erF nu tau_l row560):=by kernel_rfl
theorem resl_561:resFn Tryz.prog (nu 561)=some (erF nu tau_l row561):=by kernel_rfl
theorem resl_562:resFn Tryz.prog (nu 562)=some (erF nu tau_l row562):=by kernel_rfl
theorem resl_555:resFn Tryz.prog (nu 555)=some (erF nu tau_l row555):=by kernel_rfl
theorem resl_524:resFn Tryz.prog (nu 524)=some (erF nu tau_l row524):=by kernel_rfl
theorem resl_563:resFn Tryz.prog (nu 563)=some (erF nu tau_l row563):=by kernel_rfl
theorem resl_526:resFn Tryz.prog (nu 526)=some (erF nu tau_l row526):=by kernel_rfl
theorem resl_537:resFn Tryz.prog (nu 537)=some (erF nu tau_l row537):=by kernel_rfl
theorem resl_552:resFn Tryz.prog (nu 552)=some (erF nu tau_l row552):=by kernel_rfl
theorem resl_553:resFn Tryz.prog (nu 553)=some (erF nu tau_l row553):=by kernel_rfl
theorem resl_554:resFn Tryz.prog (nu 554)=some (erF nu tau_l row554):=by kernel_rfl
theorem resl_556:resFn Tryz.prog (nu 556)=some (erF nu tau_l row556):=by kernel_rfl
theorem resl_564:resFn Tryz.prog (nu 564)=some (erF nu tau_l row564):=by kernel_rfl
theorem resl_499:resFn Tryz.prog (nu 499)=some (erF nu tau_l row499):=by kernel_rfl
theorem resl_504:resFn Tryz.prog (nu 504)=some (erF nu tau_l row504):=by kernel_rfl
theorem resl_506:resFn Tryz.prog (nu 506)=some (erF nu tau_l row506):=by kernel_rfl
theorem resl_514:resFn Tryz.prog (nu 514)=some (erF nu tau_l row514):=by kernel_rfl
theorem resl_517:resFn Tryz.prog (nu 517)=some (erF nu tau_l row517):=by kernel_rfl
theorem resl_518:resFn Tryz.prog (nu 518)=some (erF nu tau_l row518):=by kernel_rfl
theorem resl_525:resFn Tryz.prog (nu 525)=some (erF nu tau_l row525):=by kernel_rfl
theorem resl_534:resFn Tryz.prog (nu 534)=some (erF nu tau_l row534):=by kernel_rfl
theorem resl_535:resFn Tryz.prog (nu 535)=some (erF nu tau_l row535):=by kernel_rfl
theorem resl_550:resFn Tryz.prog (nu 550)=some (erF nu tau_l row550):=by kernel_rfl
theorem resl_512:resFn Tryz.prog (nu 512)=some (erF nu tau_l row512):=by kernel_rfl
theorem resl_531:resFn Tryz.prog (nu 531)=some (erF nu tau_l row531):=by kernel_rfl
theorem resl_513:resFn Tryz.prog (nu 513)=some (erF nu tau_l row513):=by kernel_rfl
theorem resl_532:resFn Tryz.prog (nu 532)=some (erF nu tau_l row532):=by kernel_rfl
theorem resl_533:resFn Tryz.prog (nu 533)=some (erF nu tau_l row533):=by kernel_rfl
theorem resl_549:resFn Tryz.prog (nu 549)=some (erF nu tau_l row549):=by kernel_rfl
theorem resl_519:resFn Tryz.prog (nu 519)=some (erF nu tau_l row519):=by kernel_rfl
theorem resl_496:resFn Tryz.prog (nu 496)=some (erF nu tau_l row496):=by kernel_rfl
theorem resl_515:resFn Tryz.prog (nu 515)=some (erF nu tau_l row515):=by kernel_rfl
theorem resl_507:resFn Tryz.prog (nu 507)=some (erF nu tau_l row507):=by kernel_rfl
theorem resl_527:resFn Tryz.prog (nu 527)=some (erF nu tau_l row527):=by kernel_rfl
theorem resl_495:resFn Tryz.prog (nu 495)=some (erF nu tau_l row495):=by kernel_rfl
theorem resl_498:resFn Tryz.prog (nu 498)=some (erF nu tau_l row498):=by kernel_rfl
theorem resl_511:resFn Tryz.prog (nu 511)=some (erF nu tau_l row511):=by kernel_rfl
theorem resl_247:resFn Tryz.prog (nu 247)=some (erF nu tau_l row247):=by kernel_rfl
theorem resl_286:resFn Tryz.prog (nu 286)=some (erF nu tau_l row286):=by kernel_rfl
theorem resl_248:resFn Tryz.prog (nu 248)=some (erF nu tau_l row248):=by kernel_rfl
theorem resl_287:resFn Tryz.prog (nu 287)=some (erF nu tau_l row287):=by kernel_rfl
theorem resl_308:resFn Tryz.prog (nu 308)=some (erF nu tau_l row308):=by kernel_rfl
theorem resl_379:resFn Tryz.prog (nu 379)=some (erF nu tau_l row379):=by kernel_rfl
theorem resl_382:resFn Tryz.prog (nu 382)=some (erF nu tau_l row382):=by kernel_rfl
theorem lTab_ok(hp187:∀xs r,prim187 xs=some r→PCall Tryz.prog (nu 187) xs (·=r)):TOk Tryz.prog nu (fun u=>lTab.lookup u):=ok_lookup (ok_cons (ok_fn rfl rfl resl_115) (ok_cons (ok_fn rfl rfl resl_116) (ok_cons (ok_fn rfl rfl resl_117) (ok_cons (ok_fn rfl rfl resl_118) (ok_cons (ok_fn rfl rfl resl_91) (ok_cons (ok_fn rfl rfl resl_86) (ok_cons (ok_fn rfl rfl resl_106) (ok_cons (ok_fn rfl rfl resl_71) (ok_cons (ok_fn rfl rfl resl_72) (ok_cons (ok_fn rfl rfl resl_73) (ok_cons (ok_fn rfl rfl resl_70) (ok_cons (ok_fn rfl rfl resl_87) (ok_cons (ok_fn rfl rfl resl_85) (ok_cons (ok_fn rfl rfl resl_56) (ok_cons (ok_fn rfl rfl resl_88) (ok_cons (ok_fn rfl rfl resl_57) (ok_cons (ok_fn rfl rfl resl_2106) (ok_cons (ok_fn rfl rfl resl_89) (ok_cons (ok_fn rfl rfl resl_60) (ok_cons (ok_fn rfl rfl resl_94) (ok_cons (ok_fn rfl rfl resl_90) (ok_cons (ok_fn rfl rfl resl_119) (ok_cons (ok_fn rfl rfl resl_120) (ok_cons (ok_fn rfl rfl resl_121) (ok_cons (ok_fn rfl rfl resl_93) (ok_cons (ok_fn rfl rfl resl_2071) (ok_cons (ok_fn rfl rfl resl_2092) (ok_cons (ok_fn rfl rfl resl_62) (ok_cons (ok_fn rfl rfl resl_55) (ok_cons (ok_fn rfl rfl resl_38) (ok_cons (ok_fn rfl rfl resl_40) (ok_cons (ok_fn rfl rfl resl_23) (ok_cons (ok_fn rfl rfl resl_25) (ok_cons (ok_fn rfl rfl resl_27) (ok_cons (ok_fn rfl rfl resl_37) (ok_cons (ok_fn rfl rfl resl_41) (ok_cons (ok_fn rfl rfl resl_36) (ok_cons (ok_fn rfl rfl resl_198) (ok_cons (ok_fn rfl rfl resl_199) (ok_cons (ok_fn rfl rfl resl_200) (ok_cons (ok_fn rfl rfl resl_201) (ok_cons (ok_fn rfl rfl resl_202) (ok_cons (ok_fn rfl rfl resl_203) (ok_cons (ok_fn rfl rfl resl_205) (ok_cons (ok_fn rfl rfl resl_207) (ok_cons (ok_fn rfl rfl resl_209) (ok_cons (ok_fn rfl rfl resl_210) (ok_cons (ok_fn rfl rfl resl_211) (ok_cons (ok_fn rfl rfl resl_212) (ok_cons (ok_fn rfl rfl resl_213) (ok_cons (ok_fn rfl rfl resl_215) (ok_cons (ok_fn rfl rfl resl_216) (ok_cons (ok_fn rfl rfl resl_217) (ok_cons (ok_fn rfl rfl resl_218) (ok_cons (ok_fn rfl rfl resl_214) (ok_cons (ok_fn rfl rfl resl_208) (ok_cons (ok_fn rfl rfl resl_219) (ok_cons (ok_fn rfl rfl resl_220) (ok_cons (ok_fn rfl rfl resl_221) (ok_cons (ok_fn rfl rfl resl_223) (ok_cons (ok_fn rfl rfl resl_356) (ok_cons (ok_fn rfl rfl resl_421) (ok_cons (ok_fn rfl rfl resl_430) (ok_cons (ok_fn rfl rfl resl_433) (ok_cons (ok_fn rfl rfl resl_434) (ok_cons (ok_fn rfl rfl resl_435) (ok_cons (ok_fn rfl rfl resl_437) (ok_cons (ok_fn rfl rfl resl_438) (ok_cons (ok_fn rfl rfl resl_439) (ok_cons (ok_fn rfl rfl resl_406) (ok_cons (ok_fn rfl rfl resl_411) (ok_cons (ok_fn rfl rfl resl_426) (ok_cons (ok_fn rfl rfl resl_413) (ok_cons (ok_fn rfl rfl resl_405) (ok_cons (ok_fn rfl rfl resl_420) (ok_cons (ok_fn rfl rfl resl_384) (ok_cons (ok_fn rfl rfl resl_389) (ok_cons (ok_fn rfl rfl resl_407) (ok_cons (ok_fn rfl rfl resl_409) (ok_cons (ok_fn rfl rfl resl_422) (ok_cons (ok_fn rfl rfl resl_431) (ok_cons (ok_fn rfl rfl resl_441) (ok_cons (ok_fn rfl rfl resl_442) (ok_cons (ok_fn rfl rfl resl_443) (ok_cons (ok_fn rfl rfl resl_444) (ok_cons (ok_fn rfl rfl resl_445) (ok_cons (ok_fn rfl rfl resl_446) (ok_cons (ok_fn rfl rfl resl_447) (ok_cons (ok_fn rfl rfl resl_448) (ok_cons (ok_ty rfl rfl resl_1000001 rfl) (ok_cons (ok_fn rfl rfl resl_265) (ok_cons (ok_fn rfl rfl resl_267) (ok_cons (ok_fn rfl rfl resl_269) (ok_cons (ok_fn rfl rfl resl_271) (ok_cons (ok_fn rfl rfl resl_2263) (ok_cons (ok_fn rfl rfl resl_2266) (ok_cons (ok_fn rfl rfl resl_268) (ok_cons (ok_fn rfl rfl resl_272) (ok_cons (ok_fn rfl rfl resl_185) (ok_cons (ok_fn rfl rfl resl_186) (ok_cons (ok_pr rfl hp187) (ok_cons (ok_fn rfl rfl resl_177) (ok_cons (ok_fn rfl rfl resl_188) (ok_cons (ok_fn rfl rfl resl_179) (ok_cons (ok_fn rfl rfl resl_178) (ok_cons (ok_fn rfl rfl resl_172) (ok_cons (ok_fn rfl rfl resl_536) (ok_cons (ok_fn rfl rfl resl_551) (ok_cons (ok_fn rfl rfl resl_559) (ok_cons (ok_fn rfl rfl resl_560) (ok_cons (ok_fn rfl rfl resl_561) (ok_cons (ok_fn rfl rfl resl_562) (ok_cons (ok_fn rfl rfl resl_555) (ok_cons (ok_fn rfl rfl resl_524) (ok_cons (ok_fn rfl rfl resl_563) (ok_cons (ok_fn rfl rfl resl_526) (ok_cons (ok_fn rfl rfl resl_537) (ok_cons (ok_fn rfl rfl resl_552) (ok_cons (ok_fn rfl rfl resl_553) (ok_cons (ok_fn rfl rfl resl_554) (ok_cons (ok_fn rfl rfl resl_556) (ok_cons (ok_fn rfl rfl resl_564) (ok_cons (ok_fn rfl rfl resl_499) (ok_cons (ok_fn rfl rfl resl_504) (ok_cons (ok_fn rfl rfl resl_506) (ok_cons (ok_fn rfl rfl resl_514) (ok_cons (ok_fn rfl rfl resl_517) (ok_cons (ok_fn rfl rfl resl_518) (ok_cons (ok_fn rfl rfl resl_525) (ok_cons (ok_fn rfl rfl resl_534) (ok_cons (ok_fn rfl rfl resl_535) (ok_cons (ok_fn rfl rfl resl_550) (ok_cons (ok_fn rfl rfl resl_512) (ok_cons (ok_fn rfl rfl resl_531) (ok_cons (ok_fn rfl rfl resl_513) (ok_cons (ok_fn rfl rfl resl_532) (ok_cons (ok_fn rfl rfl resl_533) (ok_cons (ok_fn rfl rfl resl_549) (ok_cons (ok_fn rfl rfl resl_519) (ok_cons (ok_fn rfl rfl resl_496) (ok_cons (ok_fn rfl rfl resl_515) (ok_cons (ok_fn rfl rfl resl_507) (ok_cons (ok_fn rfl rfl resl_527) (ok_cons (ok_fn rfl rfl resl_495) (ok_cons (ok_fn rfl rfl resl_498) (ok_cons (ok_fn rfl rfl resl_511) (ok_cons (ok_fn rfl rfl resl_247) (ok_cons (ok_fn rfl rfl resl_286) (ok_cons (ok_fn rfl rfl resl_248) (ok_cons (ok_fn rfl rfl resl_287) (ok_cons (ok_fn rfl rfl resl_308) (ok_cons (ok_fn rfl rfl resl_379) (ok_cons (ok_fn rfl rfl resl_382) (fun p hp=>by cases hp))))))))))))))))))))))))))))))))))))))))))))))))))))))))))))))))))))))))))))))))))))))))))))))))))))))))))))))))))))))))))))))))))))))))))))))))))))))))))
theorem lTab_part:Part gTab lTab:=⟨sub_cons (by kernel_rfl) (sub_cons (by kernel_rfl) (sub_cons (by kernel_rfl) (sub_cons (by kernel_rfl) (sub_cons (by kernel_rfl) (sub_cons (by kernel_rfl) (sub_cons (by kernel_rfl) (sub_cons (by kernel_rfl) (sub_cons (by kernel_rfl) (sub_cons (by kernel_rfl) (sub_cons (by kernel_rfl) (sub_cons (by kernel_rfl) (sub_cons (by kernel_rfl) (sub_cons (by kernel_rfl) (sub_cons (by kernel_rfl) (sub_cons (by kernel_rfl) (sub_cons (by kernel_rfl) (sub_cons (by kernel_rfl) (sub_cons (by kernel_rfl) (sub_cons (by kernel_rfl) (sub_cons (by kernel_rfl) (sub_cons (by kernel_rfl) (sub_cons (by kernel_rfl) (sub_cons (by kernel_rfl) (sub_cons (by kernel_rfl) (sub_cons (by kernel_rfl) (sub_cons (by kernel_rfl) (sub_cons (by kernel_rfl) (sub_cons (by kernel_rfl) (sub_cons (by kernel_rfl) (sub_cons (by kernel_rfl) (sub_cons (by kernel_rfl) (sub_cons (by kernel_rfl) (sub_cons (by kernel_rfl) (sub_cons (by kernel_rfl) (sub_cons (by kernel_rfl) (sub_cons (by kernel_rfl) (sub_cons (by kernel_rfl) (sub_cons (by kernel_rfl) (sub_cons (by kernel_rfl) (sub_cons (by kernel_rfl) (sub_cons (by kernel_rfl) (sub_cons (by kernel_rfl) (sub_cons (by kernel_rfl) (sub_cons (by kernel_rfl) (sub_cons (by kernel_rfl) (sub_cons (by kernel_rfl) (sub_cons (by kernel_rfl) (sub_cons (by kernel_rfl) (sub_cons (by kernel_rfl) (sub_cons (by kernel_rfl) (sub_cons (by kernel_rfl) (sub_cons (by kernel_rfl) (sub_cons (by kernel_rfl) (sub_cons (by kernel_rfl) (sub_cons (by kernel_rfl) (sub_cons (by kernel_rfl) (sub_cons (by kernel_rfl) (sub_cons (by kernel_rfl) (sub_cons (by kernel_rfl) (sub_cons (by kernel_rfl) (sub_cons (by kernel_rfl) (sub_cons (by kernel_rfl) (sub_cons (by kernel_rfl) (sub_cons (by kernel_rfl) (sub_cons (by kernel_rfl) (sub_cons (by kernel_rfl) (sub_cons (by kernel_rfl) (sub_cons (by kernel_rfl) (sub_cons (by kernel_rfl) (sub_cons (by kernel_rfl) (sub_cons (by kernel_rfl) (sub_cons (by kernel_rfl) (sub_cons (by kernel_rfl) (sub_cons (by kernel_rfl) (sub_cons (by kernel_rfl) (sub_cons (by kernel_rfl) (sub_cons (by kernel_rfl) (sub_cons (by kernel_rfl) (sub_cons (by kernel_rfl) (sub_cons (by kernel_rfl) (sub_cons (by kernel_rfl) (sub_cons (by kernel_rfl) (sub_cons (by kernel_rfl) (sub_cons (by kernel_rfl) (sub_cons (by kernel_rfl) (sub_cons (by kernel_rfl) (sub_cons (by kernel_rfl) (sub_cons (by kernel_rfl) (sub_cons (by kernel_rfl) (sub_cons (by kernel_rfl) (sub_cons (by kernel_rfl) (sub_cons (by kernel_rfl) (sub_cons (by kernel_rfl) (sub_cons (by kernel_rfl) (sub_cons (by kernel_rfl) (sub_cons (by kernel_rfl) (sub_cons (by kernel_rfl) (sub_cons (by kernel_rfl) (sub_cons (by kernel_rfl) (sub_cons (by kernel_rfl) (sub_cons (by kernel_rfl) (sub_cons (by kernel_rfl) (sub_cons (by kernel_rfl) (sub_cons (by kernel_rfl) (sub_cons (by kernel_rfl) (sub_cons (by kernel_rfl) (sub_cons (by kernel_rfl) (sub_cons (by kernel_rfl) (sub_cons (by kernel_rfl) (sub_cons (by kernel_rfl) (sub_cons (by kernel_rfl) (sub_cons (by kernel_rfl) (sub_cons (by kernel_rfl) (sub_cons (by kernel_rfl) (sub_cons (by kernel_rfl) (sub_cons (by kernel_rfl) (sub_cons (by kernel_rfl) (sub_cons (by kernel_rfl) (sub_cons (by kernel_rfl) (sub_cons (by kernel_rfl) (sub_cons (by kernel_rfl) (sub_cons (by kernel_rfl) (sub_cons (by kernel_rfl) (sub_cons (by kernel_rfl) (sub_cons (by kernel_rfl) (sub_cons (by kernel_rfl) (sub_cons (by kernel_rfl) (sub_cons (by kernel_rfl) (sub_cons (by kernel_rfl) (sub_cons (by kernel_rfl) (sub_cons (by kernel_rfl) (sub_cons (by kernel_rfl) (sub_cons (by kernel_rfl) (sub_cons (by kernel_rfl) (sub_cons (by kernel_rfl) (sub_cons (by kernel_rfl) (sub_cons (by kernel_rfl) (sub_cons (by kernel_rfl) (sub_cons (by kernel_rfl) (sub_cons (by kernel_rfl) (sub_cons (by kernel_rfl) (sub_cons (by kernel_rfl) (sub_cons (by kernel_rfl) (sub_cons (by kernel_rfl) (sub_cons (by kernel_rfl) (sub_cons (by kernel_rfl) (sub_cons (by kernel_rfl) (sub_cons (by kernel_rfl) (sub_cons (by kernel_rfl) (sub_cons (by kernel_rfl) (sub_cons (by kernel_rfl) (sub_cons (by kernel_rfl) (fun p hp=>by cases hp))))))))))))))))))))))))))))))))))))))))))))))))))))))))))))))))))))))))))))))))))))))))))))))))))))))))))))))))))))))))))))))))))))))))))))))))))))))))),by kernel_rfl⟩
instance:CLimb tab where
 h115:=by kernel_rfl
 h116:=by kernel_rfl
 h117:=by kernel_rfl
 h118:=by kernel_rfl
 h91:=by kernel_rfl
instance:CNat tab where
 h115:=by kernel_rfl
 h116:=by kernel_rfl
 h117:=by kernel_rfl
 h118:=by kernel_rfl
 h91:=by kernel_rfl
 h86:=by kernel_rfl
 h106:=by kernel_rfl
 h71:=by kernel_rfl
 h72:=by kernel_rfl
 h73:=by kernel_rfl
 h70:=by kernel_rfl
 h87:=by kernel_rfl
 h85:=by kernel_rfl
 h56:=by kernel_rfl
 h88:=by kernel_rfl
 h57:=by kernel_rfl
 h2106:=by kernel_rfl
instance:CProd tab where
 h115:=by kernel_rfl
 h116:=by kernel_rfl
 h117:=by kernel_rfl
 h118:=by kernel_rfl
 h91:=by kernel_rfl
 h86:=by kernel_rfl
 h106:=by kernel_rfl
 h71:=by kernel_rfl
 h72:=by kernel_rfl
 h73:=by kernel_rfl
 h70:=by kernel_rfl
 h87:=by kernel_rfl
 h85:=by kernel_rfl
 h56:=by kernel_rfl
 h88:=by kernel_rfl
 h57:=by kernel_rfl
 h2106:=by kernel_rfl
 h89:=by kernel_rfl
 h60:=by kernel_rfl
instance:CTwos tab where
 h92:=by kernel_rfl
 h94:=by kernel_rfl
instance:CQuot tab where
 h90:=by kernel_rfl
 h119:=by kernel_rfl
 h120:=by kernel_rfl
 h121:=by kernel_rfl
 h93:=by kernel_rfl
instance:CQuotD tab where
 h2071:=by kernel_rfl
 h2092:=by kernel_rfl
 h62:=by kernel_rfl
instance:CDigits tab where
instance:CText tab where
instance:CWhole tab where
 h55:=by kernel_rfl
 h38:=by kernel_rfl
 h40:=by kernel_rfl
 h23:=by kernel_rfl
 h25:=by kernel_rfl
 h27:=by kernel_rfl
 h37:=by kernel_rfl
 h41:=by kernel_rfl
 h36:=by kernel_rfl
instance:CCommon tab where
 h198:=by kernel_rfl
 h199:=by kernel_rfl
 h200:=by kernel_rfl
 h201:=by kernel_rfl
instance:CFrac tab where
 h202:=by kernel_rfl
 h203:=by kernel_rfl
 h205:=by kernel_rfl
 h207:=by kernel_rfl
 h209:=by kernel_rfl
 h210:=by kernel_rfl
 h211:=by kernel_rfl
 h212:=by kernel_rfl
 h213:=by kernel_rfl
 h215:=by kernel_rfl
 h216:=by kernel_rfl
 h217:=by kernel_rfl
 h218:=by kernel_rfl
instance:CFrac2 tab where
 h214:=by kernel_rfl
instance:CFrac3 tab where
 h208:=by kernel_rfl
 h219:=by kernel_rfl
 h220:=by kernel_rfl
instance:CFrac5 tab where
 h221:=by kernel_rfl
 h223:=by kernel_rfl
instance:CPow tab where
 h356:=by kernel_rfl
instance:CTape tab where
 h421:=by kernel_rfl
 h430:=by kernel_rfl
 h433:=by kernel_rfl
 h434:=by kernel_rfl
 h435:=by kernel_rfl
 h437:=by kernel_rfl
 h438:=by kernel_rfl
 h439:=by kernel_rfl
instance:CGauge tab where
 h406:=by kernel_rfl
 h411:=by kernel_rfl
 h426:=by kernel_rfl
 h413:=by kernel_rfl
instance:CEval tab where
 h405:=by kernel_rfl
 h420:=by kernel_rfl
instance:CRun tab where
 h384:=by kernel_rfl
 h389:=by kernel_rfl
 h407:=by kernel_rfl
 h409:=by kernel_rfl
 h422:=by kernel_rfl
 h431:=by kernel_rfl
 h441:=by kernel_rfl
 h442:=by kernel_rfl
 h443:=by kernel_rfl
 h444:=by kernel_rfl
 h445:=by kernel_rfl
 h446:=by kernel_rfl
 h447:=by kernel_rfl
 h448:=by kernel_rfl
instance:CIfc tab where
 h1:=⟨282,by kernel_rfl⟩
instance:CJoin tab where
instance:CRow tab where
 h263:=by kernel_rfl
 h265:=by kernel_rfl
 h266:=by kernel_rfl
 h267:=by kernel_rfl
 h269:=by kernel_rfl
 h271:=by kernel_rfl
 h2263:=by kernel_rfl
 h2266:=by kernel_rfl
instance:CRow5 tab where
 h268:=by kernel_rfl
 h272:=by kernel_rfl
instance:CLex tab where
 h185:=by kernel_rfl
 h186:=by kernel_rfl
 h187:=by kernel_rfl
 h177:=by kernel_rfl
 h188:=by kernel_rfl
 h179:=by kernel_rfl
 h178:=by kernel_rfl
 h172:=by kernel_rfl
instance:CScheme tab where
 h536:=by kernel_rfl
 h551:=by kernel_rfl
 h559:=by kernel_rfl
 h560:=by kernel_rfl
 h561:=by kernel_rfl
 h562:=by kernel_rfl
instance:CSchP tab where
 h555:=by kernel_rfl
instance:CStep tab where
 h524:=by kernel_rfl
 h563:=by kernel_rfl
instance:CStepD tab where
 h526:=by kernel_rfl
 h537:=by kernel_rfl
 h552:=by kernel_rfl
 h553:=by kernel_rfl
 h554:=by kernel_rfl
 h556:=by kernel_rfl
 h564:=by kernel_rfl
instance:CKeep tab where
 h499:=by kernel_rfl
 h504:=by kernel_rfl
 h506:=by kernel_rfl
 h514:=by kernel_rfl
 h517:=by kernel_rfl
 h518:=by kernel_rfl
 h525:=by kernel_rfl
 h534:=by kernel_rfl
 h535:=by kernel_rfl
 h550:=by kernel_rfl
instance:CMarch tab where
 h512:=by kernel_rfl
 h531:=by kernel_rfl
instance:CPast tab where
 h513:=by kernel_rfl
 h532:=by kernel_rfl
 h533:=by kernel_rfl
 h549:=by kernel_rfl
instance:CPast2 tab where
 h519:=by kernel_rfl
instance:CLong33 tab where
 h496:=by kernel_rfl
 h515:=by kernel_rfl
instance:CTo33 tab where
 h507:=by kernel_rfl
 h527:=by kernel_rfl
instance:CLaw43 tab where
 h495:=by kernel_rfl
 h498:=by kernel_rfl
 h511:=by kernel_rfl
instance:CRef02 tab where
instance:CRef04 tab where
instance:CRef05 tab where
instance:CRef06 tab where
instance:CRef07 tab where
instance:CRef08 tab where
instance:CRef09 tab where
 h247:=by kernel_rfl
instance:CRef11 tab where
 h286:=by kernel_rfl
instance:CRef12 tab where
instance:CGrid tab where
instance:CLaw09 tab where
 h248:=by kernel_rfl
instance:CLaw11 tab where
 h287:=by kernel_rfl
instance:CLaw12 tab where
 h308:=by kernel_rfl
instance:CLaw24 tab where
 h379:=by kernel_rfl
 h382:=by kernel_rfl
end Go.Proofs.YtdmkoclfdmgllaaGreat
end
namespace Go.Ab
section
open Go.ChangeShapes Go.WideShapes Go.ChangeAt Go.RowKit
theorem zkh{H:Type}{enc:TypeId×Value→H}{P:Program}{f:Func}{s:ChangeSpec}{apart fresh handsOn again:Bool}{W W':World}{args:Array Value}{v:Value}{ds gs:List (DataW H)}{before pa pv:List MemPlace}
  (hW:DataW.Whole enc P f.params.toList s.vars apart W args.toList ds gs before)
  (hres:∀(b:Nat) (sp:Nat→Bool) (hd:Bool),DataW.TrodAll enc P W' b sp hd f.resultTypes.toList (v.resultList f.resultTypes.size) (s.fn H (ds++gs)).results [])
  (hargs:∀sp:Nat→Bool,(∀p∈before,sp p.block=true)→DataW.TrodAll enc P W' 0 sp true f.params.toList args.toList (s.fn H (ds++gs)).args pa)
  (hvars:∀sp:Nat→Bool,(∀p∈before,sp p.block=true)→DataW.TrodVars enc P W' sp s.vars (s.fn H (ds++gs)).vars pv)
  (hps:before=pa++pv) (hw:Below W.heap.size W W')
  (hok:∀(j:Nat) (t:TypeId) (r:Value),f.resultTypes[j]? = some t→(v.resultList f.resultTypes.size)[j]? = some r→Value.okWide P W' .any 0 t r) :
  s.post enc P f apart fresh handsOn again W args v W':=by
 have hold:∀p∈before,(fun b=>decide (b<W.heap.size)) p.block=true:=fun p hp=>by simpa using hW.lt p hp
 have hlt:∀p∈before,p.block<W.heap.size:=fun p hp=>hW.lt p hp
 refine⟨ds,gs,before,[],pa,pv,hW,hres _ _ _,hargs _ hold,hvars _ hold,World.keptBut_mono (fun p hp=>⟨hp,?_⟩) (hw.frame (·∈before)),fun _=>?_⟩
 ·grind
 ·obtain⟨_,_,_,_,_,hz,hn⟩:=hW
  refine⟨hok,_,_,([]++pa)++pv,⟨[]++pa,pv,trodAll_append (hargs _ (fun _ _=>rfl)) (hres _ _ _),hvars _ (fun _ _=>rfl),rfl,?_,?_⟩,?_⟩
  ·intro b off hp
   have hp':MemPlace.cell b off∈before:=by grind
   rw[hw.frozen (p:=⟨b,off,none⟩) (hlt _ hp')]
   exact hz b off hp'
  all_goals grind
end
section
open Go.ChangeShapes Go.WideShapes Go.ChangeAt Go.RowKit
inductive Ty where
 | int (k:IntKind)
 | bool
 | str
 | sl (r:Ty)
 | nil
 | cons (a:Ty) (r:Ty)
def Ty.z:Ty→Nat
 | .nil=>0
 | .cons a r=>a.z+r.z
 | _=>1
def Ok:Ty→List AV→Prop
 | .int k,cs=>∃n,cs=[.i k n]∧(Lit.int k n).wf=true
 | .bool,cs=>∃b,cs=[.b b]
 | .str,cs=>∃l,cs=[.s l]∧l.length≤maxLen
 | .sl r,cs=>∃els f,cs=[.sl els f]∧els.length≤maxLen∧(f=.nl∧els=[]∨f=.so)∧∀row∈els,Ok r row
 | .nil,cs=>cs=[]
 | .cons a r,cs=>∃c1 c2,cs=c1++c2∧Ok a c1∧Ok r c2
theorem Ok.len:∀{ty:Ty} {cs:List AV},Ok ty cs→cs.length=ty.z
 | .int _,_,⟨_,h,_⟩=>by rw[h];rfl
 | .bool,_,⟨_,h⟩=>by rw[h];rfl
 | .str,_,⟨_,h,_⟩=>by rw[h];rfl
 | .sl _,_,⟨_,_,h,_⟩=>by rw[h];rfl
 | .nil,_,h=>by rw[show _=[] from h];rfl
 | .cons _ _,_,⟨_,_,h,h1,h2⟩=>by rw[h,List.length_append,h1.len,h2.len];rfl
def RowC(w:World)(S:Nat→Nat→Prop)(cs:List Value)(xs:List AV):Prop:=
 xs.length=cs.length∧∀(j:Nat) (v:Value) (c:AV),cs[j]? = some v→xs[j]? = some c→CP w S v c∧v.oneCell'=true
section
variable{H:Type}{enc:TypeId×Value→H}{P:Program}{w:World}{base:Nat}{held:Bool}{S:Nat→Nat→Prop}
theorem RowC.nil:RowC w S [] []:=⟨rfl,fun j v c h=>by grind⟩
theorem RowC.one{v:Value}{c:AV}(h:CP w S v c)(h1:v.oneCell'=true):RowC w S [v] [c]:=by
 refine⟨rfl,fun j v' c' hv hc=>?_⟩
 grind
theorem RowC.append{cs cs':List Value}{xs xs':List AV}(h:RowC w S cs xs)(h':RowC w S cs' xs'):RowC w S (cs++cs') (xs++xs'):=by
 refine⟨by rw[List.length_append,List.length_append,h.1,h'.1],fun j v c hv hc=>?_⟩
 by_cases hj:j<cs.length
 ·rw[List.getElem?_append_left hj]at hv
  rw[List.getElem?_append_left (by rw[h.1];omega)]at hc
  exact h.2 j v c hv hc
 ·rw[List.getElem?_append_right (by omega)]at hv
  rw[List.getElem?_append_right (by rw[h.1];omega),h.1]at hc
  exact h'.2 _ v c hv hc
def fieldsTy(P:Program)(g:TypeId→Option Ty)(tot:Nat):Nat→List Field→Option Ty
 | off,[]=>if off=tot then some .nil else none
 | off,f::fs=>(g f.type).bind fun a=>if f.offset=off∧a.z=P.cellsOf f.type then (fieldsTy P g tot (off+a.z) fs).map (.cons a) else none
def repTy:Nat→Ty→Ty
 | 0,_=>.nil
 | n+1,a=>.cons a (repTy n a)
def tyOf(P:Program):Nat→TypeId→Option Ty
 | 0,_=>none
 | n+1,t=>
  match P.underlying t with
  | some .bool=>some .bool
  | some (.int k)=>some (.int k)
  | some .string=>some .str
  | some (.slice e)=>(tyOf P n e).bind fun r=>if r.z=P.cellsOf e∧0<r.z then some (.sl r) else none
  | some (.struct fs)=>fieldsTy P (tyOf P n) (P.cellsOf t) 0 fs.toList
  | some (.array k e)=>(tyOf P n e).bind fun a=>if a.z=P.cellsOf e∧k*a.z=P.cellsOf t then some (repTy k a) else none
  | _=>none
theorem zta{α:Type}{Q:Nat→α→Prop}:∀(n:Nat),(∀i,i<n→∃x,Q i x)→∃l:List α,l.length=n∧∀i x,l[i]? = some x→Q i x
 | 0,_=>⟨[],rfl,fun i x h=>by grind⟩
 | n+1,h=>by
  obtain⟨l,hl,hq⟩:=zta n fun i hi=>h i (by omega)
  obtain⟨x,hx⟩:=h n (by omega)
  refine⟨l++[x],by grind,fun i y hy=>?_⟩
  grind
def Places(S:Nat→Nat→Prop)(ps:List MemPlace):Prop:=∀k o,MemPlace.cell k o∈ps→S k o
theorem zhj{n:Nat}{g:TypeId→Option Ty}{cs:List Value}
  (ih:∀t cs x ty,DataW.trod enc P w base (fun _=>true) held n t cs=some x→g t=some ty→Places S x.2→∃xs,Ok ty xs∧RowC w S cs xs) :
  ∀(fs:List Field) (off:Nat) (ty:Ty) (ys:List (DataW H×List MemPlace)),
   ys.length=fs.length→(∀(i:Nat) (f:Field),fs[i]? = some f→DataW.trod enc P w base (fun _=>true) held n f.type ((cs.drop f.offset).take (P.cellsOf f.type))=ys[i]?) →
   fieldsTy P g cs.length off fs=some ty→Places S (ys.flatMap (·.2))→∃xs,Ok ty xs∧RowC w S (cs.drop off) xs
 | [],off,ty,ys,hl,hm,ht,hp=>by
  simp only[fieldsTy]at ht
  split at ht<;>cases ht
  rename_i ho
  exact⟨[],rfl,by rw[ho,List.drop_length];exact RowC.nil⟩
 | f::fs,off,ty,[],hl,hm,ht,hp=>by grind
 | f::fs,off,ty,y::ys1,hl,hm,ht,hp=>by
  obtain⟨a,ha,ht1⟩:=bind_some ht
  split at ht1
  ·rename_i hc
   obtain⟨ho,hz⟩:=hc
   obtain⟨r,hr,rfl⟩:=map_some ht1
   have hy:=hm 0 f rfl
   rw[ho,←hz]at hy
   obtain⟨xs1,ho1,hr1⟩:=ih _ _ _ _ hy ha fun k o h=>hp k o (by grind)
   obtain⟨xs2,ho2,hr2⟩:=zhj ih fs _ r ys1 (by grind) (fun i f' hf=>by simpa using hm (i+1) f' (by grind)) hr fun k o h=>hp k o (by
    grind)
   refine⟨xs1++xs2,⟨xs1,xs2,rfl,ho1,ho2⟩,?_⟩
   have e:cs.drop off=(cs.drop off).take a.z++cs.drop (off+a.z):=by rw[←List.drop_drop,List.take_append_drop]
   rw[e]
   exact hr1.append hr2
  grind
theorem zjj{n:Nat}{e:TypeId}{r:Ty}(ih:∀cs x,DataW.trod enc P w base (fun _=>true) held n e cs=some x→Places S x.2→∃xs,Ok r xs∧RowC w S cs xs) :
  ∀(k:Nat) (cs:List Value) (ys:List (DataW H×List MemPlace)),ys.length=k→cs.length=k*r.z →
   (∀(i:Nat),i<k→DataW.trod enc P w base (fun _=>true) held n e ((cs.drop (i*r.z)).take r.z)=ys[i]?)→Places S (ys.flatMap (·.2))→∃xs,Ok (repTy k r) xs∧RowC w S cs xs
 | 0,cs,ys,hl,hc,hm,hp=>by
  rw[Nat.zero_mul,List.length_eq_zero_iff]at hc
  subst hc
  exact⟨[],rfl,RowC.nil⟩
 | k+1,cs,[],hl,hc,hm,hp=>by grind
 | k+1,cs,y::ys,hl,hc,hm,hp=>by
  have hy:=hm 0 (by omega)
  rw[Nat.zero_mul,List.drop_zero]at hy
  obtain⟨xs1,ho1,hr1⟩:=ih _ _ hy fun k o h=>hp k o (by grind)
  obtain⟨xs2,ho2,hr2⟩:=zjj ih k (cs.drop r.z) ys (by grind) (by grind) (fun i hi=>by
   grind[List.drop_drop]) fun k o h=>hp k o (by
    grind)
  refine⟨xs1++xs2,⟨xs1,xs2,rfl,ho1,ho2⟩,?_⟩
  have e:cs=cs.take r.z++cs.drop r.z:=(List.take_append_drop ..).symm
  rw[e]
  exact hr1.append hr2
theorem zpd{a:Addr}{m z:Nat}{cs:List Value}(h:w.cells? base (a.add m) z=some cs)(j:Nat)(hj:j<z):w.cell? ((a.add m).add j)=cs[j]? := (World.cells?_some h).2.2 j hj
theorem ztb{a:Addr}{v:Value}(h:w.cell? a=some v):a.spot=none:=by
 unfold World.cell? at h
 split at h
 all_goals simp_all
theorem zfg:∀(n m:Nat) (t:TypeId) (cs:List Value) (x:DataW H×List MemPlace) (ty:Ty),
  DataW.trod enc P w base (fun _=>true) held n t cs=some x→tyOf P m t=some ty→Places S x.2→∃xs,Ok ty xs∧RowC w S cs xs
 | 0,_,_,_,_,_,h,_,_=>by simp[DataW.trod]at h
 | n+1,0,_,_,_,_,_,ht,_=>by simp[tyOf]at ht
 | n+1,m+1,t,cs,x,ty,h,ht,hp=>by
  simp only[tyOf]at ht
  split at ht
  ·rename_i hu
   cases ht
   obtain⟨b,rfl,rfl⟩:=DataW.trod_bool hu h
   exact⟨[.b b],⟨b,rfl⟩,RowC.one (.b b) rfl⟩
  ·rename_i k hu
   cases ht
   obtain⟨z,rfl,rfl,hw⟩:=DataW.trod_int hu h
   exact⟨[.i k z],⟨z,rfl,hw⟩,RowC.one (.i k z) rfl⟩
  ·rename_i hu
   cases ht
   obtain⟨s,rfl,rfl,hs⟩:=DataW.trod_string hu h
   exact⟨[.s s.data.toList],⟨_,rfl,by simp_all⟩,RowC.one (.s s.data.toList) rfl⟩
  ·rename_i e hu
   obtain⟨r,hr,ht1⟩:=bind_some ht
   split at ht1
   ·rename_i hz
    cases ht1
    obtain⟨hz,hzp⟩:=hz
    rcases DataW.trod_slice hu h with ⟨rfl,rfl⟩ | ⟨a,len,cap,elems,rest,n',hn',rfl,rfl,hb,hl,hmx,hlen,hel,hsp,hns⟩
    ·exact⟨[.sl [] .nl],⟨[],.nl,rfl,Nat.zero_le _,.inl ⟨rfl,rfl⟩,fun row h=>by grind⟩,RowC.one (.slnil _ (.inl rfl)) rfl⟩
    ·obtain⟨hrl,hrest⟩:=hsp rfl
     have hall:∀i,i<cap→∃y cs',y∈elems++rest∧w.cells? base (a.add (i*P.cellsOf e)) (P.cellsOf e)=some cs'∧DataW.trod enc P w base (fun _=>true) held n e cs'=some y:=by
      intro i hi
      by_cases hil:i<len
      ·have h1:=hel i hil
       rw[List.getElem?_eq_getElem (by omega)]at h1
       obtain⟨cs',h2,h3⟩:=bind_some h1
       grind
      ·have h1:=hrest (i-len) (by omega)
       rw[List.getElem?_eq_getElem (by omega),show len+(i-len)=i by omega]at h1
       obtain⟨cs',h2,h3⟩:=bind_some h1
       grind
     by_cases hcap:cap=0
     ·have hl0:len=0:=by omega
      subst hcap
      subst hl0
      exact⟨[.sl [] .so],⟨[],.so,rfl,Nat.zero_le _,.inr rfl,fun row h=>by grind⟩,RowC.one (.slz a _ (.inl rfl)) rfl⟩
     ·have hspot:a.spot=none:=by
       obtain⟨y,cs',_,h2,_⟩:=hall 0 (by omega)
       have h3:=zpd h2 0 (by omega)
       grind[World.cells?_some,ztb,Addr.add]
      obtain⟨blk,off,sp⟩:=a
      have hrows:∀i,i<len→∃xs,Ok r xs∧∃cs',w.cells? base ((⟨blk,off,none⟩:Addr).add (i*P.cellsOf e)) (P.cellsOf e)=some cs'∧RowC w S cs' xs:=by
       intro i hi
       obtain⟨y,cs',hy,h2,h3⟩:=hall i (by omega)
       obtain⟨xs,ho,hrc⟩:=zfg n m e cs' y r h3 hr fun k o hk=>hp k o (by
        grind)
       grind
      obtain⟨els,hels,hq⟩:=zta len hrows
      refine⟨[.sl els .so],⟨els,.so,rfl,by omega,.inr rfl,fun row hrow=>?_⟩,RowC.one ?_ rfl⟩
      ·grind[List.getElem?_of_mem]
      ·have hcell:∀i j,i<els.length→j<r.z→∃v,w.cell? ⟨blk,off+i*r.z+j,none⟩=some v∧v.oneCell'=true∧∀row c,els[i]? = some row→row[j]? = some c→CP w S v c:=by
        intro i j hi hj
        obtain⟨ho,cs',h2,hrc⟩:=hq i _ (List.getElem?_eq_getElem hi)
        have h3:=zpd h2 j (by omega)
        have h4:=(World.cells?_some h2).2.1
        rw[zbg,zbg,←hz,List.getElem?_eq_getElem (by omega)]at h3
        have hlr:=ho.len
        have h5:=hrc.2 j _ _ (List.getElem?_eq_getElem (by omega)) (List.getElem?_eq_getElem (by omega))
        grind
       have hS:∀i j,i<els.length→j<r.z→S blk (off+i*r.z+j):=by
        intro i j hi hj
        refine hp _ _ ?_
        rw[List.mem_append]
        left
        unfold MemPlace.row
        rw[List.mem_map]
        refine⟨i*r.z+j,?_,by rw[Nat.add_assoc]⟩
        have h1:(i+1)*r.z≤(elems.length+rest.length)*r.z:=Nat.mul_le_mul_right _ (by omega)
        grind
       have:=CP.sl (w:=w) (S:=S) blk off r.z cap els .so (fun i j=>(w.cell? ⟨blk,off+i*r.z+j,none⟩).getD undef) (by simp) (by simp) (by omega) hmx
        (fun i row hrow=>(hq i row hrow).1.len) (fun i j hi hj=>?_) (fun i row j c hrow hc=>?_)
       ·grind
       ·grind
       ·have hi:=(List.getElem?_eq_some_iff.1 hrow).1
        have hj:=(List.getElem?_eq_some_iff.1 hc).1
        rw[(hq i row hrow).1.len]at hj
        grind
   grind
  ·rename_i fs hu
   obtain⟨xs,n',hn',rfl,hcl,hxl,hx⟩:=DataW.trod_struct hu h
   cases hn'
   rw[←hcl]at ht
   have:=zhj (S:=S) (g:=tyOf P m) (cs:=cs) (n:=n) (fun t cs x ty h1 h2 h3=>zfg n m t cs x ty h1 h2 h3) fs.toList 0 ty xs (by omega) (fun i f hf=>hx i f (by grind)) ht hp
   grind
  ·rename_i k e hu
   obtain⟨r,hr,ht1⟩:=bind_some ht
   split at ht1
   ·rename_i hz
    cases ht1
    obtain⟨hz,hzt⟩:=hz
    obtain⟨xs,n',hn',rfl,hcl,hxl,hx⟩:=DataW.trod_array hu h
    cases hn'
    rw[←hz]at hx
    exact zjj (S:=S) (n:=n) (e:=e) (r:=r) (fun cs x h1 h3=>zfg n m e cs x r h1 hr h3) k cs xs hxl (by omega) hx hp
   grind
  grind
end
end
section
open Go.ChangeShapes Go.WideShapes Go.ChangeAt Go.RowKit
def isAgg(P:Program)(t:TypeId):Bool:=match P.underlying t with | some (.struct _)=>true | some (.array _ _)=>true | _=>false
def tysOf(P:Program)(m:Nat):List TypeId→Option (List (Bool×Ty))
 | []=>some []
 | t::ts=>(tyOf P m t).bind fun a=>(tysOf P m ts).map fun r=>(isAgg P t,a)::r
def OkArg:Bool×Ty→AV→Prop
 | (true,ty),x=>∃cs,x=.agg cs∧Ok ty cs
 | (false,ty),x=>Ok ty [x]
def OkArgs:List (Bool×Ty)→List AV→Prop
 | [],xs=>xs=[]
 | a::r,xs=>∃x ys,xs=x::ys∧OkArg a x∧OkArgs r ys
section
variable{H:Type}{enc:TypeId×Value→H}{P:Program}{w:World}{S:Nat→Nat→Prop}
theorem zxr{m:Nat}{t:TypeId}{v:Value}{d:DataW H}{p:List MemPlace}{ty:Ty}{base:Nat}(hA:DataW.Trod enc P w 0 (fun _=>true) true t v d p)(hT:tyOf P m t=some ty)
  (hval:Value.okWide P w .any base t v) (hp:Places S p):∃x,OkArg (isAgg P t,ty) x∧CP w S v x:=by
 obtain⟨fuel,hf⟩:=hA
 obtain⟨xs,ho,hrc⟩:=zfg (S:=S) fuel m t _ _ ty hf hT hp
 have hlen:=ho.len
 cases hu:P.underlying t with
 | none=>cases m<;>simp[tyOf,hu]at hT
 | some desc=>
  have one:∀(hag:isAgg P t=false) (hz:ty.z=1) (hv:v.cells=#[v]),∃x,OkArg (isAgg P t,ty) x∧CP w S v x:=by
   intro hag hz hv
   rw[hag]
   match xs,hlen with
   | [x],_=>
    refine⟨x,ho,?_⟩
    have:=hrc.2 0 v x (by grind) rfl
    grind
   | [],h=>grind
   | _::_::_,h=>grind
  cases m with
  | zero=>simp[tyOf]at hT
  | succ m=>
  cases desc<;>simp only[tyOf,hu]at hT<;>try (cases hT;done)
  case struct fs=>
   have hag:isAgg P t=true:=by simp[isAgg,hu]
   rw[hag]
   unfold Value.okWide at hval
   rw[hu]at hval
   obtain⟨cs,rfl,hcs,_⟩:=hval
   refine⟨.agg xs,⟨xs,rfl,ho⟩,.agg cs xs ?_ ?_ ?_⟩
   ·have:=hrc.1
    simpa[Value.cells]using this.symm
   ·intro j u hu
    have hl:=hrc.1
    have hj:j<cs.size:=(Array.getElem?_eq_some_iff.1 hu).1
    have hj':j<xs.length:=by rw[hl];simpa[Value.cells]using hj
    exact(hrc.2 j u _ (by simpa[Value.cells]using hu) (List.getElem?_eq_getElem hj')).2
   ·intro j u c hu hc
    exact(hrc.2 j u c (by simpa[Value.cells]using hu) hc).1
  case array k e=>
   have hag:isAgg P t=true:=by simp[isAgg,hu]
   rw[hag]
   unfold Value.okWide at hval
   rw[hu]at hval
   obtain⟨cs,rfl,hcs,_⟩:=hval
   refine⟨.agg xs,⟨xs,rfl,ho⟩,.agg cs xs ?_ ?_ ?_⟩
   ·have:=hrc.1
    simpa[Value.cells]using this.symm
   ·intro j u hu
    have hl:=hrc.1
    have hj:j<cs.size:=(Array.getElem?_eq_some_iff.1 hu).1
    have hj':j<xs.length:=by rw[hl];simpa[Value.cells]using hj
    exact(hrc.2 j u _ (by simpa[Value.cells]using hu) (List.getElem?_eq_getElem hj')).2
   ·intro j u c hu hc
    exact(hrc.2 j u c (by simpa[Value.cells]using hu) hc).1
  case bool=>
   cases hT
   unfold Value.okWide Cell.okWide Cell.ok at hval
   refine one (by simp[isAgg,hu]) rfl ?_
   cases v<;>first | rfl | grind
  case int k=>
   cases hT
   unfold Value.okWide Cell.okWide Cell.ok at hval
   rw[hu]at hval
   refine one (by simp[isAgg,hu]) rfl ?_
   cases v<;>first | rfl | grind
  case string=>
   cases hT
   unfold Value.okWide Cell.okWide Cell.ok at hval
   rw[hu]at hval
   refine one (by simp[isAgg,hu]) rfl ?_
   cases v<;>first | rfl | grind
  case slice e=>
   obtain⟨r,hr,ht1⟩:=bind_some hT
   split at ht1<;>cases ht1
   unfold Value.okWide Cell.okWide Cell.ok at hval
   rw[hu]at hval
   refine one (by simp[isAgg,hu]) rfl ?_
   cases v<;>first | rfl | grind
theorem zlv{m base:Nat}:∀(ts:List TypeId) (vs:List Value) (ds:List (DataW H)) (p:List MemPlace) (tys:List (Bool×Ty)),DataW.TrodAll enc P w 0 (fun _=>true) true ts vs ds p→tysOf P m ts=some tys →
  (∀(j:Nat) t v,ts[j]? = some t→vs[j]? = some v→Value.okWide P w .any base t v)→Places S p →
  ∃xs,OkArgs tys xs∧vs.length=xs.length∧∀(j:Nat) (v:Value) (c:AV),vs[j]? = some v→xs[j]? = some c→CP w S v c
 | [],vs,ds,p,tys,hA,hT,hval,hp=>by
  obtain⟨rfl,_,_⟩:=trodAll_nil hA
  cases hT
  exact⟨[],rfl,rfl,fun j v c h=>by grind⟩
 | t::ts,vs,ds,p,tys,hA,hT,hval,hp=>by
  obtain⟨v,vs1,d,ds1,a,b,rfl,rfl,rfl,h1,h2⟩:=trodAll_cons hA
  obtain⟨ty,hty,hT1⟩:=bind_some hT
  obtain⟨r,hr,rfl⟩:=map_some hT1
  obtain⟨x,hx,hC⟩:=zxr (S:=S) h1 hty (hval 0 t v rfl rfl) fun k o h=>hp k o (List.mem_append_left _ h)
  obtain⟨xs,ho,hl,hc⟩:=zlv (m:=m) (base:=base) ts vs1 ds1 b r h2 hr (fun j t v ht hv=>hval (j+1) t v (by grind) (by grind)) fun k o h=>hp k o (List.mem_append_right _ h)
  refine⟨x::xs,⟨x,xs,rfl,hx,ho⟩,by grind,fun j u c hu hcc=>?_⟩
  grind
theorem zpe(hl:laidOutB P=true){W W':World}(hb:Below W.heap.size W W'){sp:Nat→Bool}:∀(ts:List TypeId) (vs:List Value) (ds:List (DataW H)) (p:List MemPlace),
  (ts.all fun t=>P.readableRec t&&decide (t<P.types.size))=true→DataW.TrodAll enc P W 0 (fun _=>true) true ts vs ds p→(∀x∈p,x.block<W.heap.size)→(∀x∈p,sp x.block=true)→DataW.TrodAll enc P W' 0 sp true ts vs ds p
 | [],_,_,_,_,hA,_,_=>by
  obtain⟨rfl,rfl,rfl⟩:=trodAll_nil hA
  exact rfl
 | t::ts,vs,ds,p,hr,hA,hlt,hsp=>by
  obtain⟨v,vs1,d,ds1,a,b,rfl,rfl,rfl,h1,h2⟩:=trodAll_cons hA
  rw[List.all_cons,Bool.and_eq_true,Bool.and_eq_true,decide_eq_true_eq]at hr
  exact⟨a,b,WideElems.Trod_stays hl hr.1.1 hr.1.2 h1 (fun x hx=>hb.same (hlt x (List.mem_append_left _ hx))) (fun x hx=>hsp x (List.mem_append_left _ hx)),
   zpe hl hb ts vs1 ds1 b hr.2 h2 (fun x hx=>hlt x (List.mem_append_right _ hx)) (fun x hx=>hsp x (List.mem_append_right _ hx)),rfl⟩
theorem ztc:∀(ts:List TypeId) (vs:List Value) (ds:List (DataW H)) (p:List MemPlace),DataW.TrodAll enc P w 0 (fun _=>true) true ts vs ds p→ds.length=ts.length
 | [],_,_,_,hA=>by
  obtain⟨rfl,rfl,rfl⟩:=trodAll_nil hA
  rfl
 | t::ts,vs,ds,p,hA=>by
  obtain⟨v,vs1,d,ds1,a,b,rfl,rfl,rfl,h1,h2⟩:=trodAll_cons hA
  simp[ztc ts vs1 ds1 b h2]
theorem zxs{f:FuncId}{fn:Func}{s:ChangeSpec}{m tb:Nat}{tys:List (Bool×Ty)}{fresh handsOn again:Bool}(hvars:s.vars=[])(hT:tysOf P m fn.params.toList=some tys)(hl:laidOutB P=true)
  (hread:(fn.params.toList.all fun t=>P.readableRec t&&decide (t<P.types.size))=true) (hr:fn.resultTypes=#[tb]) (hb:P.underlying tb=some .bool)
  (hfn:∀ds:List (DataW H),ds.length=fn.params.toList.length→s.fn H ds={ results:=[.lit (.bool true)],args:=ds })
  (hcall:∀xs,OkArgs tys xs→PCall P f xs (·=.b true)) {W:World} {args:Array Value} {ds gs:List (DataW H)} {before:List MemPlace} {base:Nat}
  (hval:∀(j:Nat) t v,fn.params[j]? = some t→args[j]? = some v→Value.okWide P W .any base t v) (hW:DataW.Whole enc P fn.params.toList s.vars false W args.toList ds gs before) :
  Calls P f args W fun e W'=>∃v,e=.returned v∧s.post enc P fn false fresh handsOn again W args v W':=by
 have hW':=hW
 obtain⟨p,q,hA,hV,rfl,hfz,hnd⟩:=hW
 rw[hvars]at hV
 obtain⟨rfl,rfl⟩:=trodVars_none hV
 have hlt:∀x∈p,x.block<W.heap.size:=fun x hx=>hW'.lt x (List.mem_append_left _ hx)
 obtain⟨xs,ho,hlen,hC⟩:=zlv (S:=fun k o=>MemPlace.cell k o∈p) _ _ _ _ _ hA hT (fun j t v ht hv=>hval j t v (by grind) (by grind)) (fun k o h=>h)
 have hc:=(hcall xs ho).2 W (fun k o=>MemPlace.cell k o∈p) args (by omega) (fun j v c hv hc=>hC j v c (by grind) hc) (fun k o h=>hlt _ h)
 refine hc.mono fun e W' ⟨v,r,he,hrr,hbel,hCr⟩=>?_
 subst he hrr
 have hv:v=.bool true:=by cases hCr;rfl
 subst hv
 have hlf:=hfn ds (ztc _ _ _ _ hA)
 refine⟨_,rfl,zkh (pa:=p) (pv:=[]) hW' (fun b sp hd=>?_) (fun sp hsp=>?_) (fun sp _=>?_) rfl hbel (ok_one hr rfl (okWide_bool_mk hb _))⟩
 ·rw[List.append_nil,hlf,hr]
  exact trodAll_mk1 (shut_bool hb _)
 ·grind[zpe]
 ·rw[List.append_nil,hlf,hvars]
  exact rfl
end
end
theorem zkr:∀(els:List (List AV)),(∀row∈els,Ok (.int .u32) row)→∃l:List UInt32,els=u32s l
 | [],_=>⟨[],rfl⟩
 | r::els,h=>by
  obtain⟨l,rfl⟩:=zkr els fun row hr=>h row (List.mem_cons_of_mem _ hr)
  obtain⟨n,rfl,hw⟩:=h r List.mem_cons_self
  have h1:0≤n∧n<4294967296:=by
   simp[Lit.wf,IntKind.min,IntKind.max,IntKind.signed,IntKind.bits]at hw
   omega
  refine⟨w32 n.toNat::l,?_⟩
  have:(w32 n.toNat).toNat=n.toNat:=zaf (by omega)
  simp only[u32s,List.map_cons,this,u32]
  rw[Int.toNat_of_nonneg h1.1]
theorem zx4{P:Program}{ν:Nat→FuncId}{T:Tbl}(hT:TOk P ν T)(hm:P.follows .mixedOrders=true){u:Nat}{af:AFx}{xs ys:List AV}{r:AV}(hu:T u=some af)(hl:af.lent=none)(h:callF T u ys=some r)(hx:xs.map wkA=ys):PCall P (ν u) xs (·=r):=by
 subst hx
 have h1:=zof hT hm hu hl h
 exact PCall.wk (ex:=false) h1
abbrev Fz:=Bool×List UInt32×List UInt32
abbrev celF(x:Fz):List AV:=[.b x.1,.sl (u32s x.2.1) .an,.sl (u32s x.2.2) .an]
abbrev efz(x:Fz):AV:=.agg (celF x)
def fv(x:Fz):Rat:=mkRat (wv x.1 x.2.1) (val x.2.2)
def fz(q:Rat):Fz:=(decide (q.num<0),ofN q.num.natAbs,ofN q.den)
@[simp] theorem zbt(q:Rat):fv (fz q)=q:=by
 unfold fv fz
 rw[zi9,zah,Rat.mkRat_self]
def fsz(x:Fz):Nat:=max x.2.1.length x.2.2.length
theorem zev(x:Fz):x.2.1.length≤fsz x:=Nat.le_max_left ..
theorem ze9(x:Fz):x.2.2.length≤fsz x:=Nat.le_max_right ..
def sz(q:Rat):Nat:=max (ofN q.num.natAbs).length (ofN q.den).length
theorem ziw(q:Rat):(ofN q.num.natAbs).length≤sz q:=Nat.le_max_left ..
theorem zix(q:Rat):(ofN q.den).length≤sz q:=Nat.le_max_right ..
theorem ziy{n:Nat}(h:n≠0):1≤(ofN n).length:=by
 have:ofN n≠[]:=fun e=>h (zbf.1 e)
 exact List.length_pos_iff.2 this
theorem z02(q:Rat):1≤sz q:=Nat.le_trans (ziy q.den_nz) (zix q)
theorem z03{z:Int}{d:Nat}(h:d≠0):(mkRat z d).num.natAbs=z.natAbs/Nat.gcd z.natAbs d:=by
 rw[Rat.num_mkRat,if_neg h,Int.natAbs_ediv_of_dvd (Int.ofNat_dvd_left.2 (Nat.gcd_dvd_right ..)),Int.natAbs_natCast,Nat.gcd_comm]
theorem z04{z:Int}{d:Nat}(h:d≠0):(mkRat z d).den=d/Nat.gcd z.natAbs d:=by
 rw[Rat.den_mkRat,if_neg h,Nat.gcd_comm]
theorem z05{z:Int}{d:Nat}(h:d≠0):sgI (mkRat z d).num=sgI z:=by
 rw[Rat.num_mkRat,if_neg h]
 have hg:0<Nat.gcd d z.natAbs:=Nat.gcd_pos_of_pos_left _ (Nat.pos_of_ne_zero h)
 obtain⟨k,hk⟩:((Nat.gcd d z.natAbs:Nat):Int) ∣ z:=Int.ofNat_dvd_left.2 (Nat.gcd_dvd_right ..)
 generalize Nat.gcd d z.natAbs=g at *
 have hg':(0:Int)<g:=by omega
 subst hk
 rw[Int.mul_ediv_cancel_left _ (by omega)]
 unfold sgI
 rcases Int.lt_trichotomy k 0 with h1 | h1 | h1
 ·have:=Int.mul_neg_of_pos_of_neg hg' h1
  rw[if_pos h1,if_pos this]
 ·subst h1;simp
 ·have:=Int.mul_pos hg' h1
  rw[if_neg (by omega),if_neg (by omega),if_neg (by omega),if_neg (by omega)]
theorem zwv(z:Int):decide (z<0)=decide (sgI z<0):=by
 unfold sgI
 split
 ·simp[*]
 ·split<;>simp[*]
theorem z9s{z:Int}{d:Nat}(h:d≠0):decide ((mkRat z d).num<0)=decide (z<0):=by
 rw[zwv,zwv z,z05 h]
theorem zaif(n:Bool)(x:Nat){d:Nat}(h:d≠0):fz (mkRat (sg n x) d)=(n&&decide (x≠0),ofN (x/Nat.gcd x d),ofN (d/Nat.gcd x d)):=by
 unfold fz
 rw[z9s h,z03 h,z04 h,zqc,zqd]
theorem zfa:ofN 1=[1]:=by
 rw[ziu (by decide),show 1/4294967296=0 from rfl,zk7]
 rfl
theorem zgl:sz 0=1:=by
 unfold sz
 rw[Rat.zero_num,Rat.zero_den,zfa]
 simp
theorem z06:sz 1=1:=by
 unfold sz
 rw[Rat.one_num,Rat.one_den,show (1:Int).natAbs=1 from rfl,zfa]
 rfl
theorem zas(q:Rat):fsz (fz q)=sz q:=rfl
theorem z4c{z:Int}{d L:Nat}(hz:(ofN z.natAbs).length≤L)(hd:(ofN d).length≤L)(h1:1≤L):sz (mkRat z d)≤L:=by
 unfold sz
 by_cases h:d=0
 ·subst h
  rw[Rat.mkRat_zero,Rat.zero_num,Rat.zero_den,zfa]
  simp
  omega
 ·rw[z03 h,z04 h]
  exact Nat.max_le.2 ⟨Nat.le_trans (zbr (Nat.div_le_self _ _)) hz,Nat.le_trans (zbr (Nat.div_le_self _ _)) hd⟩
theorem zba{x:Fz}{L:Nat}(h:fsz x≤L)(h1:1≤L):sz (fv x)≤L:=
 z4c (Nat.le_trans (zb5 _ _) (Nat.le_trans (zev x) h)) (Nat.le_trans (zad _) (Nat.le_trans (ze9 x) h)) h1
theorem zb3{x y L M:Nat}(hx:(ofN x).length≤L)(hy:(ofN y).length≤M):(ofN (x*y)).length≤L+M:=by
 have:=zay (x:=(x:Int)) (y:=(y:Int)) (L:=L) (M:=M) (by simpa using hx) (by simpa using hy)
 simpa[Int.natAbs_mul]using this
theorem zei(p q:Rat):sz (p+q)≤sz p+sz q+1:=by
 rw[Rat.add_def']
 have h1:=ziw p;have h2:=zix p;have h3:=ziw q;have h4:=zix q;have h5:=z02 p
 refine z4c ?_ (Nat.le_trans (zb3 h2 h4) (by omega)) (by omega)
 refine zd3 ?_ ?_
 ·exact zay h1 (by simpa using h4)
 ·rw[Nat.add_comm]
  exact zay h3 (by simpa using h2)
theorem zfw(p q:Rat):sz (p*q)≤sz p+sz q:=by
 rw[Rat.mul_def']
 have h1:=ziw p;have h2:=zix p;have h3:=ziw q;have h4:=zix q;have h5:=z02 p
 exact z4c (zay h1 h3) (zb3 h2 h4) (by omega)
theorem zww(p:Rat):sz (-p)=sz p:=by
 unfold sz
 rw[Rat.neg_num,Rat.neg_den,Int.natAbs_neg]
theorem z9t(p q:Rat):sz (p-q)≤sz p+sz q+1:=by
 rw[Rat.sub_eq_add_neg]
 have:=zei p (-q)
 rwa [zww]at this
theorem z07(p:Rat):sz p⁻¹≤sz p:=by
 unfold sz
 rw[Rat.num_inv,Rat.den_inv]
 by_cases h:p.num=0
 ·simp[h,zfa]
  have:=ziy p.den_nz
  omega
 ·rw[if_neg h,Int.natAbs_mul,Int.natAbs_sign_of_ne_zero h,Nat.one_mul,Int.natAbs_natCast,Nat.max_comm]
  exact Nat.le_refl _
theorem z9u(p q:Rat):sz (p/q)≤sz p+sz q:=by
 rw[Rat.div_def]
 exact Nat.le_trans (zfw _ _) (Nat.add_le_add_left (z07 q) _)
def sgQ(q:Rat):Int:=sgI q.num
theorem z08{z:Int}{d:Nat}(h:d≠0):sgQ (mkRat z d)=sgI z:=z05 h
theorem zz1{z:Int}:sgI z=0↔z=0:=by
 unfold sgI
 split
 ·constructor<;>intro h<;>omega
 ·split<;>constructor<;>intro h<;>omega
theorem z4d{z:Int}:0<sgI z↔0<z:=by
 unfold sgI
 split
 ·constructor<;>intro h<;>omega
 ·split<;>constructor<;>intro h<;>omega
theorem zfx{q:Rat}:sgQ q=0↔q=0:=by
 unfold sgQ
 rw[zz1,Rat.num_eq_zero]
theorem zk9{q:Rat}:0<sgQ q↔0<q:=by
 unfold sgQ
 rw[z4d,Rat.lt_iff]
 simp
def rowF(l:List Fz):List (List AV):=l.map celF
@[simp] theorem ziz(l:List Fz):(rowF l).length=l.length:=by simp[rowF]
@[simp] theorem zla(l:List Fz):wkL (rowF l)=rowF l:=by rw[zbs];simp[rowF,wkR,wkA]
@[simp] theorem zac9(l:List Fz)(i:Nat)(h:i<(rowF l).length):(rowF l)[i]=celF (l[i]'(by simpa using h)):=by simp[rowF]
theorem zi0(l:List Fz)(x:Fz):rowF l++[celF x]=rowF (l++[x]):=by simp[rowF]
theorem zqe(l:List Fz)(i:Nat)(x:Fz):(rowF l).set i (celF x)=rowF (l.set i x):=by simp[rowF,List.map_set]
@[simp] theorem z9v(l:List Fz)(n:Nat):(rowF l).take n=rowF (l.take n):=by simp[rowF]
@[simp] theorem z9w(l:List Fz)(n:Nat):(rowF l).drop n=rowF (l.drop n):=by simp[rowF]
@[simp] theorem zd4:rowF []=[]:=rfl
def matF(m:List (List Fz)):List (List AV):=m.map fun r=>[.sl (rowF r) .an]
@[simp] theorem zdc(l:List (List Fz)):(matF l).length=l.length:=by simp[matF]
@[simp] theorem zar(l:List (List Fz)):wkL (matF l)=matF l:=by rw[zbs];simp[matF,wkR,wkA]
@[simp] theorem zada(l:List (List Fz))(i:Nat)(h:i<(matF l).length):(matF l)[i]=[.sl (rowF (l[i]'(by simpa using h))) .an]:=by simp[matF]
theorem znj(l:List (List Fz))(r:List Fz):matF l++[[.sl (rowF r) .an]]=matF (l++[r]):=by simp[matF]
@[simp] theorem z9x(l:List (List Fz))(n:Nat):(matF l).take n=matF (l.take n):=by simp[matF]
@[simp] theorem zqf:matF []=[]:=rfl
abbrev tyF:Ty:=.cons .bool (.cons (.sl (.int .u32)) (.cons (.sl (.int .u32)) .nil))
theorem zpq{cs:List AV}(h:Ok tyF cs):∃x:Fz,wkR cs=celF x:=by
 obtain⟨c1,c2,rfl,⟨b,rfl⟩,c3,c4,rfl,⟨els,f,rfl,_,_,he⟩,c5,c6,rfl,⟨els2,f2,rfl,_,_,he2⟩,rfl⟩:=h
 obtain⟨l,rfl⟩:=zkr els he
 obtain⟨l2,rfl⟩:=zkr els2 he2
 refine⟨(b,l,l2),?_⟩
 simp[wkA,wkR]
theorem zmq:∀(els:List (List AV)),(∀r∈els,Ok tyF r)→∃l:List Fz,wkL els=rowF l
 | [],_=>⟨[],rfl⟩
 | r::els,h=>by
  obtain⟨l,hl⟩:=zmq els fun r hr=>h r (List.mem_cons_of_mem _ hr)
  obtain⟨x,hx⟩:=zpq (h r List.mem_cons_self)
  refine⟨x::l,?_⟩
  simp only[wkL,hx,hl]
  rfl
theorem zda{cs:List AV}(h:Ok (.sl tyF) cs):∃l:List Fz,wkR cs=[.sl (rowF l) .an]:=by
 obtain⟨els,f,rfl,_,_,he⟩:=h
 obtain⟨l,hl⟩:=zmq els he
 exact⟨l,by simp[wkR,wkA,hl]⟩
theorem z2y{x:AV}(h:OkArg (false,.sl tyF) x):∃l:List Fz,wkA x=.sl (rowF l) .an:=by
 obtain⟨l,hl⟩:=zda h
 exact⟨l,by simpa[wkR]using hl⟩
theorem zmr:∀(els:List (List AV)),(∀r∈els,Ok (.sl tyF) r)→∃m:List (List Fz),wkL els=matF m
 | [],_=>⟨[],rfl⟩
 | r::els,h=>by
  obtain⟨m,hm⟩:=zmr els fun r hr=>h r (List.mem_cons_of_mem _ hr)
  obtain⟨l,hl⟩:=zda (h r List.mem_cons_self)
  refine⟨l::m,?_⟩
  simp only[wkL,hl,hm]
  rfl
theorem z2z{x:AV}(h:OkArg (false,.int .i64) x):∃n:Int,x=.i .i64 n∧-9223372036854775808≤n∧n<9223372036854775808:=by
 obtain⟨n,hx,wf⟩:=h
 cases hx
 refine⟨n,rfl,?_⟩
 simp[Lit.wf,IntKind.min,IntKind.max,IntKind.signed,IntKind.bits]at wf
 omega
theorem zrh{P:Program}{ν:Nat→FuncId}{l l':List (Nat×AFx)}(hT:TOk P ν fun u=>l'.lookup u)(hp:Part l l')(hm:P.follows .mixedOrders=true){u:Nat}{af:AFx}{xs ys:List AV}{r:AV}
  (hu:l'.lookup u=some af) (hl:af.lent=none) (h:callF (fun u=>l.lookup u) u ys=some r) (hx:xs.map wkA=ys):PCall P (ν u) xs (·=r):=
 zx4 hT hm hu hl (hp.call (by rw[hu];rfl) h) hx
end Go.Ab
section
set_option linter.unusedVariables false
namespace Go.Proofs
open Go.Shelf Go.RowKit
variable{P:Program}{ρ:Ren}
structure JL (P:Program) (ρ:Ren):Prop extends Lays.n169 P ρ,Lays.n241 P ρ,Builder.Extra P ρ where
 f156:P.funcs[ρ.f 156]? = some (Body.n156 ρ)
 f165:P.funcs[ρ.f 165]? = some (Body.n165 ρ)
 f166:P.funcs[ρ.f 166]? = some (Body.n166 ρ)
 t4:P.underlying (ρ.t 4)=some (TypeDesc.bool)
 a4:∀w,(isAgg (ρ.t 4)).run P w=.ok false w
 z4:∀w,(Go.sizeOf (ρ.t 4)).run P w=.ok 1 w
 v4:∀w,(zeroValue (ρ.t 4)).run P w=.ok (Value.bool false) w
 t20:P.underlying (ρ.t 20)=some (TypeDesc.interface #[])
 a20:∀w,(isAgg (ρ.t 20)).run P w=.ok false w
 z20:∀w,(Go.sizeOf (ρ.t 20)).run P w=.ok 1 w
 v20:∀w,(zeroValue (ρ.t 20)).run P w=.ok (Value.nilIface) w
 t31:P.underlying (ρ.t 31)=some (TypeDesc.slice (ρ.t 9))
 a31:∀w,(isAgg (ρ.t 31)).run P w=.ok false w
 z31:∀w,(Go.sizeOf (ρ.t 31)).run P w=.ok 1 w
 v31:∀w,(zeroValue (ρ.t 31)).run P w=.ok (Value.slice none 0 0) w
 t75:P.underlying (ρ.t 75)=some (TypeDesc.interface #[("Error",ρ.t 80)])
 a75:∀w,(isAgg (ρ.t 75)).run P w=.ok false w
 z75:∀w,(Go.sizeOf (ρ.t 75)).run P w=.ok 1 w
 v75:∀w,(zeroValue (ρ.t 75)).run P w=.ok (Value.nilIface) w
 t76:P.underlying (ρ.t 76)=some (TypeDesc.tuple #[ρ.t 3,ρ.t 75])
 a76:∀w,(isAgg (ρ.t 76)).run P w=.ok false w
 z76:∀w,(Go.sizeOf (ρ.t 76)).run P w=.ok 1 w
 v76:∀w,(zeroValue (ρ.t 76)).run P w=.ok (Value.tuple #[Value.int IntKind.i64 0,Value.nilIface]) w
 t164:P.underlying (ρ.t 164)=some (TypeDesc.unsafePointer)
 a164:∀w,(isAgg (ρ.t 164)).run P w=.ok false w
 z164:∀w,(Go.sizeOf (ρ.t 164)).run P w=.ok 1 w
 v164:∀w,(zeroValue (ρ.t 164)).run P w=.ok (Value.pointer none) w
 e240:∀args w,(callFunc (ρ.f 240) args).run P w=.ok (.enter (ρ.f 240) args) w
 c240:∀(B b:Nat) (bs:List Value) (w:World),Lib.IsBuilder (ρ.t 72) (ρ.t 5) B b bs w →
  Calls P (ρ.f 240) #[.pointer (some ⟨b,0,none⟩)] w fun e w'=>e=.returned (.tuple #[])∧(Lib.BuilderAt (ρ.t 72) (ρ.t 5) B b (.pointer (some ⟨b,0,none⟩)) bs w'∧Below B w w')
 c240f:∀(b:Nat) (w:World),w.cell? ⟨b,0,none⟩=some (.pointer none)→w.shape? b=some ((ρ.t 72),2)→w.frozen? ⟨b,0,none⟩=false →
  Calls P (ρ.f 240) #[.pointer (some ⟨b,0,none⟩)] w fun e w'=>e=.returned (.tuple #[])∧w'=w.setCell ⟨b,0,none⟩ (.pointer (some ⟨b,0,none⟩))
theorem Jl.hid{p:Prop}(h:p):Hid p:=h
end Go.Proofs
end
section
namespace Go.Proofs
open Go.Shelf Go.RowKit Go.Ab
variable{P:Program}{ρ:Ren}
theorem one_arg{cargs:Array Value}(h:cargs.size=1):∃a,cargs=#[a]:=by
 obtain⟨l⟩:=cargs
 match l,h with
 | [a],_=>exact⟨a,rfl⟩
end Go.Proofs
end
section
namespace Go.Proofs.YtdmkoclfdmgllaaGreat
open Go Go.Ab Go.RowKit
def signS:ByteArray:=⟨#[43,45,42,47,94,40,41,91,93,44,59,61]⟩
theorem signS_lt:∀(p:Nat) (h:p<signS.size),(signS[p]'h).toNat<128:=by decide
theorem sign_at(c:Nat)(hc:c<256):signB.contains (UInt8.ofNat c)=decide (∃p,∃h:p<signS.size,(signS[p]'h).toNat=c):=by
 rw[Bool.eq_iff_iff,decide_eq_true_iff]
 have:∀c,c<256→(signB.contains (UInt8.ofNat c)=true↔∃p,∃h:p<signS.size,(signS[p]'h).toNat=c):=by decide +kernel
 exact this c hc
set_option maxHeartbeats 1000000 in
set_option maxRecDepth 100000 in
theorem sign_calls(c:Nat)(hc:c<256)(w:World):Calls Tryz.prog 209 #[.int .u8 (c:Int)] w fun e w'=>e=.returned (.bool (signB.contains (UInt8.ofNat c)))∧Below w.heap.size w w':=by
 rw[sign_at c hc]
 go_enter Tryz.func209,Tryz.ntmps209
 go_wp2
 go_loopw [] (fun wr=>∃pos:Nat,wr.heap[w.heap.size]? = some (.stringIter signS pos)∧Below w.heap.size w wr∧∀j,j<pos→∀h:j<signS.size,(signS[j]'h).toNat≠c) (fun wr=>signS.size-wr.iterPos w.heap.size)
 case atStart=>
  refine⟨0,World.iter_heap w signS 0,?_,fun j hj=>absurd hj (Nat.not_lt_zero _)⟩
  exact(Below.refl _ w).alloc (Nat.le_refl _) _
 case round=>
  obtain⟨pos,hit,hbw,hne⟩:=hrel
  by_cases hp:pos<signS.size
  ·have hnx:∀ty,(Instr.next (.pointer (some ⟨w.heap.size,0,none⟩)) true ty).run Tryz.prog wr=_:=fun ty=>Lib.run_next_ascii_at wr w.heap.size signS pos ty hit hp (signS_lt pos hp)
   have hit2:=Lib.iterAt_heap wr w.heap.size signS pos (pos+1) hit
   have hbw2:=Lib.below_iterAt hbw (k:=w.heap.size) (Nat.le_refl _) signS (pos+1)
   obtain⟨x,hx⟩:∃x:Nat,(signS[pos]'hp).toNat=x:=⟨_,rfl⟩
   have hx1:=signS_lt pos hp
   rw[hx]at hnx hx1
   have hwr:IntKind.u8.wrap (x:Int)=(x:Int):=by rw[IntKind.wrap_u8];omega
   by_cases hxc:x=c
   ·subst hxc
    go_wp2
    go_ret
    exact⟨by rw[decide_eq_true ⟨pos,hp,hx⟩];rfl,hbw2⟩
   ·have hxc':¬ (x:Int)=(c:Int):=by omega
    go_wp2
    go_roundw
    case rel=>
     refine⟨pos+1,hit2,hbw2,fun j hj h=>?_⟩
     rcases Nat.lt_or_ge j pos with h1 | h1
     ·exact hne j h1 h
     ·obtain rfl:j=pos:=by omega
      rw[hx]
      exact hxc
    case measure=>
     simp only[World.iterPos,hit2,hit]
     omega
  ·have hnx:∀ty,(Instr.next (.pointer (some ⟨w.heap.size,0,none⟩)) true ty).run Tryz.prog wr=_:=fun ty=>Lib.run_next_end_at wr w.heap.size signS pos ty hit hp
   go_wp2
   go_ret
   have hno:¬ ∃p,∃h:p<signS.size,(signS[p]'h).toNat=c:=by
    rintro⟨p,h,hpc⟩
    exact hne p (by omega) h hpc
   exact⟨by rw[decide_eq_false hno];rfl,hbw⟩
theorem sign_ok:∀xs r,prim187 xs=some r→PCall Tryz.prog (nu 187) xs (·=r):=by
 have e:nu 187=209:=by kernel_rfl
 rw[e]
 intro xs r h
 unfold prim187 at h
 split at h
 ·rename_i n
  split at h
  ·rename_i hn
   cases h
   refine⟨enters_of Tryz.func209 (by kernel_rfl) rfl,fun w S cargs hsz hC hS=>?_⟩
   obtain⟨v0,rfl⟩:=one_arg hsz
   have c0:v0=.int .u8 n:=by
    have:=hC 0 _ _ rfl rfl
    cases this
    rfl
   subst c0
   obtain⟨c,rfl⟩:∃c:Nat,n=c:=⟨n.toNat,by omega⟩
   refine(sign_calls c (by omega) w).mono ?_
   rintro e w' ⟨rfl,hb⟩
   refine⟨_,_,rfl,?_,hb,.b _⟩
   rw[Int.toNat_natCast]
   rfl
  ·cases h
 ·cases h
abbrev tyW:Ty:=.cons (.int .i64) (.cons .str (.cons (.int .i64) .nil))
end Go.Proofs.YtdmkoclfdmgllaaGreat
end
namespace Go.Ab
class CSpan (T:Tbl):Prop where
end Go.Ab
section
namespace Go.Ab
end Go.Ab
end
namespace Go.Ab
section
variable{T:Tbl}
theorem zi6(G:Nat):∀y:Nat×Nat,(y.1<18446744073709551616∧y.2<18446744073709551616∧Nat.gcd y.1 y.2=G) →
  loopN T 0 0 (.norm false [0]) l198_0 ⟨[(0,u64 y.1),(1,u64 y.2)],[],2⟩=some (.n,⟨[(0,u64 G)],[],2⟩):=by
 refine zcv (fun y:Nat×Nat=>⟨[(0,u64 y.1),(1,u64 y.2)],[],2⟩) _ (fun y=>y.2) _ ?_
 rintro⟨x,y⟩ ⟨hx,hy,hG⟩
 simp only at hx hy hG ⊢
 by_cases h:y=0
 ·right
  subst h
  rw[Nat.gcd_zero_right]at hG
  subst hG
  constructor<;>simp -implicitDefEqProofs[l198_0]
 ·left
  have hm:=Nat.mod_lt x (Nat.pos_of_ne_zero h)
  refine⟨(y,x%y),⟨hy,by simp only;omega,by simp only;rw[←hG,Nat.gcd_comm y,←Nat.gcd_rec,Nat.gcd_comm]⟩,hm,?_,trivial⟩
  simp -implicitDefEqProofs[l198_0,h]
end
section
variable{T:Tbl}[CCommon T]
theorem zms(x y:Nat)(hx:x<18446744073709551616)(hy:y<18446744073709551616):callF T 198 [u64 x,u64 y]=some (u64 (Nat.gcd x y)):=by
 have h:=zi6 (T:=T) (Nat.gcd x y) (x,y) ⟨hx,hy,rfl⟩
 simp only at h
 rw[f198 _ rfl,b198]
 simp -implicitDefEqProofs[h]
theorem zri(a:List UInt32):callF T 200 [.sl (u32s (ofN (val a))) .an]=some (.b (decide (val a=1))):=by
 rw[f200 _ rfl,b200]
 generalize val a=n
 by_cases h0:n=0
 ·subst h0
  simp -implicitDefEqProofs
 ·rw[ziu h0]
  by_cases h1:n/4294967296=0
  ·have e:ofN (n/4294967296)=[]:=zbf.2 h1
   have e2:n%4294967296=n:=Nat.mod_eq_of_lt (by omega)
   simp -implicitDefEqProofs[e,u32s,zd1,e2]
  ·have h2:¬ ofN (n/4294967296)=[]:=fun e=>h1 (zbf.1 e)
   have h3:¬ n=1:=by rintro rfl;simp at h1
   have h4:¬ ((ofN (n/4294967296)).length:Int)+1=1:=by
    have:=List.length_pos_iff.2 h2
    omega
   simp -implicitDefEqProofs[u32s,h3,h4]
end
section
variable{T:Tbl}[CNat T][CProd T][CTwos T][CQuot T][CQuotD T][CCommon T]
theorem zx9(G:Nat):∀y:List UInt32×List UInt32,(y.1.length≤90000∧y.2.length≤90000∧(∃n,y.1=ofN n)∧(∃n,y.2=ofN n)∧Nat.gcd (val y.1) (val y.2)=G) →
  ∃r,(∃a b:List UInt32,r=(Ex.n,(⟨[(0,.sl (u32s a) .an),(1,.sl (u32s b) .an)],[],2⟩:St))∧a.length≤90000∧b.length≤2∧(∃n,a=ofN n)∧(∃n,b=ofN n)∧Nat.gcd (val a) (val b)=G) ∧
   loopN T 0 0 (.norm false [0,1]) l199_0 ⟨[(0,.sl (u32s y.1) .an),(1,.sl (u32s y.2) .an)],[],2⟩=some r:=by
 refine za1 (fun y:List UInt32×List UInt32=>⟨[(0,.sl (u32s y.1) .an),(1,.sl (u32s y.2) .an)],[],2⟩) _ (fun y=>val y.2) _ ?_
 rintro⟨a,b⟩ ⟨ha,hb,hk,hn,hG⟩
 simp only at ha hb hk hn hG ⊢
 by_cases h:2<b.length
 ·left
  have h':(2:Int)<b.length:=by omega
  have hv:val b≠0:=by
   obtain⟨n,rfl⟩:=hn
   rw[zah]
   rintro rfl
   simp at h
  have hd:=zfv (T:=T) a b ha hb
  rw[if_neg hv]at hd
  have hm:=Nat.mod_lt (val a) (Nat.pos_of_ne_zero hv)
  refine⟨(b,ofN (val a%val b)),⟨hb,?_,hn,⟨_,rfl⟩,?_⟩,?_,?_⟩
  ·have:=zbr (Nat.le_of_lt hm)
   have:=zad b
   simp only;omega
  ·simp only
   rw[zah,←hG,Nat.gcd_comm (val b),←Nat.gcd_rec,Nat.gcd_comm]
  ·simp only[zah]
   exact hm
  ·clear hG hm hn hv hk
   simp -implicitDefEqProofs[l199_0,h',hd]
 ·right
  have h':¬ (2:Int)<b.length:=by omega
  refine⟨_,⟨a,b,rfl,ha,by omega,hk,hn,hG⟩,?_,?_⟩<;>clear hG<;>simp -implicitDefEqProofs[l199_0,h']
theorem zog(a b:List UInt32)(ha:a.length≤90000)(hb:b.length≤90000):callF T 199 [.sl (u32s a) .an,.sl (u32s b) .an]=some (.sl (u32s (ofN (Nat.gcd (val a) (val b)))) .an):=by
 have h1:=zbq (T:=T) a (by omega)
 have h2:=zbq (T:=T) b (by omega)
 have la:=zad a
 have lb:=zad b
 obtain⟨G,hG⟩:∃G,G=Nat.gcd (val a) (val b):=⟨_,rfl⟩
 obtain⟨_,⟨x,y,rfl,hx,hy,⟨m,rfl⟩,⟨n,rfl⟩,hg⟩,hr⟩:=zx9 (T:=T) G (ofN (val a),ofN (val b)) ⟨by simp only;omega,by simp only;omega,⟨_,rfl⟩,⟨_,rfl⟩,by simp only[zah];exact hG.symm⟩
 simp only at hr
 rw[zah,zah]at hg
 rw[f199 _ rfl,b199,←hG]
 clear hG
 by_cases h0:n=0
 ·subst h0
  rw[Nat.gcd_zero_right]at hg
  subst hg
  simp -implicitDefEqProofs[h1,h2,hr]
 ·have hv:val (ofN n)≠0:=by rw[zah];exact h0
  have hd:=zfv (T:=T) (ofN m) (ofN n) hx (by omega)
  rw[if_neg hv,zah,zah]at hd
  have hn64:n<18446744073709551616:=by
   have:=zbd (ofN n)
   rw[zah]at this
   exact Nat.lt_of_lt_of_le this (Nat.pow_le_pow_right (by decide) hy)
  have hm:=Nat.mod_lt m (Nat.pos_of_ne_zero h0)
  have s1:=zm3 (T:=T) (ofN n) (by omega)
  rw[zah,if_pos hn64]at s1
  have s2:=zm3 (T:=T) (ofN (m%n)) (by have:=zbr (Nat.le_of_lt hm);omega)
  rw[zah,if_pos (by omega)]at s2
  have s3:=zms (T:=T) n (m%n) hn64 (by omega)
  have e:Nat.gcd n (m%n)=G:=by rw[←hg,Nat.gcd_comm n,←Nat.gcd_rec,Nat.gcd_comm]
  rw[e]at s3
  have s4:=zih (T:=T) G (by
   rw[←hg]
   exact Nat.lt_of_le_of_lt (Nat.gcd_le_right _ (Nat.pos_of_ne_zero h0)) hn64)
  have hl:¬ ofN n=[]:=fun e=>h0 (zbf.1 e)
  simp -implicitDefEqProofs[h1,h2,hr,hd,s1,s2,s3,s4,hl,h0]
theorem zi7(a b:List UInt32)(ha:a.length≤90000)(hb:b.length≤90000):callF T 201 [.sl (u32s a) .an,.sl (u32s b) .an] =
  some (.tup [.sl (u32s (ofN (val a/Nat.gcd (val a) (val b)))) .an,.sl (u32s (ofN (val b/Nat.gcd (val a) (val b)))) .an]):=by
 have hg:=zog (T:=T) a b ha hb
 have ho:=zri (T:=T) (ofN (Nat.gcd (val a) (val b)))
 rw[zah]at ho
 have ll:(ofN (Nat.gcd (val a) (val b))).length≤90000:=by
  by_cases h:val a=0
  ·rw[h,Nat.gcd_zero_left]
   have:=zad b
   omega
  ·have:=zbr (Nat.gcd_le_left (val b) (Nat.pos_of_ne_zero h))
   have:=zad a
   omega
 have d1:=zfv (T:=T) a (ofN (Nat.gcd (val a) (val b))) ha ll
 have d2:=zfv (T:=T) b (ofN (Nat.gcd (val a) (val b))) hb ll
 have n1:=zbq (T:=T) a (by omega)
 have n2:=zbq (T:=T) b (by omega)
 rw[zah]at d1 d2
 rw[f201 _ rfl,b201]
 by_cases h0:Nat.gcd (val a) (val b)=0
 ·rw[h0]at hg ⊢
  simp only[zk7]at hg
  simp -implicitDefEqProofs[hg]
 ·rw[if_neg h0]at d1 d2
  have hl:¬ ofN (Nat.gcd (val a) (val b))=[]:=fun e=>h0 (zbf.1 e)
  by_cases h1:Nat.gcd (val a) (val b)=1
  ·rw[h1]at hg ho hl ⊢
   simp -implicitDefEqProofs[hg,ho,n1,n2,hl]
  ·generalize Nat.gcd (val a) (val b)=g at *
   simp -implicitDefEqProofs[hg,ho,d1,d2,hl,h0,h1]
end
section
variable{T:Tbl}[CWhole T]
theorem zbc(n:Bool)(k:Nat):callF T 55 [.b n,.sl (u32s (ofN k)) .an]=some (ez (sg n k)):=by
 rw[f55 _ rfl,b55,zz0]
 have h:(0<(ofN k).length)=(k≠0):=by
  rw[eq_iff_iff,List.length_pos_iff]
  exact not_congr zbf
 cases n<;>simp -implicitDefEqProofs[h]
end
section
variable{T:Tbl}[CNat T][CWhole T]
theorem zgi(n:Bool)(a:List UInt32)(ha:a.length≤1000000):callF T 38 [wh n a]=some (ez (wv n a)):=by
 have h:=zbq (T:=T) a (by omega)
 have hs:=zbc (T:=T) n (val a)
 rw[f38 _ rfl,b38]
 simp -implicitDefEqProofs[h,hs,wv]
end
section
variable{T:Tbl}[CNat T][CWhole T]
theorem zng(n:Bool)(a:List UInt32)(ha:a.length≤1000000):callF T 40 [wh n a]=some (ez (-wv n a)):=by
 have h:=zbq (T:=T) a (by omega)
 have hs:=zbc (T:=T) (!n) (val a)
 rw[z9q]at hs
 rw[f40 _ rfl,b40]
 simp -implicitDefEqProofs[h,hs,wv]
end
section
variable{T:Tbl}[CNat T][CWhole T]
theorem zj7(n m:Bool)(a b:List UInt32)(ha:a.length≤90000)(hb:b.length≤90000):callF T 23 [wh n a,wh m b]=some (ez (wv n a+wv m b)):=by
 rw[f23 _ rfl,b23]
 by_cases h:n=m
 ·subst h
  have hn:=zzb (T:=T) [a,b] (by simp) (by simp;omega)
  have hs:=zbc (T:=T) n (val a+val b)
  rw[zow]at hs
  have e:lls [a,b]=[[.sl (u32s a) .an],[.sl (u32s b) .an]]:=rfl
  have e2:sumL [a,b]=val a+val b:=by simp[sumL]
  rw[e,e2]at hn
  simp -implicitDefEqProofs[hn,hs,wv]
 ·have hg:=z3m (T:=T) a b (by omega) (by omega)
  by_cases hlt:val a<val b
  ·have hs:=zbc (T:=T) m (val b-val a)
   rw[zwt h hlt]at hs
   simp -implicitDefEqProofs[h,hg,hlt,zdy,hs,wv]
  ·have hs:=zbc (T:=T) n (val a-val b)
   rw[zwu h hlt]at hs
   simp -implicitDefEqProofs[h,hg,hlt,zdy,hs,wv]
end
section
variable{T:Tbl}[CNat T][CWhole T]
theorem zj8(n m:Bool)(a b:List UInt32)(ha:a.length≤90000)(hb:b.length≤90000):callF T 25 [wh n a,wh m b]=some (ez (wv n a-wv m b)):=by
 obtain⟨z,hz⟩:∃z,z=-wv m b:=⟨_,rfl⟩
 have h1:=zng (T:=T) m b (by omega)
 have hl:=zb5 m b
 rw[←ziv,←hz]at hl
 have h2:=zj7 (T:=T) n (decide (z<0)) a (ofN z.natAbs) (by omega) (by omega)
 have e:wv n a-wv m b=wv n a+z:=by omega
 rw[zi9,←e]at h2
 rw[←hz]at h1
 rw[f25 _ rfl,b25]
 simp -implicitDefEqProofs[h1,h2]
end
section
variable{T:Tbl}[CProd T][CWhole T]
theorem znh(n m:Bool)(a b:List UInt32)(ha:a.length≤100000)(hb:b.length≤100000):callF T 27 [wh n a,wh m b]=some (ez (wv n a*wv m b)):=by
 have h1:=zet (T:=T) a b ha hb
 have hs:=zbc (T:=T) (n != m) (val a*val b)
 rw[z00]at hs
 rw[f27 _ rfl,b27]
 simp -implicitDefEqProofs[h1,hs,wv]
end
section
variable{T:Tbl}[CNat T][CWhole T]
theorem zgj(n:Bool)(a:List UInt32)(ha:a.length≤1000000):callF T 37 [wh n a]=some (.i .i64 (sgI (wv n a))):=by
 have h1:=zpz (T:=T) a (by omega)
 rw[f37 _ rfl,b37]
 unfold wv
 rw[z01]
 by_cases h:val a=0
 ·simp -implicitDefEqProofs[h1,h]
 ·cases n<;>simp -implicitDefEqProofs[h1,h]
end
section
variable{T:Tbl}[CNat T][CWhole T]
theorem zsh(n m:Bool)(a b:List UInt32)(ha:a.length≤90000)(hb:b.length≤90000):callF T 36 [wh n a,wh m b]=some (.i .i64 (sgI (wv n a-wv m b))):=by
 have h1:=zj8 (T:=T) n m a b ha hb
 have hl:=zd3 (x:=wv n a) (y:=-wv m b) (L:=90000) (by have:=zb5 n a;omega) (by rw[ziv];have:=zb5 m b;omega)
 rw[←Int.sub_eq_add_neg]at hl
 have h2:=zgj (T:=T) (decide (wv n a-wv m b<0)) (ofN (wv n a-wv m b).natAbs) (show (ofN (wv n a-wv m b).natAbs).length≤1000000 by omega)
 rw[zi9]at h2
 rw[f36 _ rfl,b36]
 simp -implicitDefEqProofs[h1,h2]
end
section
variable{T:Tbl}[CNat T][CWhole T]
theorem zzy(k:Int)(h1:-9223372036854775808≤k)(h2:k<9223372036854775808):callF T 41 [.i .i64 k]=some (ez k):=by
 rw[f41 _ rfl,b41]
 by_cases h:k<0
 ·have hn:=zih (T:=T) k.natAbs (by omega)
  have hs:=zbc (T:=T) true k.natAbs
  have e:sg true k.natAbs=k:=by simp[sg];omega
  have e2:sub64 0 (k%18446744073709551616).toNat=k.natAbs:=by unfold sub64;omega
  rw[e]at hs
  simp -implicitDefEqProofs[h,e2,hn,hs]
 ·have hn:=zih (T:=T) k.natAbs (by omega)
  have hs:=zbc (T:=T) false k.natAbs
  have e:sg false k.natAbs=k:=by simp[sg];omega
  have e2:(k%18446744073709551616).toNat=k.natAbs:=by omega
  rw[e]at hs
  simp -implicitDefEqProofs[h,e2,hn,hs]
end
section
variable{T:Tbl}[CNat T][CProd T][CTwos T][CQuot T][CQuotD T][CWhole T][CCommon T][CFrac T]
theorem zoh(p q:Int)(hp:(ofN p.natAbs).length≤90000)(hq:(ofN q.natAbs).length≤90000):callF T 23 [ez p,ez q]=some (ez (p+q)):=by
 grind[zj7,zi9]
theorem zoi(p q:Int)(hp:(ofN p.natAbs).length≤90000)(hq:(ofN q.natAbs).length≤90000):callF T 25 [ez p,ez q]=some (ez (p-q)):=by
 grind[zj8,zi9]
theorem zoj(p q:Int)(hp:(ofN p.natAbs).length≤90000)(hq:(ofN q.natAbs).length≤90000):callF T 36 [ez p,ez q]=some (.i .i64 (sgI (p-q))):=by
 grind[zsh,zi9]
theorem zrj(p:Int)(hp:(ofN p.natAbs).length≤1000000):callF T 40 [ez p]=some (ez (-p)):=by
 grind[zng,zi9]
theorem zrk{x d:Nat}(h:d≠0):decide (x/Nat.gcd x d≠0)=decide (x≠0):=by
 obtain⟨k,hk⟩:=Nat.gcd_dvd_left x d
 grind[Nat.mul_div_cancel_left,Nat.mul_eq_zero]
theorem zco(n:Bool)(a d:List UInt32)(ha:a.length≤90000)(hd:d.length≤90000)(h:val d≠0) :
  callF T 202 [wh n a,.sl (u32s d) .an]=some (efz (fz (mkRat (wv n a) (val d)))):=by
 have e:=zaif n (val a) h
 change fz (mkRat (wv n a) (val d))=_ at e
 have hc:=zi7 (T:=T) a d ha hd
 have hl:(ofN (val a/Nat.gcd (val a) (val d))).length≤1000000:=by
  have:=zbr (Nat.div_le_self (val a) (Nat.gcd (val a) (val d)))
  have:=zad a
  omega
 have hn:=zgi (T:=T) n _ hl
 have e2:wv n (ofN (val a/Nat.gcd (val a) (val d)))=sg n (val a/Nat.gcd (val a) (val d)):=by unfold wv;rw[zah]
 rw[e2,zz0,zrk h]at hn
 rw[e,f202 _ rfl,b202]
 simp -implicitDefEqProofs[hc,hn]
theorem za2(x:Fz)(hx:fsz x≤100000):∃y:Fz,val y.2.2≠0∧fv y=fv x∧fsz y≤max 1 (fsz x)∧callF T 203 [efz x]=some (.tup [wh y.1 y.2.1,.sl (u32s y.2.2) .an]):=by
 obtain⟨n,a,d⟩:=x
 have h1:=zev (n,a,d)
 have h2:=ze9 (n,a,d)
 simp only at h1 h2
 have hz:=zpz (T:=T) d (by omega)
 by_cases h:val d=0
 ·refine⟨(false,[],[1]),by simp,?_,?_,?_⟩
  ·unfold fv
   simp only[h,Rat.mkRat_zero]
   rfl
  ·show 1≤_
   omega
  ·have ho:=zih (T:=T) 1 (by decide)
   rw[zfa]at ho
   rw[f203 _ rfl,b203]
   simp -implicitDefEqProofs[hz,h,ho]
 ·refine⟨(n,a,d),h,rfl,by omega,?_⟩
  rw[f203 _ rfl,b203]
  simp -implicitDefEqProofs[hz,h]
theorem zib(k:Int)(h1:-9223372036854775808≤k)(h2:k<9223372036854775808):callF T 205 [.i .i64 k]=some (efz (fz (k:Rat))):=by
 have hw:=zzy (T:=T) k h1 h2
 have ho:=zih (T:=T) 1 (by decide)
 have e:fz (k:Rat)=(decide (k<0),ofN k.natAbs,ofN 1):=rfl
 rw[e,f205 _ rfl,b205]
 simp -implicitDefEqProofs[hw,ho]
theorem zes:callF T 205 [.i .i64 0]=some (efz (fz 0)):=zib 0 (by decide) (by decide)
theorem zpt:callF T 205 [.i .i64 1]=some (efz (fz 1)):=zib 1 (by decide) (by decide)
theorem zju(x:Fz)(hx:fsz x≤90000):callF T 207 [efz x]=some (efz (fz (fv x))):=by
 obtain⟨⟨n,a,d⟩,h1,h2,h3,hp⟩:=za2 (T:=T) x (by omega)
 have la:=zev (n,a,d)
 have ld:=ze9 (n,a,d)
 simp only at la ld
 have hc:=zco (T:=T) n a d (by omega) (by omega) h1
 rw[←h2]
 change _=some (efz (fz (mkRat (wv n a) (val d))))
 rw[f207 _ rfl,b207]
 simp -implicitDefEqProofs[hp,hc]
theorem za9(x:Fz)(hx:fsz x≤10000):callF T 207 [efz x]=some (efz (fz (fv x))):=zju (T:=T) x (Nat.le_trans hx (by decide))
theorem zrl(x:Fz)(hx:fsz x≤90000):callF T 209 [efz x]=some (.i .i64 (sgQ (fv x))):=by
 obtain⟨⟨n,a,d⟩,h1,h2,h3,hp⟩:=za2 (T:=T) x (by omega)
 have la:=zev (n,a,d)
 simp only at la
 have hc:=zgj (T:=T) n a (by omega)
 rw[←h2]
 unfold fv
 rw[z08 h1,f209 _ rfl,b209]
 simp -implicitDefEqProofs[hp,hc]
theorem zfp(x:Fz)(hx:fsz x≤10000):callF T 209 [efz x]=some (.i .i64 (sgQ (fv x))):=zrl (T:=T) x (Nat.le_trans hx (by decide))
theorem zb0(n:Bool)(a d:List UInt32)(ha:a.length≤90000)(hd:d.length≤90000):callF T 210 [wh n a,.sl (u32s d) .an]=some (ez (wv n a*(val d:Int))):=by
 have hm:=znh (T:=T) n false a d (by omega) (by omega)
 rw[show wv false d=(val d:Int) from rfl]at hm
 rw[f210 _ rfl,b210]
 simp -implicitDefEqProofs[hm]
theorem zmt(x x':Fz)(hx:fsz x≤30000)(hx':fsz x'≤30000):callF T 211 [efz x,efz x']=some (.i .i64 (sgQ (fv x-fv x'))):=by
 obtain⟨⟨n,a,d⟩,h1,h2,h3,hp⟩:=za2 (T:=T) x (by omega)
 obtain⟨⟨m,b,e⟩,h1',h2',h3',hp'⟩:=za2 (T:=T) x' (by omega)
 have la:=zev (n,a,d)
 have ld:=ze9 (n,a,d)
 have lb:=zev (m,b,e)
 have le:=ze9 (m,b,e)
 simp only at la ld lb le
 have c1:=zb0 (T:=T) n a e (by omega) (by omega)
 have c2:=zb0 (T:=T) m b d (by omega) (by omega)
 have l1:(ofN (wv n a*(val e:Int)).natAbs).length≤60000:=by
  have:=zay (x:=wv n a) (y:=(val e:Int)) (L:=30000) (M:=30000) (Nat.le_trans (zb5 n a) (by omega)) (Nat.le_trans (zb5 false e) (by omega))
  omega
 have l2:(ofN (wv m b*(val d:Int)).natAbs).length≤60000:=by
  have:=zay (x:=wv m b) (y:=(val d:Int)) (L:=30000) (M:=30000) (Nat.le_trans (zb5 m b) (by omega)) (Nat.le_trans (zb5 false d) (by omega))
  omega
 have e1:sgQ (fv x-fv x')=sgI (wv n a*(val e:Int)-wv m b*(val d:Int)):=by
  rw[←h2,←h2',Rat.sub_eq_add_neg]
  unfold fv
  rw[Rat.neg_mkRat,Rat.mkRat_add_mkRat _ _ h1 h1',z08 (Nat.mul_ne_zero h1 h1'),Int.neg_mul]
  rfl
 generalize wv n a*(val e:Int)=z1 at *
 generalize wv m b*(val d:Int)=z2 at *
 have c3:=zoj (T:=T) z1 z2 (by omega) (by omega)
 rw[e1,f211 _ rfl,b211]
 simp -implicitDefEqProofs[hp,hp',c1,c2,c3]
theorem zya(x x':Fz)(hx:fsz x≤1000)(hx':fsz x'≤1000):callF T 211 [efz x,efz x']=some (.i .i64 (sgQ (fv x-fv x'))):=zmt (T:=T) x x' (Nat.le_trans hx (by decide)) (Nat.le_trans hx' (by decide))
theorem zrm(x x':Fz)(hx:fsz x≤30000)(hx':fsz x'≤30000):callF T 212 [efz x,efz x']=some (.b (decide (fv x=fv x'))):=by
 have hc:=zmt (T:=T) x x' hx hx'
 have e:(sgQ (fv x-fv x') == 0)=decide (fv x=fv x'):=by
  grind[zfx]
 rw[f212 _ rfl,b212]
 simp -implicitDefEqProofs[hc,e]
theorem zfq(x x':Fz)(hx:fsz x≤1000)(hx':fsz x'≤1000):callF T 212 [efz x,efz x']=some (.b (decide (fv x=fv x'))):=zrm (T:=T) x x' (Nat.le_trans hx (by decide)) (Nat.le_trans hx' (by decide))
theorem zup(x:Fz)(hx:fsz x≤90000):callF T 213 [efz x]=some (efz (fz (-fv x))):=by
 have h1:=zju (T:=T) x hx
 have hl:(ofN (fv x).num.natAbs).length≤1000000:=by
  have:=zba (x:=x) (L:=90000) hx (by decide)
  have:=ziw (fv x)
  omega
 have h2:callF T 40 [.agg [.b (decide ((fv x).num<0)),.sl (u32s (ofN (fv x).num.natAbs)) .an]]=some (.agg [.b (decide (-(fv x).num<0)),.sl (u32s (ofN (-(fv x).num).natAbs)) .an]):=zrj (T:=T) (fv x).num hl
 generalize fv x=q at *
 have e:fz (-q)=(decide (-q.num<0),ofN (-q.num).natAbs,ofN q.den):=rfl
 have e':fz q=(decide (q.num<0),ofN q.num.natAbs,ofN q.den):=rfl
 rw[e,f213 _ rfl,b213]
 rw[e']at h1
 simp -implicitDefEqProofs[h1,h2]
theorem zyb(x:Fz)(hx:fsz x≤10000):callF T 213 [efz x]=some (efz (fz (-fv x))):=zup (T:=T) x (Nat.le_trans hx (by decide))
theorem zuq(x x':Fz)(hx:fsz x≤30000)(hx':fsz x'≤30000):callF T 215 [efz x,efz x']=some (efz (fz (fv x+fv x'))):=by
 obtain⟨⟨n,a,d⟩,h1,h2,h3,hp⟩:=za2 (T:=T) x (by omega)
 obtain⟨⟨m,b,e⟩,h1',h2',h3',hp'⟩:=za2 (T:=T) x' (by omega)
 have la:=zev (n,a,d)
 have ld:=ze9 (n,a,d)
 have lb:=zev (m,b,e)
 have le:=ze9 (m,b,e)
 simp only at la ld lb le
 have c1:=zb0 (T:=T) n a e (by omega) (by omega)
 have c2:=zb0 (T:=T) m b d (by omega) (by omega)
 have c4:=zet (T:=T) d e (by omega) (by omega)
 have l1:(ofN (wv n a*(val e:Int)).natAbs).length≤60000:=by
  have:=zay (x:=wv n a) (y:=(val e:Int)) (L:=30000) (M:=30000) (Nat.le_trans (zb5 n a) (by omega)) (Nat.le_trans (zb5 false e) (by omega))
  omega
 have l2:(ofN (wv m b*(val d:Int)).natAbs).length≤60000:=by
  have:=zay (x:=wv m b) (y:=(val d:Int)) (L:=30000) (M:=30000) (Nat.le_trans (zb5 m b) (by omega)) (Nat.le_trans (zb5 false d) (by omega))
  omega
 have l3:(ofN (val d*val e)).length≤60000:=by
  have:=zb3 (x:=val d) (y:=val e) (L:=30000) (M:=30000) (Nat.le_trans (zad d) (by omega)) (Nat.le_trans (zad e) (by omega))
  omega
 have e1:fv x+fv x'=mkRat (wv n a*(val e:Int)+wv m b*(val d:Int)) (val d*val e):=by
  rw[←h2,←h2']
  exact Rat.mkRat_add_mkRat _ _ h1 h1'
 have hne:=Nat.mul_ne_zero h1 h1'
 generalize wv n a*(val e:Int)=z1 at *
 generalize wv m b*(val d:Int)=z2 at *
 generalize val d*val e=D at *
 have c3:=zoh (T:=T) z1 z2 (by omega) (by omega)
 have c5:=zco (T:=T) (decide (z1+z2<0)) (ofN (z1+z2).natAbs) (ofN D) (by have:=zd3 l1 l2;omega) (by omega) (by rw[zah];omega)
 rw[zi9,zah,←e1]at c5
 rw[f215 _ rfl,b215]
 simp -implicitDefEqProofs[hp,hp',c1,c2,c3,c4,c5]
theorem zdw(x x':Fz)(hx:fsz x≤1000)(hx':fsz x'≤1000):callF T 215 [efz x,efz x']=some (efz (fz (fv x+fv x'))):=zuq (T:=T) x x' (Nat.le_trans hx (by decide)) (Nat.le_trans hx' (by decide))
theorem zur(x x':Fz)(hx:fsz x≤30000)(hx':fsz x'≤30000):callF T 216 [efz x,efz x']=some (efz (fz (fv x-fv x'))):=by
 obtain⟨⟨n,a,d⟩,h1,h2,h3,hp⟩:=za2 (T:=T) x (by omega)
 obtain⟨⟨m,b,e⟩,h1',h2',h3',hp'⟩:=za2 (T:=T) x' (by omega)
 have la:=zev (n,a,d)
 have ld:=ze9 (n,a,d)
 have lb:=zev (m,b,e)
 have le:=ze9 (m,b,e)
 simp only at la ld lb le
 have c1:=zb0 (T:=T) n a e (by omega) (by omega)
 have c2:=zb0 (T:=T) m b d (by omega) (by omega)
 have c4:=zet (T:=T) d e (by omega) (by omega)
 have l1:(ofN (wv n a*(val e:Int)).natAbs).length≤60000:=by
  have:=zay (x:=wv n a) (y:=(val e:Int)) (L:=30000) (M:=30000) (Nat.le_trans (zb5 n a) (by omega)) (Nat.le_trans (zb5 false e) (by omega))
  omega
 have l2:(ofN (wv m b*(val d:Int)).natAbs).length≤60000:=by
  have:=zay (x:=wv m b) (y:=(val d:Int)) (L:=30000) (M:=30000) (Nat.le_trans (zb5 m b) (by omega)) (Nat.le_trans (zb5 false d) (by omega))
  omega
 have l3:(ofN (val d*val e)).length≤60000:=by
  have:=zb3 (x:=val d) (y:=val e) (L:=30000) (M:=30000) (Nat.le_trans (zad d) (by omega)) (Nat.le_trans (zad e) (by omega))
  omega
 have e1:fv x-fv x'=mkRat (wv n a*(val e:Int)-wv m b*(val d:Int)) (val d*val e):=by
  rw[←h2,←h2',Rat.sub_eq_add_neg]
  unfold fv
  rw[Rat.neg_mkRat,Rat.mkRat_add_mkRat _ _ h1 h1',Int.neg_mul]
  rfl
 have hne:=Nat.mul_ne_zero h1 h1'
 generalize wv n a*(val e:Int)=z1 at *
 generalize wv m b*(val d:Int)=z2 at *
 generalize val d*val e=D at *
 have c3:=zoi (T:=T) z1 z2 (by omega) (by omega)
 have c5:=zco (T:=T) (decide (z1-z2<0)) (ofN (z1-z2).natAbs) (ofN D) (by
  have:=zd3 (x:=z1) (y:=-z2) (L:=60000) l1 (by grind)
  grind) (by omega) (by rw[zah];omega)
 rw[zi9,zah,←e1]at c5
 rw[f216 _ rfl,b216]
 simp -implicitDefEqProofs[hp,hp',c1,c2,c3,c4,c5]
theorem zyc(x x':Fz)(hx:fsz x≤1000)(hx':fsz x'≤1000):callF T 216 [efz x,efz x']=some (efz (fz (fv x-fv x'))):=zur (T:=T) x x' (Nat.le_trans hx (by decide)) (Nat.le_trans hx' (by decide))
theorem zus(x x':Fz)(hx:fsz x≤30000)(hx':fsz x'≤30000):callF T 217 [efz x,efz x']=some (efz (fz (fv x*fv x'))):=by
 obtain⟨⟨n,a,d⟩,h1,h2,h3,hp⟩:=za2 (T:=T) x (by omega)
 obtain⟨⟨m,b,e⟩,h1',h2',h3',hp'⟩:=za2 (T:=T) x' (by omega)
 have la:=zev (n,a,d)
 have ld:=ze9 (n,a,d)
 have lb:=zev (m,b,e)
 have le:=ze9 (m,b,e)
 simp only at la ld lb le
 have c3:=znh (T:=T) n m a b (by omega) (by omega)
 have c4:=zet (T:=T) d e (by omega) (by omega)
 have l1:(ofN (wv n a*wv m b).natAbs).length≤60000:=by
  have:=zay (x:=wv n a) (y:=wv m b) (L:=30000) (M:=30000) (Nat.le_trans (zb5 n a) (by omega)) (Nat.le_trans (zb5 m b) (by omega))
  omega
 have l3:(ofN (val d*val e)).length≤60000:=by
  have:=zb3 (x:=val d) (y:=val e) (L:=30000) (M:=30000) (Nat.le_trans (zad d) (by omega)) (Nat.le_trans (zad e) (by omega))
  omega
 have e1:fv x*fv x'=mkRat (wv n a*wv m b) (val d*val e):=by
  rw[←h2,←h2']
  exact Rat.mkRat_mul_mkRat _ _ _ _
 have hne:=Nat.mul_ne_zero h1 h1'
 generalize wv n a*wv m b=z at *
 generalize val d*val e=D at *
 have c5:=zco (T:=T) (decide (z<0)) (ofN z.natAbs) (ofN D) (by omega) (by omega) (by rw[zah];omega)
 rw[zi9,zah,←e1]at c5
 rw[f217 _ rfl,b217]
 simp -implicitDefEqProofs[hp,hp',c3,c4,c5]
theorem zgy(x x':Fz)(hx:fsz x≤1000)(hx':fsz x'≤1000):callF T 217 [efz x,efz x']=some (efz (fz (fv x*fv x'))):=zus (T:=T) x x' (Nat.le_trans hx (by decide)) (Nat.le_trans hx' (by decide))
theorem z21{n m:Bool}{x y:Nat}{d e:Nat}(hy:y≠0) :
  mkRat (sg n x) d/mkRat (sg m y) e=mkRat (sg (decide (sg n x*(e:Int)<0) != m) (sg n x*(e:Int)).natAbs) (d*y):=by
 have h1:sg (decide (sg n x*(e:Int)<0) != m) (sg n x*(e:Int)).natAbs=sg n x*(e:Int)*sg m 1:=by
  grind[sg]
 rw[h1,Rat.div_def,←Rat.divInt_ofNat,←Rat.divInt_ofNat,←Rat.divInt_ofNat,Rat.inv_divInt,Rat.divInt_mul_divInt]
 cases m
 ·grind[sg]
 ·simp only[sg,if_true,Int.natCast_one,Int.mul_neg,Int.mul_one,Int.natCast_mul]
  rw[←Rat.neg_divInt_neg,Int.neg_neg]
theorem zut(x x':Fz)(hx:fsz x≤30000)(hx':fsz x'≤30000):callF T 218 [efz x,efz x']=some (.tup [efz (fz (fv x/fv x')),.b (decide (fv x'≠0))]):=by
 obtain⟨⟨n,a,d⟩,h1,h2,h3,hp⟩:=za2 (T:=T) x (by omega)
 obtain⟨⟨m,b,e⟩,h1',h2',h3',hp'⟩:=za2 (T:=T) x' (by omega)
 have la:=zev (n,a,d)
 have ld:=ze9 (n,a,d)
 have lb:=zev (m,b,e)
 have le:=ze9 (m,b,e)
 simp only at la ld lb le
 have cs:=zgj (T:=T) m b (by omega)
 rw[show wv m b=sg m (val b) from rfl,z01]at cs
 by_cases hb:val b=0
 ·have e0:fv x'=0:=by
   rw[←h2']
   unfold fv
   rw[Rat.mkRat_eq_zero h1']
   show sg m (val b)=0
   rw[hb];cases m<;>rfl
  have ho:=zes (T:=T)
  rw[if_pos hb]at cs
  rw[e0,Rat.div_def,Rat.inv_zero,Rat.mul_zero,f218 _ rfl,b218]
  clear h1 h2 h3 h1' h2' h3' e0
  generalize fz 0=R at *
  simp -implicitDefEqProofs[hp,hp',cs,ho]
 ·rw[if_neg hb]at cs
  have c1:=zb0 (T:=T) n a e (by omega) (by omega)
  have c4:=zet (T:=T) d b (by omega) (by omega)
  have l1:(ofN (wv n a*(val e:Int)).natAbs).length≤60000:=by
   have:=zay (x:=wv n a) (y:=(val e:Int)) (L:=30000) (M:=30000) (Nat.le_trans (zb5 n a) (by omega)) (Nat.le_trans (zb5 false e) (by omega))
   omega
  have l3:(ofN (val d*val b)).length≤60000:=by
   have:=zb3 (x:=val d) (y:=val b) (L:=30000) (M:=30000) (Nat.le_trans (zad d) (by omega)) (Nat.le_trans (zad b) (by omega))
   omega
  have hne0:fv x'≠0:=by
   rw[←h2']
   unfold fv
   rw[Ne,Rat.mkRat_eq_zero h1']
   show ¬ sg m (val b)=0
   cases m<;>simp[sg,hb]
  have e1:fv x/fv x'=mkRat (sg (decide (wv n a*(val e:Int)<0) != m) (wv n a*(val e:Int)).natAbs) (val d*val b):=by
   rw[←h2,←h2']
   exact z21 hb
  have hne:=Nat.mul_ne_zero h1 hb
  generalize wv n a*(val e:Int)=z at *
  generalize val d*val b=D at *
  have c5:=zco (T:=T) (decide (z<0) != m) (ofN z.natAbs) (ofN D) (by omega) (by omega) (by rw[zah];omega)
  rw[show wv (decide (z<0) != m) (ofN z.natAbs)=sg (decide (z<0) != m) z.natAbs by unfold wv;rw[zah],zah,←e1]at c5
  have hdec:decide (fv x'≠0)=true:=by grind
  have hs:((if m=true then (-1:Int) else 1) == 0)=false:=by grind
  rw[hdec]
  rw[f218 _ rfl,b218]
  simp -implicitDefEqProofs[hp,hp',cs,c1,c4,c5,hs]
theorem zyd(x x':Fz)(hx:fsz x≤1000)(hx':fsz x'≤1000):callF T 218 [efz x,efz x']=some (.tup [efz (fz (fv x/fv x')),.b (decide (fv x'≠0))]):=zut (T:=T) x x' (Nat.le_trans hx (by decide)) (Nat.le_trans hx' (by decide))
end
def nrm(l:List Fz):List Fz:=l.map fun x=>fz (fv x)
def fzs(l:List Rat):List Fz:=l.map fz
theorem zcc{m:List Fz}{n:Nat}(h:m.length=n)(x:Fz):wkL (rowF (List.take n m)++[celF x])=rowF (m++[x]):=by
 rw[List.take_of_length_le (by omega),zi0,zla]
theorem zd0{α β:Type}(l:List α)(f:α→β){i:Nat}(h:i<l.length):(l.take (i+1)).map f=(l.take i).map f++[f (l[i]'h)]:=by
 grind[List.take_succ_eq_append_getElem]
@[simp] theorem z9e:rowsT []=[]:=rfl
def textQ(q:Rat):List UInt8:=if q.den=1 then textZ q.num else textZ q.num++47::textN q.den
section
variable{T:Tbl}[CNat T][CProd T][CTwos T][CQuot T][CQuotD T][CText T][CWhole T][CCommon T][CFrac T][CJoin T][CRow T]
def stZe(n i:Nat):St:=⟨[(3,.bs (.loc 9) 1 3 0 n),(10,.i .i64 n),(11,.i .i64 i)],[(.loc 9,⟨1,.own,3,rowF (List.replicate i (fz 0))++List.replicate (n-i) [.b false,.sl [] .an,.sl [] .an]⟩)],3⟩
theorem zvt(n:Nat)(hn:n≤300):loopN T 0 0 (.norm false [3]) l263_0 (stZe n 0)=some (.n,⟨[(3,.bs (.loc 9) 1 3 0 n)],[(.loc 9,⟨1,.own,3,rowF (List.replicate n (fz 0))⟩)],3⟩):=by
 refine zak (stZe n) n _ (fun i hi=>?_) ?_
 ·have h0:=zes (T:=T)
  have hw:=za5 hi (by omega)
  have e:(rowF (List.replicate i (fz 0))++List.replicate (n-i) [AV.b false,.sl [] .an,.sl [] .an]).set i (celF (fz 0))=rowF (List.replicate (i+1) (fz 0))++List.replicate (n-(i+1)) [AV.b false,.sl [] .an,.sl [] .an]:=by
   rw[List.set_append_right _ _ (by simp),ziz,List.length_replicate,Nat.sub_self,show n-i=(n-(i+1))+1 by omega,List.replicate_succ (n:=n-(i+1)),List.set_cons_zero,List.replicate_succ' (n:=i),←zi0,List.append_assoc]
   rfl
  have hl:(rowF (List.replicate i (fz 0))++List.replicate (n-i) [AV.b false,.sl [] .an,.sl [] .an]).length=n:=by simp;omega
  have hk:wkL ((rowF (List.replicate i (fz 0))++List.replicate (n-i) [AV.b false,.sl [] .an,.sl [] .an]).set i (celF (fz 0)))=(rowF (List.replicate i (fz 0))++List.replicate (n-i) [AV.b false,.sl [] .an,.sl [] .an]).set i (celF (fz 0)):=by
   rw[e,zbs,List.map_append,←zbs,zla]
   simp_all
  have hg:(rowF (List.replicate i (fz 0))++List.replicate (n-i) [AV.b false,.sl [] .an,.sl [] .an])[i]? = some [AV.b false,.sl [] .an,.sl [] .an]:=by
   grind
  unfold stZe
  rw[←e]
  generalize rowF (List.replicate i (fz 0))++List.replicate (n-i) [AV.b false,.sl [] .an,.sl [] .an]=B at *
  obtain⟨hb,hgE⟩:=List.getElem?_eq_some_iff.1 hg
  simp -implicitDefEqProofs[l263_0,hi,hw,h0,hl,hk,hgE]
 ·have e:rowF (List.replicate n (fz 0))++List.replicate (n-n) [AV.b false,.sl [] .an,.sl [] .an]=rowF (List.replicate n (fz 0)):=by simp
  unfold stZe
  constructor<;>simp -implicitDefEqProofs[l263_0]
theorem zm9(n:Nat)(hn:n≤300):callH T 2263 [.i .i64 n] []=some (.bs (.loc 9) 1 3 0 n,[(.loc 9,⟨1,.own,3,rowF (List.replicate n (fz 0))⟩)]):=by
 have h:=zvt (T:=T) n hn
 rw[show l263_0=l2263_0 from rfl]at h
 unfold stZe at h
 simp only[List.replicate_zero,zd4,List.nil_append,Nat.sub_zero,Int.natCast_zero]at h
 have m1:¬ (n:Int)<0:=by omega
 have m2:¬ (300:Int)<n:=by omega
 have m3:(n:Int)≤4294967296:=by omega
 have hz:wkL (List.replicate n [AV.b false,.sl [] .nl,.sl [] .nl])=List.replicate n [AV.b false,.sl [] .an,.sl [] .an]:=by rw[zbs,List.map_replicate];simp_all
 rw[f2263 _ _ rfl,b2263]
 simp -implicitDefEqProofs[m1,m2,m3,h,mm2,hz]
def stNm(l:List Fz)(i:Nat):St:=⟨[(3,.bs (.loc 3) 1 3 0 i),(6,.sl (rowF l) .an),(7,.i .i64 l.length),(8,.i .i64 i)],[(.loc 3,⟨1,.own,3,rowF (nrm (l.take i))⟩)],3⟩
theorem zvu(l:List Fz)(hl:l.length≤1000)(hw:∀x∈l,fsz x≤1000) :
  loopN T 0 0 (.norm false [3]) l266_0 (stNm l 0)=some (.n,⟨[(3,.bs (.loc 3) 1 3 0 l.length)],[(.loc 3,⟨1,.own,3,rowF (nrm l)⟩)],3⟩):=by
 refine zak (stNm l) l.length _ (fun i hi=>?_) ?_
 ·have hws:=za5 hi (by omega)
  have hn:=za9 (T:=T) (l[i]'hi) (Nat.le_trans (hw _ (List.getElem_mem hi)) (by decide))
  have e:nrm (l.take (i+1))=nrm (l.take i)++[fz (fv (l[i]'hi))]:=zd0 l _ hi
  have hp:=zcc (m:=nrm (l.take i)) (n:=i) (by simp[nrm];omega) (fz (fv (l[i]'hi)))
  have hml:(nrm (l.take i)).length=i:=by simp[nrm];omega
  unfold stNm
  rw[e]
  have hb:i≤4294967295:=by omega
  simp -implicitDefEqProofs[l266_0,hi,hws,hn,hp,hml,hb]
 ·unfold stNm
  rw[List.take_of_length_le (Nat.le_refl _)]
  constructor<;>simp -implicitDefEqProofs[l266_0]
theorem zna(l:List Fz)(hl:l.length≤1000)(hw:∀x∈l,fsz x≤1000):callH T 2266 [.sl (rowF l) .an] []=some (.bs (.loc 3) 1 3 0 l.length,[(.loc 3,⟨1,.own,3,rowF (nrm l)⟩)]):=by
 have h:=zvu (T:=T) l hl hw
 rw[show l266_0=l2266_0 from rfl]at h
 unfold stNm at h
 simp[nrm]at h
 rw[f2266 _ _ rfl,b2266]
 simp -implicitDefEqProofs[h,nrm]
def scl(c:Rat)(l:List Fz):List Fz:=l.map fun x=>fz (c*fv x)
def stSl(c:Fz)(l:List Fz)(i:Nat):St:=⟨[(2,.ptr (.loc 2) 1 3 0 0),(5,.bs (.loc 5) 2 3 0 i),(8,.sl (rowF l) .an),(9,.i .i64 l.length),(10,.i .i64 i)],[(.loc 2,⟨1,.str,3,[celF c]⟩),(.loc 5,⟨2,.own,3,rowF (scl (fv c) (l.take i))⟩)],4⟩
theorem zr8(c:Fz)(hc:fsz c≤1000)(l:List Fz)(hl:l.length≤1000)(hw:∀x∈l,fsz x≤1000) :
  loopN T 0 0 (.norm false [5]) l269_0 (stSl c l 0)=some (.n,⟨[(5,.bs (.loc 5) 1 3 0 l.length)],[(.loc 5,⟨1,.own,3,rowF (scl (fv c) l)⟩)],3⟩):=by
 refine zak (stSl c l) l.length _ (fun i hi=>?_) ?_
 ·have hws:=za5 hi (by omega)
  have hn:=zgy (T:=T) c (l[i]'hi) hc (hw _ (List.getElem_mem hi))
  have e:scl (fv c) (l.take (i+1))=scl (fv c) (l.take i)++[fz (fv c*fv (l[i]'hi))]:=zd0 l _ hi
  have hml:(scl (fv c) (l.take i)).length=i:=by simp[scl];omega
  have hp:=zcc hml (fz (fv c*fv (l[i]'hi)))
  unfold stSl
  rw[e]
  have hb:i≤4294967295:=by omega
  simp -implicitDefEqProofs[l269_0,hi,hws,hn,hp,hml,hb]
 ·unfold stSl
  rw[List.take_of_length_le (Nat.le_refl _)]
  constructor<;>simp -implicitDefEqProofs[l269_0]
theorem zef(c:Fz)(hc:fsz c≤1000)(l:List Fz)(hl:l.length≤1000)(hw:∀x∈l,fsz x≤1000):callF T 269 [efz c,.sl (rowF l) .an]=some (.sl (rowF (scl (fv c) l)) .an):=by
 have h:=zr8 (T:=T) c hc l hl hw
 unfold stSl at h
 have e:scl (fv c) (l.take 0)=[]:=rfl
 rw[e]at h
 simp at h
 have ht:List.take l.length (scl (fv c) l)=scl (fv c) l:=List.take_of_length_le (by simp[scl])
 have hl2:(scl (fv c) l).length=l.length:=by simp[scl]
 rw[f269 _ rfl,b269]
 simp -implicitDefEqProofs[h,ht,hl2]
def dotQ:List Fz→List Fz→Rat
 | x::a,y::b=>fv x*fv y+dotQ a b
 | _,_=>0
def dotK(a b:List Fz)(i:Nat):Rat:=dotQ (a.take i) (b.take i)
theorem znb:∀(a b:List Fz) (x y:Fz),a.length=b.length→dotQ (a++[x]) (b++[y])=dotQ a b+fv x*fv y
 | [],[],x,y,_=>by simp[dotQ,Rat.add_zero,Rat.zero_add]
 | u::a,v::b,x,y,h=>by
  have ih:=znb a b x y (by simpa using h)
  simp only[List.cons_append,dotQ,ih,Rat.add_assoc]
theorem z9f{a b:List Fz}(hab:a.length=b.length){i:Nat}(hi:i<a.length):dotK a b (i+1)=dotK a b i+fv (a[i]'hi)*fv (b[i]'(by omega)):=by
 grind[dotK,List.take_succ_eq_append_getElem,znb]
abbrev nocell:List AV:=[.b false,.sl [] .an,.sl [] .an]
def stDt(a b:List Fz)(i:Nat):St:=⟨[(1,.sl (rowF b) .an),(4,.ptr (.loc 4) 1 3 0 0),(6,.ptr (.loc 6) 2 3 0 0),(16,.sl (rowF a) .an),(17,.i .i64 a.length),(18,.i .i64 i)],
 [(.loc 4,⟨1,.str,3,[nocell]⟩),(.loc 6,⟨2,.str,3,[celF (fz (dotK a b i))]⟩)],4⟩
def stSm(a b:List Fz)(i:Nat):St:=⟨[(0,.sl (rowF a) .an),(1,.sl (rowF b) .an),(12,.i .i64 a.length),(13,.i .i64 i)],[],2⟩
theorem zvv(a b:List Fz)(hab:a.length=b.length)(hl:a.length≤1000)(ha:∀x∈a,fsz x≤1000)(hb:∀x∈b,fsz x≤1000) :
  loopN T 0 0 (.norm false []) l265_0 (stSm a b 0)=if (a.drop 0).map fv=(b.drop 0).map fv then some (.n,⟨[],[],2⟩) else some (.r,⟨[(4,.b false)],[],2⟩):=by
 refine zax (stSm a b) a.length (fun i=>if (a.drop i).map fv=(b.drop i).map fv then some (.n,⟨[],[],2⟩) else some (.r,⟨[(4,.b false)],[],2⟩)) (fun i hi=>?_) ?_
 ·have hib:i<b.length:=by omega
  have hws:=za5 hi (by omega)
  have c:=zfq (T:=T) (a[i]'hi) (b[i]'hib) (ha _ (List.getElem_mem hi)) (hb _ (List.getElem_mem hib))
  have hib':(i:Int)<b.length:=by omega
  have key:((a.drop i).map fv=(b.drop i).map fv)↔(fv (a[i]'hi)=fv (b[i]'hib)∧(a.drop (i+1)).map fv=(b.drop (i+1)).map fv):=by
   grind[List.drop_eq_getElem_cons]
  by_cases he:fv (a[i]'hi)=fv (b[i]'hib)
  ·left
   refine⟨?_,by grind⟩
   unfold stSm
   simp -implicitDefEqProofs[l265_0,hi,hws,c,he,hib,hib']
  ·right
   rw[if_neg (fun h=>he (key.1 h).1)]
   unfold stSm
   constructor<;>simp -implicitDefEqProofs[l265_0,hi,c,he,hib,hib']
 ·rw[List.drop_length,if_pos (by rw[hab,List.drop_length])]
  unfold stSm
  constructor<;>simp -implicitDefEqProofs[l265_0]
theorem zzk(a b:List Fz)(hl:a.length≤1000)(ha:∀x∈a,fsz x≤1000)(hb:∀x∈b,fsz x≤1000) :
  callF T 265 [.sl (rowF a) .an,.sl (rowF b) .an]=some (.b (decide (a.map fv=b.map fv))):=by
 rw[f265 _ rfl,b265]
 by_cases hab:a.length=b.length
 ·have h:=zvv (T:=T) a b hab hl ha hb
  unfold stSm at h
  simp at h
  have hab':(b.length:Int)=a.length:=by omega
  by_cases he:a.map fv=b.map fv
  ·simp -implicitDefEqProofs[hab',h,he]
  ·simp -implicitDefEqProofs[hab',h,he]
 ·have he:¬ a.map fv=b.map fv:=fun h=>hab (by simpa using congrArg List.length h)
  have hab':¬ (a.length:Int)=b.length:=by omega
  simp -implicitDefEqProofs[hab',he]
def txts(l:List Fz):List (List UInt8):=l.map fun x=>textQ (fv x)
def stTt(l:List Fz)(i:Nat):St:=⟨[(3,.bs (.loc 3) 1 1 0 i),(6,.sl (rowF l) .an),(7,.i .i64 l.length),(8,.i .i64 i)],[(.loc 3,⟨1,.own,1,rowsT (txts (l.take i))⟩)],3⟩
end
theorem zp2{α:Type}{L acc:List α}(hl:L.length=acc.length){i:Nat}(h:i<L.length) :
  (L.take i++acc.drop i).set i (L[i]'h)=L.take (i+1)++acc.drop (i+1):=by
 rw[List.set_append_right _ _ (by simp;omega),List.length_take,Nat.min_eq_left (by omega),Nat.sub_self,List.drop_eq_getElem_cons (show i<acc.length by omega),List.set_cons_zero,List.take_succ_eq_append_getElem h,List.append_assoc]
 rfl
theorem zvw{α:Type}{L acc:List α}(hl:L.length=acc.length){i:Nat}(h:i<L.length):(L.take i++acc.drop i)[i]? = some (acc[i]'(by omega)):=by
 rw[List.getElem?_append_right (by simp;omega),List.length_take,Nat.min_eq_left (by omega),Nat.sub_self,List.getElem?_drop,Nat.add_zero,List.getElem?_eq_getElem]
theorem zgg{l:List Rat}{i:Nat}{q:Rat}(h:l[i]? = some q):(fzs l)[i]? = some (fz q):=by
 unfold fzs
 rw[List.getElem?_map,h]
 rfl
theorem zvx(l:List Rat)(i:Nat)(q:Rat):(fzs l).set i (fz q)=fzs (l.set i q):=by
 unfold fzs
 rw[List.map_set]
@[simp] theorem zaj(l:List Rat):(fzs l).length=l.length:=by simp[fzs]
theorem zop(l:List Fz):nrm l=fzs (l.map fv):=by unfold nrm fzs;rw[List.map_map];rfl
theorem z3t(c:Rat)(l:List Fz):scl c l=fzs (l.map fun x=>c*fv x):=by unfold scl fzs;rw[List.map_map];rfl
@[simp] theorem zgp(l:List Rat):(fzs l).map fv=l:=by unfold fzs;rw[List.map_map];simp[Function.comp_def]
def mixP(c:Rat)(acc:List Rat)(r:List Fz):List Rat:=List.zipWith (fun q x=>q+c*fv x) acc r
def addP(acc:List Rat)(r:List Fz):List Rat:=List.zipWith (fun q x=>q+fv x) acc r
theorem ze8{acc:List Rat}{r:List Fz}(h:r.length=acc.length):(addP acc r).length=acc.length:=by simp[addP,h]
theorem zim{c:Rat}{acc:List Rat}{r:List Fz}(h:r.length=acc.length):(mixP c acc r).length=acc.length:=by simp[mixP,h]
theorem zvy{acc:List Rat}{r:List Fz}(h:r.length=acc.length):mixP 0 acc r=acc:=by
 unfold mixP
 induction acc generalizing r with
 | nil=>simp
 | cons q acc ih=>
  cases r with
  | nil=>simp at h
  | cons x r=>simp[Rat.zero_mul,Rat.add_zero];simpa[Rat.zero_mul,Rat.add_zero]using ih (by simpa using h)
theorem zvz{acc:List Rat}{r:List Fz}{S B:Nat}(ha:∀q∈acc,sz q≤S)(hr:∀x∈r,fsz x≤B)(hB:1≤B):∀q∈addP acc r,sz q≤S+(B+1):=by
 intro q hq
 obtain⟨i,hi,rfl⟩:=List.getElem_of_mem hq
 simp only[addP,List.length_zipWith]at hi
 simp only[addP,List.getElem_zipWith]
 have h1:=ha _ (List.getElem_mem (show i<acc.length by omega))
 have h2:=zba (hr _ (List.getElem_mem (show i<r.length by omega))) hB
 have h3:=zei (acc[i]'(by omega)) (fv (r[i]'(by omega)))
 omega
theorem z3u{c:Rat}{acc:List Rat}{r:List Fz}{S B:Nat}(hc:sz c≤B)(ha:∀q∈acc,sz q≤S)(hr:∀x∈r,fsz x≤B)(hB:1≤B):∀q∈mixP c acc r,sz q≤S+(2*B+1):=by
 intro q hq
 obtain⟨i,hi,rfl⟩:=List.getElem_of_mem hq
 simp only[mixP,List.length_zipWith]at hi
 simp only[mixP,List.getElem_zipWith]
 have h1:=ha _ (List.getElem_mem (show i<acc.length by omega))
 have h2:=zba (hr _ (List.getElem_mem (show i<r.length by omega))) hB
 have h3:=zfw c (fv (r[i]'(by omega)))
 have h4:=zei (acc[i]'(by omega)) (c*fv (r[i]'(by omega)))
 omega
section
variable{T:Tbl}[CNat T][CProd T][CTwos T][CQuot T][CQuotD T][CText T][CWhole T][CCommon T][CFrac T][CJoin T][CRow T]
def stAi(k j n:Nat)(rest:List (List Fz))(r:List Fz)(L acc:List Rat)(i:Nat):St:=
 ⟨[(4,.bs (.fld (.loc 15) 3) 1 3 0 n),(17,.sl (matF rest) .an),(18,.i .i64 k),(19,.i .i64 j),(28,.sl (rowF r) .an),(29,.i .i64 n),(30,.i .i64 i)],
  [(.fld (.loc 15) 3,⟨1,.own,3,rowF (fzs (L.take i++acc.drop i))⟩)],3⟩
theorem zv0(k j n i:Nat)(rest:List (List Fz))(r M:List Fz)(x y z:Fz)(hi:i<n)(hn:n≤1000)(hir:i<r.length)(hg:r[i]? = some x)(c1:callF T 215 [efz y,efz x]=some (efz z))(hge:M[i]? = some y)(hml:M.length=n) :
  evX (orc T) T 0 l267_0 ⟨[(4,.bs (.fld (.loc 15) 3) 1 3 0 n),(17,.sl (matF rest) .an),(18,.i .i64 k),(19,.i .i64 j),(28,.sl (rowF r) .an),(29,.i .i64 n),(30,.i .i64 i)],[(.fld (.loc 15) 3,⟨1,.own,3,rowF M⟩)],3⟩ =
   some (.n,⟨[(4,.bs (.fld (.loc 15) 3) 1 3 0 n),(17,.sl (matF rest) .an),(18,.i .i64 k),(19,.i .i64 j),(28,.sl (rowF r) .an),(29,.i .i64 n),(30,.i .i64 (i+1:Nat))],[(.fld (.loc 15) 3,⟨1,.own,3,rowF (M.set i z)⟩)],3⟩):=by
 have hws:=za5 hi (by omega)
 have hi':(i:Int)<n:=by omega
 obtain⟨_,hgE⟩:=List.getElem?_eq_some_iff.1 hge
 obtain⟨_,hgR⟩:=List.getElem?_eq_some_iff.1 hg
 have hset:=zqe M i z
 simp -implicitDefEqProofs[l267_0,hi,hi',hir,hg,hgR,hws,c1,hge,hgE,hml,hset]
theorem zv1(k j:Nat)(rest:List (List Fz))(r:List Fz)(acc:List Rat)(hr:r.length=acc.length)(hn:acc.length≤1000){S B:Nat}
  (ha:∀q∈acc,sz q≤S) (hw:∀x∈r,fsz x≤B) (hB:1≤B) (hS:S+(B+1)≤1000) :
  loopN T 0 2 (.norm false [4,17,18,19]) l267_0 (stAi k j acc.length rest r (addP acc r) acc 0) =
   some (.n,⟨[(4,.bs (.fld (.loc 15) 3) 1 3 0 acc.length),(17,.sl (matF rest) .an),(18,.i .i64 k),(19,.i .i64 j)],[(.fld (.loc 15) 3,⟨1,.own,3,rowF (fzs (addP acc r))⟩)],3⟩):=by
 have hL:=ze8 hr
 refine zak (stAi k j acc.length rest r (addP acc r) acc) acc.length _ (fun i hi=>?_) ?_
 ·have hir:i<r.length:=by omega
  have s1:=ha _ (List.getElem_mem hi)
  have s2:=hw _ (List.getElem_mem hir)
  have c1:=zdw (T:=T) (fz (acc[i]'hi)) (r[i]'hir) (by rw[zas];omega) (by omega)
  have e1:(addP acc r)[i]'(by omega)=acc[i]'hi+fv (r[i]'hir):=by simp[addP]
  rw[zbt,←e1]at c1
  have hu:=congrArg fzs (zp2 hL (show i<(addP acc r).length by omega))
  rw[←zvx]at hu
  unfold stAi
  rw[←hu]
  exact zv0 k j _ i rest r _ _ _ _ hi hn hir (List.getElem?_eq_getElem hir) c1 (zgg (zvw hL (show i<(addP acc r).length by omega))) (by simp;omega)
 ·have e:(addP acc r).take acc.length++acc.drop acc.length=addP acc r:=by rw[List.take_of_length_le (by omega),List.drop_length,List.append_nil]
  unfold stAi
  rw[e]
  generalize fzs (addP acc r)=M at *
  constructor<;>simp -implicitDefEqProofs[l267_0]
def stAo(n:Nat)(rest:List (List Fz))(acc:List Rat)(j:Nat):St:=
 ⟨[(4,.bs (.fld (.loc 15) 3) 1 3 0 n),(17,.sl (matF rest) .an),(18,.i .i64 rest.length),(19,.i .i64 j)],[(.fld (.loc 15) 3,⟨1,.own,3,rowF (fzs ((rest.take j).foldl addP acc))⟩)],3⟩
theorem zv2{B:Nat}(hB:1≤B):∀(l:List (List Fz)) (acc:List Rat) (S:Nat),(∀q∈acc,sz q≤S)→(∀r∈l,∀x∈r,fsz x≤B)→∀q∈l.foldl addP acc,sz q≤S+l.length*(B+1)
 | [],acc,S,ha,_=>by simpa using ha
 | r::l,acc,S,ha,hw=>by
  intro q hq
  have:=zv2 hB l (addP acc r) (S+(B+1)) (zvz ha (hw r List.mem_cons_self) hB) (fun r hr=>hw r (List.mem_cons_of_mem _ hr)) q hq
  rw[List.length_cons,Nat.succ_mul]
  omega
theorem zk3:∀(l:List (List Fz)) (acc:List Rat),(∀r∈l,r.length=acc.length)→(l.foldl addP acc).length=acc.length
 | [],_,_=>rfl
 | r::l,acc,h=>by
  have h1:=ze8 (h r List.mem_cons_self)
  have:=zk3 l (addP acc r) (fun r hr=>by rw[h1];exact h r (List.mem_cons_of_mem _ hr))
  rw[List.foldl_cons,this,h1]
theorem zv3(rest:List (List Fz))(acc:List Rat)(hn:acc.length≤1000)(hk:rest.length≤1000){S B:Nat}
  (ha:∀q∈acc,sz q≤S) (hw:∀r∈rest,∀x∈r,fsz x≤B) (hB:1≤B) (hS:S+rest.length*(B+1)≤1000) (hall:∀r∈rest,r.length=acc.length) :
  loopN T 0 0 (.norm false [4]) l267_1 (stAo acc.length rest acc 0)=some (.n,⟨[(4,.bs (.fld (.loc 15) 3) 1 3 0 acc.length)],[(.fld (.loc 15) 3,⟨1,.own,3,rowF (fzs (rest.foldl addP acc))⟩)],3⟩):=by
 refine zak (stAo acc.length rest acc) rest.length _ (fun j hj=>?_) ?_
 ·have hg:rest[j]? = some (rest[j]'hj):=List.getElem?_eq_getElem hj
  have hws:=za5 hj (by omega)
  have hm:=List.getElem_mem hj
  have hlen:=zk3 (rest.take j) acc (fun r hr=>hall r (List.mem_of_mem_take hr))
  have hr:(rest[j]'hj).length=acc.length:=hall _ hm
  have hsz:=zv2 hB (rest.take j) acc S ha (fun r hr=>hw r (List.mem_of_mem_take hr))
  rw[List.length_take,Nat.min_eq_left (by omega)]at hsz
  have hj2:(j+1)*(B+1)≤rest.length*(B+1):=Nat.mul_le_mul_right _ hj
  rw[Nat.succ_mul]at hj2
  have hin:=zv1 (T:=T) rest.length j rest (rest[j]'hj) ((rest.take j).foldl addP acc) (by omega) (by omega) hsz (hw _ hm) hB (by omega)
  have e:(rest.take (j+1)).foldl addP acc=addP ((rest.take j).foldl addP acc) (rest[j]'hj):=by
   rw[List.take_succ_eq_append_getElem hj,List.foldl_append];rfl
  unfold stAo
  rw[e]
  unfold stAi at hin
  rw[List.take_zero,List.drop_zero,List.nil_append,hlen]at hin
  clear e hsz hlen hj2
  generalize fzs ((rest.take j).foldl addP acc)=M at *
  generalize fzs (addP ((rest.take j).foldl addP acc) (rest[j]'hj))=M' at *
  generalize acc.length=n at *
  simp only[Int.natCast_zero]at hin
  have hr':((rest[j]'hj).length:Int)=n:=by omega
  simp -implicitDefEqProofs[l267_1,hj,hg,hws,hin,hr,hr']
 ·unfold stAo
  rw[List.take_of_length_le (Nat.le_refl _)]
  generalize fzs (rest.foldl addP acc)=M at *
  constructor<;>simp -implicitDefEqProofs[l267_1]
theorem zv4(r0:List Fz)(rest:List (List Fz))(hn:r0.length≤1000)(hk:rest.length≤1000){B:Nat}(hw0:∀x∈r0,fsz x≤B)(hw:∀r∈rest,∀x∈r,fsz x≤B)(hB:1≤B)
  (hS:B+rest.length*(B+1)≤1000) (hall:∀r∈rest,r.length=r0.length) :
  callF T 267 [.sl (matF (r0::rest)) .an]=some (.tup [.sl (rowF (fzs (rest.foldl addP (r0.map fv)))) .an,.b true]):=by
 have hno:=zna (T:=T) r0 hn (fun x hx=>Nat.le_trans (hw0 x hx) (by omega))
 rw[zop]at hno
 have h:=zv3 (T:=T) rest (r0.map fv) (by simpa using hn) hk (S:=B) (by
  intro q hq
  obtain⟨x,hx,rfl⟩:=List.mem_map.1 hq
  exact zba (hw0 x hx) hB) hw hB hS (by simpa using hall)
 have hfl:=zk3 rest (r0.map fv) (by simpa using hall)
 unfold stAo at h
 rw[List.take_zero,List.foldl_nil]at h
 rw[List.length_map]at h hfl
 have hl2:(fzs (rest.foldl addP (r0.map fv))).length=r0.length:=by rw[zaj];exact hfl
 have ht:List.take r0.length (fzs (rest.foldl addP (r0.map fv)))=fzs (rest.foldl addP (r0.map fv)):=List.take_of_length_le (by omega)
 rw[f267 _ rfl,b267]
 clear hw0 hw hS hall hfl
 generalize fzs (rest.foldl addP (r0.map fv))=M at *
 generalize fzs (r0.map fv)=N at *
 have e1:(matF (r0::rest))[0]? = some [.sl (rowF r0) .an]:=rfl
 have e2:(matF (r0::rest)).length=rest.length+1:=by simp
 have e4:¬ (rest.length:Int)+1=0:=by omega
 have e7:Option.all (fun r:List AV=>decide (r.length=1)) (matF (r0::rest)).head? = true:=rfl
 have e8:(List.take (rest.length+1) (matF (r0::rest))).tail=matF rest:=by rw[List.take_of_length_le (by simp)];rfl
 have e6:(1:Int)≤(rest.length:Int)+1:=by omega
 generalize matF (r0::rest)=RR at *
 obtain⟨_,e5⟩:=List.getElem?_eq_some_iff.1 e1
 simp only[Int.natCast_zero]at h
 simp -implicitDefEqProofs[hno,h,hl2,ht,e1,e2,e4,e5,e6,e7,e8]
end
def mixF(p:List (Fz×List Fz))(acc:List Rat):List Rat:=p.foldl (fun a q=>mixP (fv q.1) a q.2) acc
theorem zg0:∀(p:List (Fz×List Fz)) (acc:List Rat),(∀q∈p,q.2.length=acc.length)→(mixF p acc).length=acc.length
 | [],_,_=>rfl
 | q::p,acc,h=>by
  have h1:=zim (c:=fv q.1) (h q List.mem_cons_self)
  have:=zg0 p (mixP (fv q.1) acc q.2) (fun r hr=>by rw[h1];exact h r (List.mem_cons_of_mem _ hr))
  unfold mixF at this ⊢
  rw[List.foldl_cons,this,h1]
theorem zve{B:Nat}(hB:1≤B):∀(p:List (Fz×List Fz)) (acc:List Rat) (S:Nat),(∀q∈acc,sz q≤S)→(∀q∈p,fsz q.1≤B∧∀x∈q.2,fsz x≤B)→∀q∈mixF p acc,sz q≤S+p.length*(2*B+1)
 | [],acc,S,ha,_=>by simpa[mixF]using ha
 | r::p,acc,S,ha,hw=>by
  intro q hq
  have hr:=hw r List.mem_cons_self
  have:=zve hB p (mixP (fv r.1) acc r.2) (S+(2*B+1)) (z3u (zba hr.1 hB) ha hr.2 hB) (fun r hr=>hw r (List.mem_cons_of_mem _ hr)) q hq
  rw[List.length_cons,Nat.succ_mul]
  omega
theorem zvf(p:List (Fz×List Fz))(acc:List Rat){k:Nat}(hk:k<p.length):mixF (p.take (k+1)) acc=mixP (fv (p[k]'hk).1) (mixF (p.take k) acc) (p[k]'hk).2:=by
 grind[mixF,List.take_succ_eq_append_getElem]
section
variable{T:Tbl}[CNat T][CProd T][CTwos T][CQuot T][CQuotD T][CText T][CWhole T][CCommon T][CFrac T][CJoin T][CRow T]
theorem zy7(C:List Fz)(k j n i:Nat)(l:List (List Fz))(r M:List Fz)(cf x w y z:Fz)(hi:i<n)(hn:n≤1000)(hck:C[k]? = some cf)(hir:i<r.length)(hg:r[i]? = some x)(c0:callF T 217 [efz cf,efz x]=some (efz w))
  (c1:callF T 215 [efz y,efz w]=some (efz z)) (hge:M[i]? = some y) (hml:M.length=n) :
  evX (orc T) T 0 l271_1 ⟨[(0,.sl (rowF C) .an),(10,.bs (.fld (.loc 40) 9) 1 3 0 n),(11,.i .i64 k),(41,.sl (matF l) .an),(42,.i .i64 j),(43,.i .i64 k),(54,.sl (rowF r) .an),(55,.i .i64 n),(56,.i .i64 i)],[(.fld (.loc 40) 9,⟨1,.own,3,rowF M⟩)],3⟩ =
   some (.n,⟨[(0,.sl (rowF C) .an),(10,.bs (.fld (.loc 40) 9) 1 3 0 n),(11,.i .i64 k),(41,.sl (matF l) .an),(42,.i .i64 j),(43,.i .i64 k),(54,.sl (rowF r) .an),(55,.i .i64 n),(56,.i .i64 (i+1:Nat))],[(.fld (.loc 40) 9,⟨1,.own,3,rowF (M.set i z)⟩)],3⟩):=by
 have hws:=za5 hi (by omega)
 have hi':(i:Int)<n:=by omega
 obtain⟨hkl,hgC⟩:=List.getElem?_eq_some_iff.1 hck
 obtain⟨_,hgE⟩:=List.getElem?_eq_some_iff.1 hge
 obtain⟨_,hgR⟩:=List.getElem?_eq_some_iff.1 hg
 have hkl':(k:Int)<C.length:=by omega
 have hset:=zqe M i z
 simp -implicitDefEqProofs[l271_1,hi,hi',hir,hgR,hws,hkl,hkl',hgC,c0,c1,hgE,hml,hset]
def stMi(C:List Fz)(k j n:Nat)(l:List (List Fz))(r:List Fz)(L acc:List Rat)(i:Nat):St:=
 ⟨[(0,.sl (rowF C) .an),(10,.bs (.fld (.loc 40) 9) 1 3 0 n),(11,.i .i64 k),(41,.sl (matF l) .an),(42,.i .i64 j),(43,.i .i64 k),(54,.sl (rowF r) .an),(55,.i .i64 n),(56,.i .i64 i)],
  [(.fld (.loc 40) 9,⟨1,.own,3,rowF (fzs (L.take i++acc.drop i))⟩)],3⟩
theorem zvg(C:List Fz)(k j:Nat)(l:List (List Fz))(r:List Fz)(cf:Fz)(hck:C[k]? = some cf)(acc:List Rat)(hr:r.length=acc.length)(hn:acc.length≤1000){S B:Nat}
  (ha:∀q∈acc,sz q≤S) (hc:fsz cf≤B) (hw:∀x∈r,fsz x≤B) (hB:1≤B) (hS:S+(2*B+1)≤1000) :
  loopN T 0 4 (.norm false [0,10,41,42,43]) l271_1 (stMi C k j acc.length l r (mixP (fv cf) acc r) acc 0) =
   some (.n,⟨[(0,.sl (rowF C) .an),(10,.bs (.fld (.loc 40) 9) 1 3 0 acc.length),(41,.sl (matF l) .an),(42,.i .i64 j),(43,.i .i64 k)],[(.fld (.loc 40) 9,⟨1,.own,3,rowF (fzs (mixP (fv cf) acc r))⟩)],3⟩):=by
 have hL:=zim (c:=fv cf) hr
 refine zak (stMi C k j acc.length l r (mixP (fv cf) acc r) acc) acc.length _ (fun i hi=>?_) ?_
 ·have hir:i<r.length:=by omega
  have s1:=ha _ (List.getElem_mem hi)
  have s2:=hw _ (List.getElem_mem hir)
  have c0:=zgy (T:=T) cf (r[i]'hir) (by omega) (by omega)
  have s3:=zfw (fv cf) (fv (r[i]'hir))
  have s4:=zba hc hB
  have s5:=zba s2 hB
  have c1:=zdw (T:=T) (fz (acc[i]'hi)) (fz (fv cf*fv (r[i]'hir))) (by rw[zas];omega) (by rw[zas];omega)
  have e1:(mixP (fv cf) acc r)[i]'(by omega)=acc[i]'hi+fv cf*fv (r[i]'hir):=by simp[mixP]
  rw[zbt,zbt,←e1]at c1
  have hu:=congrArg fzs (zp2 hL (show i<(mixP (fv cf) acc r).length by omega))
  rw[←zvx]at hu
  unfold stMi
  rw[←hu]
  exact zy7 C k j _ i l r _ cf _ _ _ _ hi hn hck hir (List.getElem?_eq_getElem hir) c0 c1 (zgg (zvw hL (show i<(mixP (fv cf) acc r).length by omega))) (by simp;omega)
 ·have e:(mixP (fv cf) acc r).take acc.length++acc.drop acc.length=mixP (fv cf) acc r:=by grind
  unfold stMi
  rw[e]
  constructor<;>simp -implicitDefEqProofs[l271_1]
def stMo(C:List Fz)(n:Nat)(l:List (List Fz))(acc:List Rat)(k:Nat):St:=
 ⟨[(0,.sl (rowF C) .an),(10,.bs (.fld (.loc 40) 9) 1 3 0 n),(41,.sl (matF l) .an),(42,.i .i64 l.length),(43,.i .i64 k)],[(.fld (.loc 40) 9,⟨1,.own,3,rowF (fzs (mixF ((C.zip l).take k) acc))⟩)],3⟩
theorem zvh(C:List Fz)(l:List (List Fz))(hcl:C.length=l.length)(acc:List Rat)(hn:acc.length≤1000)(hk:l.length≤1000){S B:Nat}
  (ha:∀q∈acc,sz q≤S) (hc:∀x∈C,fsz x≤B) (hw:∀r∈l,∀x∈r,fsz x≤B) (hB:1≤B) (hS:S+l.length*(2*B+1)≤1000) (hall:∀r∈l,r.length=acc.length) :
  loopN T 0 2 (.norm false [10]) l271_2 (stMo C acc.length l acc 0)=some (.n,⟨[(10,.bs (.fld (.loc 40) 9) 1 3 0 acc.length)],[(.fld (.loc 40) 9,⟨1,.own,3,rowF (fzs (mixF (C.zip l) acc))⟩)],3⟩):=by
 have hzl:(C.zip l).length=l.length:=by grind
 refine zak (stMo C acc.length l acc) l.length _ (fun k hk=>?_) ?_
 ·have hkc:k<C.length:=by omega
  have hgc:C[k]? = some (C[k]'hkc):=List.getElem?_eq_getElem hkc
  have hws:=za5 hk (by omega)
  have hm:=List.getElem_mem hk
  have hmc:=hc _ (List.getElem_mem hkc)
  have hlen:=zg0 ((C.zip l).take k) acc (fun q hq=>hall _ (List.of_mem_zip (List.mem_of_mem_take hq)).2)
  have hr:(l[k]'hk).length=acc.length:=hall _ hm
  have hsz:=zve hB ((C.zip l).take k) acc S ha (fun q hq=>⟨hc _ (List.of_mem_zip (List.mem_of_mem_take hq)).1,hw _ (List.of_mem_zip (List.mem_of_mem_take hq)).2⟩)
  rw[List.length_take,Nat.min_eq_left (by omega)]at hsz
  have hj2:(k+1)*(2*B+1)≤l.length*(2*B+1):=Nat.mul_le_mul_right _ hk
  rw[Nat.succ_mul]at hj2
  have hsg:=zfp (T:=T) (C[k]'hkc) (by omega)
  have e:mixF ((C.zip l).take (k+1)) acc=mixP (fv (C[k]'hkc)) (mixF ((C.zip l).take k) acc) (l[k]'hk):=by
   rw[zvf _ _ (by omega)]
   simp
  have hkc':(k:Int)<C.length:=by omega
  unfold stMo
  rw[e]
  by_cases hz:fv (C[k]'hkc)=0
  ·rw[hz,zvy (by rw[hlen,hr])]
   have hq:sgQ (fv (C[k]'hkc))=0:=zfx.2 hz
   rw[hq]at hsg
   simp -implicitDefEqProofs[l271_2,hk,hkc,hkc',hws,hsg]
  ·have hq:¬ sgQ (fv (C[k]'hkc))=0:=fun h=>hz (zfx.1 h)
   have hin:=zvg (T:=T) C k l.length l (l[k]'hk) (C[k]'hkc) hgc (mixF ((C.zip l).take k) acc) (by omega) (by omega) hsz hmc (hw _ hm) hB (by omega)
   unfold stMi at hin
   rw[List.take_zero,List.drop_zero,List.nil_append,hlen]at hin
   generalize acc.length=n at *
   simp only[Int.natCast_zero]at hin
   simp -implicitDefEqProofs[l271_2,hk,hkc,hkc',hws,hsg,hq,hin,hr]
 ·unfold stMo
  rw[List.take_of_length_le (by omega)]
  constructor<;>simp -implicitDefEqProofs[l271_2]
def stMc(C:List Fz)(l:List (List Fz))(n i:Nat):St:=⟨[(0,.sl (rowF C) .an),(1,.sl (matF l) .an),(2,.i .i64 n),(28,.sl (matF l) .an),(29,.i .i64 l.length),(30,.i .i64 i)],[],2⟩
theorem zvi(C:List Fz)(l:List (List Fz))(n:Nat)(hk:l.length≤1000)(hall:∀r∈l,r.length=n) :
  loopN T 0 0 (.norm false [0,1,2]) l271_0 (stMc C l n 0)=some (.n,⟨[(0,.sl (rowF C) .an),(1,.sl (matF l) .an),(2,.i .i64 n)],[],2⟩):=by
 refine zak (stMc C l n) l.length _ (fun i hi=>?_) ?_
 ·have hws:=za5 hi (by omega)
  have hr:(l[i]'hi).length=n:=hall _ (List.getElem_mem hi)
  unfold stMc
  simp -implicitDefEqProofs[l271_0,hi,hws,hr]
 ·unfold stMc
  constructor<;>simp -implicitDefEqProofs[l271_0]
theorem z3l(C:List Fz)(l:List (List Fz))(n:Nat)(hcl:C.length=l.length)(hn:n≤300)(hk:l.length≤1000){B:Nat}(hc:∀x∈C,fsz x≤B)(hw:∀r∈l,∀x∈r,fsz x≤B)(hB:1≤B)
  (hS:1+l.length*(2*B+1)≤1000) (hall:∀r∈l,r.length=n) :
  callF T 271 [.sl (rowF C) .an,.sl (matF l) .an,.i .i64 n]=some (.tup [.sl (rowF (fzs (mixF (C.zip l) (List.replicate n 0)))) .an,.b true]):=by
 have hz:=zm9 (T:=T) n hn
 have e0:List.replicate n (fz 0)=fzs (List.replicate n 0):=by simp[fzs]
 rw[e0]at hz
 have h0:=zvi (T:=T) C l n hk hall
 have h:=zvh (T:=T) C l hcl (List.replicate n 0) (by grind) hk (S:=1) (by
  grind[zgl]) hc hw hB hS (by grind)
 have hfl:=zg0 (C.zip l) (List.replicate n 0) (fun q hq=>by rw[List.length_replicate];exact hall _ (List.of_mem_zip hq).2)
 unfold stMo at h
 unfold stMc at h0
 have e1:mixF ((C.zip l).take 0) (List.replicate n 0)=List.replicate n 0:=by simp[mixF]
 rw[e1]at h
 rw[List.length_replicate]at h hfl
 have hl2:(fzs (mixF (C.zip l) (List.replicate n 0))).length=n:=by simp_all
 have ht:List.take n (fzs (mixF (C.zip l) (List.replicate n 0)))=fzs (mixF (C.zip l) (List.replicate n 0)):=List.take_of_length_le (by omega)
 have p2:((C.length:Int)=(l.length:Int))=True:=by grind
 have e3:¬ (n:Int)<0:=by omega
 have e4:¬ (300:Int)<n:=by omega
 rw[f271 _ rfl,b271]
 simp only[Int.natCast_zero]at h h0
 simp -implicitDefEqProofs[hz,h,h0,hl2,ht,p2,e3,e4]
end
abbrev agS(t h:Fz)(y0 y1 f0 f1:List Fz):AV:=
 .agg [.b t.1,.sl (u32s t.2.1) .an,.sl (u32s t.2.2) .an,.b h.1,.sl (u32s h.2.1) .an,.sl (u32s h.2.2) .an,.sl (rowF y0) .an,.sl (rowF y1) .an,.sl (rowF f0) .an,.sl (rowF f1) .an]
def prodQ(l:List Fz):Rat:=l.foldl (fun p x=>p*fv x) 1
section
variable{T:Tbl}[CNat T][CProd T][CTwos T][CQuot T][CQuotD T][CText T][CWhole T][CCommon T][CFrac T][CJoin T][CRow T][CSpan T]
def stTm(l:List Fz)(i:Nat):St:=⟨[(2,.ptr (.loc 2) 1 3 0 0),(3,.ptr (.loc 3) 2 3 0 0),(7,.sl (rowF l) .an),(8,.i .i64 l.length),(9,.i .i64 i)],[(.loc 2,⟨1,.str,3,[nocell]⟩),(.loc 3,⟨2,.str,3,[celF (fz (prodQ (l.take i)))]⟩)],4⟩
def rightS(h:Fz)(y0 y1 f0 f1:List Fz):Bool:=decide (0<fv h)&&decide (y0.length≤300)&&decide (y1.length=y0.length)&&decide (f0.length=y0.length)&&decide (f1.length=y0.length)
end
theorem zer(a b:List AV):wkR (a++b)=wkR a++wkR b:=by rw[zh0,zh0,zh0,List.map_append]
abbrev tyS:Ty:=.cons tyF (.cons tyF (.cons (.sl tyF) (.cons (.sl tyF) (.cons (.sl tyF) (.cons (.sl tyF) .nil)))))
class CRef5 (T:Tbl):Prop where
end Go.Ab
section
namespace Go.Ab
end Go.Ab
end
namespace Go.Ab
section
variable{T:Tbl}
def stDw(Q:List UInt32)(o n s i:Nat):St:=⟨[(0,.bs (.bor 0) 0 1 o n),(1,.i .i64 s),(5,.i .i64 i)],[(.bor 0,⟨0,.own,1,u32s Q⟩)],4⟩
end
section
variable{T:Tbl}[CRef02 T][CRef04 T][CRef05 T][CRef07 T][CRef06 T]
def stLw(Q R:List UInt32)(o n o2 n2 c i:Nat):St:=⟨[(0,.bs (.bor 0) 0 1 o n),(1,.bs (.bor 1) 1 1 o2 n2),(4,u64 c),(5,.i .i64 i)],[(.bor 0,⟨0,.own,1,u32s Q⟩),(.bor 1,⟨1,.own,1,u32s R⟩)],6⟩
def nmX:BId:=.fld (.loc 12) 22
def nmY:BId:=.fld (.loc 14) 22
def nm2(f:Bool):BId×BId:=if f then (nmX,nmY) else (nmY,nmX)
def stGc(f:Bool)(P a S P2 b S2:List UInt32)(m n:Nat):St:=
 ⟨[(5,.bs (nm2 f).1 1 1 P.length a.length),(6,.bs (nm2 f).2 2 1 P2.length b.length),(7,.i .i64 m),(8,.i .i64 n)],[((nm2 f).1,⟨1,.own,1,u32s (P++(a++S))⟩),((nm2 f).2,⟨2,.own,1,u32s (P2++(b++S2))⟩)],4⟩
structure Gc where
 f:Bool
 P:List UInt32
 S:List UInt32
 P2:List UInt32
 S2:List UInt32
 X:Nat
 Y:Nat
end
end Go.Ab
section
namespace Go.Ab
end Go.Ab
end
namespace Go.Ab
section
variable{T:Tbl}[CRef02 T][CRef04 T][CRef05 T][CRef07 T][CRef06 T][CRef08 T][CRef09 T]
theorem zdk(x:Fz)(k:Nat):callF T 247 [efz x,.i .i64 k]=some (.b (decide (k<fsz x))):=by
 obtain⟨n,a,d⟩:=x
 unfold fsz
 rw[f247 _ rfl,b247]
 by_cases h1:k<a.length
 ·have h3:k<max a.length d.length:=by omega
  simp -implicitDefEqProofs[h1,h3]
 ·by_cases h2:k<d.length
  ·have h3:k<max a.length d.length:=by omega
   simp -implicitDefEqProofs[h1,h2,h3]
  ·have h3:¬ k<max a.length d.length:=by omega
   simp -implicitDefEqProofs[h1,h2,h3]
end
section
variable{T:Tbl}[CRef02 T][CRef04 T][CRef05 T][CRef07 T][CRef06 T][CRef08 T][CRef09 T][CRef11 T]
def stZ1(n i:Nat):St:=⟨[(0,.i .i64 n),(3,.bs (.loc 3) 1 3 0 i),(4,.i .i64 i)],[(.loc 3,⟨1,.own,3,rowF (List.replicate i (fz 0))⟩)],3⟩
def stN1(l:List Fz)(i:Nat):St:=⟨[(0,.sl (rowF l) .an),(3,.bs (.loc 3) 1 3 0 i),(4,.i .i64 i)],[(.loc 3,⟨1,.own,3,rowF (nrm (l.take i))⟩)],3⟩
def stS1(a b:List Fz)(i:Nat):St:=⟨[(0,.sl (rowF a) .an),(1,.sl (rowF b) .an),(5,.i .i64 i)],[],2⟩
def stA1(p q:List Rat)(i:Nat):St:=⟨[(0,.sl (rowF (fzs p)) .an),(1,.sl (rowF (fzs q)) .an),(5,.bs (.loc 5) 1 3 0 i),(6,.i .i64 i)],[(.loc 5,⟨1,.own,3,rowF (fzs ((addP p (fzs q)).take i))⟩)],3⟩
def stD1(p q:List Rat)(i:Nat):St:=⟨[(0,.sl (rowF (fzs p)) .an),(1,.sl (rowF (fzs q)) .an),(4,.ptr (.loc 4) 1 3 0 0),(5,.ptr (.loc 5) 2 3 0 0),(6,.i .i64 i)],
 [(.loc 4,⟨1,.str,3,[nocell]⟩),(.loc 5,⟨2,.str,3,[celF (fz (dotK (fzs p) (fzs q) i))]⟩)],4⟩
def longB(l:List Fz)(many words:Nat):Bool:=decide (many<l.length) || l.any fun x=>decide (words<fsz x)
def stL1(l:List Fz)(many words:Nat)(i:Nat):St:=⟨[(0,.sl (rowF l) .an),(1,.i .i64 many),(2,.i .i64 words),(7,.i .i64 i)],[],2⟩
theorem zr5(l:List Fz)(many words:Nat)(hl:l.length≤many)(hm:many≤1000) :
  loopN T 0 0 (.norm false [0,1]) l286_0 (stL1 l many words 0)=if (l.drop 0).any (fun x=>decide (words<fsz x))=true then some (.r,⟨[(6,.b true)],[],2⟩) else some (.n,⟨[(0,.sl (rowF l) .an),(1,.i .i64 many)],[],2⟩):=by
 refine zax (stL1 l many words) l.length (fun i=>if (l.drop i).any (fun x=>decide (words<fsz x))=true then some (.r,⟨[(6,.b true)],[],2⟩) else some (.n,⟨[(0,.sl (rowF l) .an),(1,.i .i64 many)],[],2⟩)) (fun i hi=>?_) ?_
 ·have hga:l[i]? = some (l[i]'hi):=List.getElem?_eq_getElem hi
  have hws:=za5 hi (by omega)
  have c:=zdk (T:=T) (l[i]'hi) words
  have h3:(i:Int)<many:=by omega
  have h4:i<many:=by omega
  have key:(l.drop i).any (fun x=>decide (words<fsz x))=(decide (words<fsz (l[i]'hi)) || (l.drop (i+1)).any fun x=>decide (words<fsz x)):=by
   rw[List.drop_eq_getElem_cons hi,List.any_cons]
  by_cases he:words<fsz (l[i]'hi)
  ·right
   rw[if_pos (by rw[key,decide_eq_true he,Bool.true_or])]
   rw[decide_eq_true he]at c
   unfold stL1
   clear key he
   constructor<;>simp -implicitDefEqProofs[l286_0,hi,h3,c]
  ·left
   refine⟨?_,by grind⟩
   rw[decide_eq_false he]at c
   unfold stL1
   clear key he
   simp -implicitDefEqProofs[l286_0,hi,h3,hws,c]
 ·rw[List.drop_length,if_neg (by simp)]
  unfold stL1
  constructor<;>simp -implicitDefEqProofs[l286_0]
theorem zr6(l:List Fz)(many words:Nat)(hl:l.length≤many)(hm:many≤1000):callF T 286 [.sl (rowF l) .an,.i .i64 many,.i .i64 words]=some (.b (longB l many words)):=by
 have h:=zr5 (T:=T) l many words hl hm
 rw[List.drop_zero]at h
 unfold stL1 at h
 simp only[Int.natCast_zero]at h
 have h1:¬ (many:Int)<l.length:=by omega
 have h2:¬ many<l.length:=by omega
 unfold longB
 rw[f286 _ rfl,b286]
 cases hc:l.any fun x=>decide (words<fsz x) with
 | true=>
  rw[hc,if_pos rfl]at h
  simp -implicitDefEqProofs[h,h2]
 | false=>
  rw[hc,if_neg (by decide)]at h
  simp -implicitDefEqProofs[h,h1,h2]
theorem zr7(l:List Fz)(many words:Nat)(hl:many<l.length)(hm:many≤1000) :
  ∃r,(r=some (.r,(⟨[(6,.b true)],[],2⟩:St))∨r=some (.n,⟨[(0,.sl (rowF l) .an),(1,.i .i64 many)],[],2⟩))∧loopN T 0 0 (.norm false [0,1]) l286_0 (stL1 l many words 0)=r:=by
 obtain⟨G,hG⟩:∃G:Nat→Option (Ex×St),G=fun i=>if ((l.take many).drop i).any (fun x=>decide (words<fsz x))=true then some (.r,⟨[(6,.b true)],[],2⟩) else some (.n,⟨[(0,.sl (rowF l) .an),(1,.i .i64 many)],[],2⟩):=⟨_,rfl⟩
 refine⟨G 0,?_,zax (stL1 l many words) many G (fun i hi=>?_) ?_⟩
 ·grind
 ·have hil:i<l.length:=by omega
  have hil':(i:Int)<l.length:=by omega
  have hga:l[i]? = some (l[i]'hil):=List.getElem?_eq_getElem hil
  have hws:=za5 hi (by omega)
  have c:=zdk (T:=T) (l[i]'hil) words
  have key:((l.take many).drop i).any (fun x=>decide (words<fsz x))=(decide (words<fsz (l[i]'hil)) || ((l.take many).drop (i+1)).any fun x=>decide (words<fsz x)):=by
   grind[List.drop_eq_getElem_cons]
  by_cases he:words<fsz (l[i]'hil)
  ·right
   rw[hG]
   simp only
   rw[if_pos (by rw[key,decide_eq_true he,Bool.true_or])]
   rw[decide_eq_true he]at c
   unfold stL1
   clear key he hG
   constructor<;>simp -implicitDefEqProofs[l286_0,hi,hil,hil',c]
  ·left
   refine⟨?_,by grind⟩
   rw[decide_eq_false he]at c
   unfold stL1
   clear key he hG
   simp -implicitDefEqProofs[l286_0,hi,hil,hil',hws,c]
 ·rw[hG]
  simp only
  rw[List.drop_of_length_le (by grind),if_neg (by simp)]
  have h1:(many:Int)<l.length:=by omega
  unfold stL1
  constructor<;>simp -implicitDefEqProofs[l286_0,h1]
theorem zoo(l:List Fz)(many words:Nat)(hl:many<l.length)(hm:many≤1000):callF T 286 [.sl (rowF l) .an,.i .i64 many,.i .i64 words]=some (.b true):=by
 obtain⟨r,hr,h⟩:=zr7 (T:=T) l many words hl hm
 unfold stL1 at h
 simp only[Int.natCast_zero]at h
 have h1:(many:Int)<l.length:=by omega
 rw[f286 _ rfl,b286]
 rcases hr with rfl | rfl
 ·simp -implicitDefEqProofs[h]
 ·simp -implicitDefEqProofs[h,hl]
theorem zb1(l:List Fz)(many words:Nat)(hm:many≤1000):callF T 286 [.sl (rowF l) .an,.i .i64 many,.i .i64 words]=some (.b (longB l many words)):=by
 grind[zoo,longB,zr6]
theorem zb2{l:List Fz}{many words:Nat}(h:longB l many words=false):l.length≤many∧∀x∈l,fsz x≤words:=by
 grind[longB]
end
def cap300(n:Int):Nat:=(min (max n 0) 300).toNat
section
variable{T:Tbl}[CNat T][CProd T][CTwos T][CQuot T][CQuotD T][CText T][CWhole T][CCommon T][CFrac T][CJoin T][CRow T]
def unitR(n i:Int):List Rat:=if 0≤i∧i<cap300 n then (List.replicate (cap300 n) 0).set i.toNat 1 else List.replicate (cap300 n) 0
end
section
variable{T:Tbl}[CRef02 T][CRef04 T][CRef05 T][CRef07 T][CRef06 T][CRef08 T][CRef09 T][CRef11 T]
def stZ1x(n:Int)(i:Nat):St:=⟨[(0,.i .i64 n),(3,.bs (.loc 3) 1 3 0 i),(4,.i .i64 i)],[(.loc 3,⟨1,.own,3,rowF (List.replicate i (fz 0))⟩)],3⟩
end
theorem zfs{m:List (List Fz)}{n:Nat}(h:m.length=n)(r:List Fz):wkL (matF (List.take n m)++[[.sl (rowF r) .an]])=matF (m++[r]):=by
 rw[List.take_of_length_le (by omega),znj,zar]
theorem zie{α:Type}(l:List α){i:Nat}(h:i<l.length):l.take (i+1)=l.take i++[l[i]'h]:=List.take_succ_eq_append_getElem h
section
variable{T:Tbl}[CRef02 T][CRef04 T][CRef05 T][CRef07 T][CRef06 T][CRef08 T][CRef09 T][CRef11 T][CLaw09 T][CLaw11 T]
theorem zkv(x:Fz):callF T 248 [efz x]=some (efz x):=by
 rw[f248 _ rfl,b248]
 simp -implicitDefEqProofs
def stTo11(l:List Fz)(i:Nat):St:=⟨[(0,.sl (rowF l) .an),(3,.bs (.loc 3) 1 3 0 i),(4,.i .i64 i)],[((.loc 3),⟨1,.own,3,rowF (l.take i)⟩)],3⟩
theorem zu4(l:List Fz)(hl:l.length≤4294967296) :
  loopN T 0 0 (.norm false [3]) l287_0 (stTo11 l 0)=some (.n,⟨[(3,.bs (.loc 3) 1 3 0 (l.length))],[((.loc 3),⟨1,.own,3,rowF (l.take (l.length))⟩)],3⟩):=by
 refine zak (stTo11 l) (l.length) _ (fun i hi=>?_) ?_
 ·have hws:=za5 hi (by omega)
  have hb:i≤4294967295:=by omega
  have hg:l[i]? = some (l[i]'hi):=List.getElem?_eq_getElem hi
  have hn:=zkv (T:=T) (l[i]'hi)
  have e:=zie l hi
  have hml:(l.take i).length=i:=by simp;omega
  have hp:=zcc hml (l[i]'hi)
  unfold stTo11
  rw[e]
  clear e
  generalize l.take i=M at *
  simp -implicitDefEqProofs[l287_0,hi,hws,hb,hp,hml,hg,hn]
 ·unfold stTo11
  rw[List.take_of_length_le (Nat.le_refl _)]
  constructor<;>simp -implicitDefEqProofs[l287_0]
theorem zdx(l:List Fz)(hl:l.length≤4294967296):callF T 287 [.sl (rowF l) .an]=some (.sl (rowF l) .an):=by
 have h:=zu4 (T:=T) l hl
 unfold stTo11 at h
 rw[List.take_zero,List.take_of_length_le (Nat.le_refl _)]at h
 simp only[zd4,Int.natCast_zero]at h
 have ht:List.take l.length l=l:=List.take_of_length_le (Nat.le_refl _)
 rw[f287 _ rfl,b287]
 simp -implicitDefEqProofs[h,ht]
def stOf11(l:List Fz)(i:Nat):St:=⟨[(0,.sl (rowF l) .an),(3,.bs (.loc 3) 1 3 0 i),(4,.i .i64 i)],[((.loc 3),⟨1,.own,3,rowF (l.take i)⟩)],3⟩
end
def widthM:List (List Fz)→Nat
 | []=>0
 | r::_=>r.length
def rightM(m:List (List Fz)):Bool:=m.all fun r=>decide (r.length=widthM m)
def colM(m:List (List Fz))(j:Nat):List Fz:=m.map fun r=>r.getD j (false,[],[])
def turnM(m:List (List Fz))(k:Nat):List (List Fz):=(List.range k).map fun j=>nrm (colM m j)
def scM(r:List Fz)(m:List (List Fz)):List (List Fz):=List.zipWith (fun x row=>scl (fv x) row) r m
def sumM:List (List Fz)→List Rat
 | []=>[]
 | r::m=>m.foldl addP (r.map fv)
def leftQ(r:List Fz)(m:List (List Fz)):List Rat:=sumM (scM r m)
def applyQ(m:List (List Fz))(c:List Fz):List Rat:=m.map fun r=>dotQ r c
section
variable{T:Tbl}[CNat T][CProd T][CTwos T][CQuot T][CQuotD T][CText T][CWhole T][CCommon T][CFrac T][CJoin T][CRow T][CGrid T]
def stGrR(m:List (List Fz))(i:Nat):St:=⟨[(0,.sl (matF m) .an),(5,.sl (matF m) .an),(6,.i .i64 m.length),(7,.i .i64 i)],[],2⟩
def stGrS(a b:List (List Fz))(i:Nat):St:=⟨[(1,.sl (matF b) .an),(12,.sl (matF a) .an),(13,.i .i64 a.length),(14,.i .i64 i)],[],2⟩
def idQ(k:Nat)(i:Nat):List (List Fz):=(List.range i).map fun j=>fzs ((List.replicate k 0).set j 1)
def stGrI(k:Nat)(i:Nat):St:=⟨[(0,.i .i64 k),(3,.bs (.loc 3) 1 1 0 i),(8,.i .i64 k),(9,.i .i64 i)],[((.loc 3),⟨1,.own,1,matF (idQ k i)⟩)],3⟩
def stGrT(m R:List (List Fz))(k j:Nat)(i:Nat):St:=⟨[(0,.sl (matF m) .an),(3,.bs (.loc 3) 1 1 0 j),(4,.i .i64 j),(5,.bs (.loc 5) 2 3 0 i),(12,.i .i64 k),(13,.i .i64 j),(16,.sl (matF m) .an),(17,.i .i64 m.length),(18,.i .i64 i)],[(.loc 3,⟨1,.own,1,matF R⟩),((.loc 5),⟨2,.own,3,rowF (nrm (colM (m.take i) j))⟩)],4⟩
def stTo12t(m:List (List Fz))(k:Nat)(i:Nat):St:=⟨[(0,.sl (matF m) .an),(3,.bs (.loc 3) 1 1 0 i),(12,.i .i64 k),(13,.i .i64 i)],[((.loc 3),⟨1,.own,1,matF (turnM m i)⟩)],3⟩
end
section
variable{T:Tbl}[CNat T][CProd T][CTwos T][CQuot T][CQuotD T][CText T][CWhole T][CCommon T][CFrac T][CJoin T][CRow T][CGrid T]
def stGrL(r:List Fz)(m:List (List Fz))(i:Nat):St:=⟨[(0,.sl (rowF r) .an),(6,.bs (.loc 6) 1 1 0 i),(19,.sl (matF m) .an),(20,.i .i64 m.length),(21,.i .i64 i)],[((.loc 6),⟨1,.own,1,matF (scM (r.take i) (m.take i))⟩)],3⟩
def stGrA(m:List (List Fz))(c:List Fz)(i:Nat):St:=⟨[(1,.sl (rowF c) .an),(6,.bs (.loc 6) 1 3 0 i),(21,.sl (matF m) .an),(22,.i .i64 m.length),(23,.i .i64 i)],[((.loc 6),⟨1,.own,3,rowF (fzs (applyQ (m.take i) c))⟩)],3⟩
def mulM(a b:List (List Fz)):List (List Fz):=a.map fun r=>fzs (leftQ r b)
def stGrM(a m:List (List Fz))(i:Nat):St:=⟨[(1,.sl (matF m) .an),(6,.bs (.loc 6) 1 1 0 i),(26,.sl (matF a) .an),(27,.i .i64 a.length),(28,.i .i64 i)],[((.loc 6),⟨1,.own,1,matF (mulM (a.take i) m)⟩)],3⟩
def addM(a b:List (List Fz)):List (List Fz):=List.zipWith (fun r s=>fzs (addP (r.map fv) s)) a b
def stGrP(a m:List (List Fz))(i:Nat):St:=⟨[(1,.sl (matF m) .an),(6,.bs (.loc 6) 1 1 0 i),(33,.sl (matF a) .an),(34,.i .i64 a.length),(35,.i .i64 i)],[((.loc 6),⟨1,.own,1,matF (addM (a.take i) (m.take i))⟩)],3⟩
end
def dotR:List Rat→List Rat→Rat
 | x::a,y::b=>x*y+dotR a b
 | _,_=>0
def valM(m:List (List Fz)):List (List Rat):=m.map fun r=>r.map fv
def fzM(L:List (List Rat)):List (List Fz):=L.map fzs
def widthQ:List (List Rat)→Nat
 | []=>0
 | r::_=>r.length
def rightQ(L:List (List Rat)):Bool:=L.all fun r=>decide (r.length=widthQ L)
def colQ(L:List (List Rat))(j:Nat):List Rat:=L.map fun p=>p.getD j 0
def turnQ(L:List (List Rat)):List (List Rat):=(List.range (widthQ L)).map (colQ L)
def applyR(L:List (List Rat))(c:List Rat):List Rat:=L.map fun p=>dotR p c
def leftR(r:List Rat)(L:List (List Rat)):List Rat:=applyR (turnQ L) r
def absQ(q:Rat):Rat:=if q<0 then -q else q
theorem z83(q:Rat):fz (absQ q)=(false,(fz q).2.1,(fz q).2.2):=by
 unfold absQ fz
 split
 ·next h=>
  have h2:q.num<0:=by
   rw[Rat.lt_iff]at h
   simpa using h
  rw[Rat.neg_num,Rat.neg_den,Int.natAbs_neg]
  have e:decide (-q.num<0)=false:=by simp;omega
  rw[e]
 ·next h=>
  have h2:¬ q.num<0:=by
   rw[Rat.lt_iff]at h
   simpa using h
  rw[decide_eq_false h2]
theorem z0r(q:Rat):sz (absQ q)=sz q:=by
 unfold absQ
 split
 ·exact zww q
 ·rfl
section
variable{T:Tbl}[CNat T][CProd T][CTwos T][CQuot T][CQuotD T][CWhole T][CCommon T][CFrac T][CFrac2 T]
theorem zye(x:Fz)(hx:fsz x≤10000):callF T 214 [efz x]=some (efz (fz (absQ (fv x)))):=by
 have c:=za9 (T:=T) x hx
 rw[z83,f214 _ rfl,b214]
 generalize fz (fv x)=X at *
 simp -implicitDefEqProofs[c]
end
theorem zz6(acc:List Rat)(r:List Fz):addP acc r=List.zipWith (· + ·) acc (r.map fv):=by
 unfold addP
 rw[List.zipWith_map_right]
theorem zz7(acc b:List Rat):addP acc (fzs b)=List.zipWith (· + ·) acc b:=by
 rw[zz6,zgp]
def sclR(c:Rat)(l:List Rat):List Rat:=l.map fun x=>c*x
theorem z4e(c:Rat)(l:List Fz):scl c l=fzs (sclR c (l.map fv)):=by
 rw[z3t]
 unfold sclR
 rw[List.map_map]
 rfl
theorem zz8(c:Rat)(l:List Rat):(sclR c l).length=l.length:=by simp[sclR]
theorem zw1{c:Rat}{l:List Rat}{B C:Nat}(hc:sz c≤C)(hl:∀q∈l,sz q≤B):∀q∈sclR c l,sz q≤C+B:=by
 intro q hq
 obtain⟨x,hx,rfl⟩:=List.mem_map.1 hq
 have h1:=zfw c x
 have h2:=hl x hx
 omega
def addR(a b:List Rat):List Rat:=List.zipWith (· + ·) a b
theorem z4f{a b:List Rat}{A B:Nat}(ha:∀q∈a,sz q≤A)(hb:∀q∈b,sz q≤B):∀q∈addR a b,sz q≤A+B+1:=by
 intro q hq
 obtain⟨i,hi,rfl⟩:=List.getElem_of_mem hq
 simp only[addR,List.length_zipWith]at hi
 simp only[addR,List.getElem_zipWith]
 have h1:=zei (a[i]'(by omega)) (b[i]'(by omega))
 have h2:=ha _ (List.getElem_mem (show i<a.length by omega))
 have h3:=hb _ (List.getElem_mem (show i<b.length by omega))
 omega
def maxStep(b x:Rat):Rat:=if b<absQ x then absQ x else b
def normR(l:List Rat):Rat:=l.foldl maxStep 0
theorem zsl{b x:Rat}{S:Nat}(h1:sz b≤S)(h2:sz x≤S):sz (maxStep b x)≤S:=by
 unfold maxStep
 split
 ·rw[z0r];exact h2
 ·exact h1
theorem zlb{S:Nat}(hS:1≤S):∀(l:List Rat) (b:Rat),sz b≤S→(∀x∈l,sz x≤S)→sz (l.foldl maxStep b)≤S
 | [],_,h,_=>h
 | x::l,b,h,hl=>zlb hS l _ (zsl h (hl x List.mem_cons_self)) fun y hy=>hl y (List.mem_cons_of_mem _ hy)
def mixR:List (Rat×List Rat)→List Rat→List Rat
 | [],acc=>acc
 | p::l,acc=>mixR l (addR acc (sclR p.1 p.2))
def sqC:List UInt32→Nat
 | []=>0
 | x::r=>4294967296*(x.toNat*val r)+4294967296*4294967296*sqC r
def sqD:List UInt32→Nat
 | []=>0
 | x::r=>x.toNat*x.toNat+4294967296*4294967296*sqD r
section
variable{T:Tbl}[CLimb T][CNat T][CProd T][CTwos T][CPow T]
theorem zp1(a:List UInt32)(ha:a.length≤1000000):callF T 356 [.sl (u32s a) .an]=some (.i .i64 (blen (val a))):=by
 have h1:=zbq (T:=T) a (by omega)
 have hl:=zad a
 have hv:val (ofN (val a))=val a:=zah _
 rw[f356 _ rfl,b356]
 by_cases h0:val a=0
 ·have e:ofN (val a)=[]:=zbf.2 h0
  have eb:blen (val a)=0:=by rw[h0];rfl
  rw[e]at h1
  rw[eb]
  simp -implicitDefEqProofs[h1]
 ·have hne:ofN (val a)≠[]:=fun h=>h0 (zbf.1 h)
  obtain⟨B,x,hB⟩:∃B x,ofN (val a)=B++[x]:=⟨_,_,(List.dropLast_concat_getLast hne).symm⟩
  have hx0:x.toNat≠0:=by
   intro hx
   have e1:val (ofN (val a))=val B:=by
    rw[hB,zao]
    simp[hx]
   have e2:ofN (val B)=ofN (val a):=by rw[←e1,zah]
   have e3:=zad B
   rw[e2,hB]at e3
   simp at e3
   omega
  have hlog:blen (val a)=32*B.length+blen x.toNat:=by
   have hdiv:val a/2^(32*B.length)=x.toNat:=by
    have e1:val a=val B+4294967296^B.length*x.toNat:=by
     rw[←hv,hB,zao]
     simp
    have e2:2^(32*B.length)=4294967296^B.length:=by
     rw[Nat.pow_mul]
    have e3:=zbd B
    rw[e2,e1,Nat.add_mul_div_left _ _ (by omega),Nat.div_eq_of_lt e3,Nat.zero_add]
   have:=zj3 (n:=val a) (s:=32*B.length) (by rw[hdiv];exact hx0)
   rw[hdiv]at this
   exact this
  have hbl:B.length+1≤1000000:=by
   have:=congrArg List.length hB
   simp at this
   omega
  have hL:=zpy (T:=T) x
  have hb32:blen x.toNat≤32:=by
   have hx:=zaq x
   unfold blen
   split
   ·omega
   ·have:=(Nat.log2_lt (n:=x.toNat) (k:=32) (by assumption)).2 (by omega)
    omega
  rw[hB]at h1
  rw[hlog]
  have w2:IntKind.wrap .i64 (32*(B.length:Int))=32*(B.length:Int):=zac _ (by omega)
  have w3:IntKind.wrap .i64 (32*(B.length:Int)+(blen x.toNat:Int))=32*(B.length:Int)+(blen x.toNat:Int):=zac _ (by omega)
  have w4:IntKind.wrap .i64 (B.length:Int)=B.length:=zac _ (by omega)
  have n1:¬ (B.length:Int)+1=0:=by omega
  have n2:(B.length:Int)<(B.length:Int)+1:=by omega
  simp -implicitDefEqProofs[h1,hL,w2,w3,w4,n1,n2]
def stSqA(a X:List UInt32)(i:Nat):St:=
 ⟨[(0,.sl (u32s a) .an),(3,.bs (.loc 14) 1 1 0 (2*a.length+1)),(15,.sl (u32s a) .an),(16,.i .i64 a.length),(17,.i .i64 i)],[(.loc 14,⟨1,.own,1,u32s (X++List.replicate (a.length+1-i) 0)⟩)],3⟩
def stSqD(a X:List UInt32)(U:List (List AV))(i:Nat):St:=
 ⟨[(6,.sl U .an),(7,.bs (.loc 38) 1 1 0 (2*a.length)),(39,.sl (u32s a) .an),(40,.i .i64 a.length),(41,.i .i64 i)],[(.loc 38,⟨1,.own,1,u32s (X++List.replicate (2*a.length-2*i) 0)⟩)],3⟩
end
section
variable{T:Tbl}[CRef02 T][CRef04 T][CRef05 T][CRef07 T][CRef06 T][CRef08 T][CRef09 T][CRef11 T][CRef12 T]
def stR12(m:List (List Fz))(i:Nat):St:=⟨[(0,.sl (matF m) .an),(3,.i .i64 i)],[],2⟩
def stN12(m:List (List Fz))(i:Nat):St:=⟨[(0,.sl (matF m) .an),(3,.bs (.loc 3) 1 1 0 i),(4,.i .i64 i)],[((.loc 3),⟨1,.own,1,matF (fzM (valM (m.take i)))⟩)],3⟩
def stS12(a b:List (List Fz))(i:Nat):St:=⟨[(0,.sl (matF a) .an),(1,.sl (matF b) .an),(5,.i .i64 i)],[],2⟩
def stI12(n:Int)(k:Nat)(i:Nat):St:=⟨[(0,.i .i64 n),(3,.bs (.loc 3) 1 1 0 i),(4,.i .i64 i)],[((.loc 3),⟨1,.own,1,matF (idQ k i)⟩)],3⟩
def stT12i(L:List (List Rat))(R:List (List Fz))(j:Nat)(i:Nat):St:=⟨[(0,.sl (matF (fzM L)) .an),(3,.bs (.loc 3) 1 1 0 j),(4,.i .i64 j),(5,.bs (.loc 5) 2 3 0 i),(6,.i .i64 i)],[(.loc 3,⟨1,.own,1,matF R⟩),((.loc 5),⟨2,.own,3,rowF (fzs (colQ (L.take i) j))⟩)],4⟩
def stT12o(L:List (List Rat))(i:Nat):St:=⟨[(0,.sl (matF (fzM L)) .an),(3,.bs (.loc 3) 1 1 0 i),(4,.i .i64 i)],[((.loc 3),⟨1,.own,1,matF (fzM ((List.range i).map (colQ L)))⟩)],3⟩
def stA12(L:List (List Rat))(c:List Rat)(i:Nat):St:=⟨[(0,.sl (matF (fzM L)) .an),(1,.sl (rowF (fzs c)) .an),(5,.bs (.loc 5) 1 3 0 i),(6,.i .i64 i)],[((.loc 5),⟨1,.own,3,rowF (fzs (applyR (L.take i) c))⟩)],3⟩
def longM(m:List (List Fz))(many words:Nat):Bool:=decide (many<m.length) || m.any fun r=>longB r many words
def stL12(m:List (List Fz))(many words:Nat)(i:Nat):St:=⟨[(0,.sl (matF m) .an),(1,.i .i64 many),(2,.i .i64 words),(7,.i .i64 i)],[],2⟩
end
theorem z89{l:List Rat}{B:Nat}(h:∀q∈l,sz q≤B):∀x∈fzs l,fsz x≤B:=by
 intro x hx
 obtain⟨q,hq,rfl⟩:=List.mem_map.1 hx
 exact h q hq
theorem zol{l:List Fz}{B:Nat}(hB:1≤B)(h:∀x∈l,fsz x≤B):∀q∈l.map fv,sz q≤B:=by
 intro q hq
 obtain⟨x,hx,rfl⟩:=List.mem_map.1 hq
 exact zba (h x hx) hB
section
variable{T:Tbl}[CNat T][CProd T][CTwos T][CQuot T][CQuotD T][CText T][CWhole T][CCommon T][CFrac T][CJoin T][CRow T][CGrid T][CRef02 T][CRef04 T][CRef05 T][CRef07 T][CRef06 T][CRef08 T][CRef09 T][CRef11 T][CRef12 T][CLaw09 T][CLaw11 T][CLaw12 T]
def stTo12(m:List (List Fz))(i:Nat):St:=⟨[(0,.sl (matF m) .an),(3,.bs (.loc 3) 1 1 0 i),(4,.i .i64 i)],[((.loc 3),⟨1,.own,1,matF (m.take i)⟩)],3⟩
theorem zu5(m:List (List Fz))(hl:m.length≤1000000)(hw:∀r∈m,r.length≤1000000) :
  loopN T 0 0 (.norm false [3]) l308_0 (stTo12 m 0)=some (.n,⟨[(3,.bs (.loc 3) 1 1 0 (m.length))],[((.loc 3),⟨1,.own,1,matF (m.take (m.length))⟩)],3⟩):=by
 refine zak (stTo12 m) (m.length) _ (fun i hi=>?_) ?_
 ·have hws:=za5 hi (by omega)
  have hb:i≤4294967295:=by omega
  have hn:=zdx (T:=T) (m[i]'hi) (Nat.le_trans (hw _ (List.getElem_mem hi)) (by decide))
  have e:=zie m hi
  have hml:(m.take i).length=i:=by grind
  have hp:=zfs hml (m[i]'hi)
  unfold stTo12
  simp -implicitDefEqProofs[l308_0,hi,hws,hb,hp,hml,hn]
 ·unfold stTo12
  rw[List.take_of_length_le (Nat.le_refl _)]
  constructor<;>simp -implicitDefEqProofs[l308_0]
theorem zyp(m:List (List Fz))(hl:m.length≤1000000)(hw:∀r∈m,r.length≤1000000):callF T 308 [.sl (matF m) .an]=some (.sl (matF m) .an):=by
 have h:=zu5 (T:=T) m hl hw
 unfold stTo12 at h
 rw[List.take_zero,List.take_of_length_le (Nat.le_refl _)]at h
 simp only[zqf,Int.natCast_zero]at h
 have ht:List.take m.length m=m:=List.take_of_length_le (Nat.le_refl _)
 rw[f308 _ rfl,b308]
 simp -implicitDefEqProofs[h,ht]
def stI12s(a b:List (List Fz))(i:Nat):St:=⟨[(0,.sl (matF a) .an),(1,.sl (matF b) .an),(5,.i .i64 i)],[],2⟩
end
class CPoly (T:Tbl):Prop where
def tlen(l:List Rat):Nat→Nat
 | 0=>0
 | n+1=>if l.getD n 0=0 then tlen l n else n+1
def trimR(l:List Rat):List Rat:=l.take (tlen l l.length)
theorem zij(M:List Fz):Option.all (fun r:List AV=>decide (r.length=3)) (rowF M).head? = true:=by cases M<;>rfl
theorem zm5{k:Int}(h1:-100≤k)(h2:k≤100):sz (k:Rat)≤1:=by
 unfold sz
 rw[Rat.num_intCast,Rat.den_intCast,zfa]
 exact Nat.max_le.2 ⟨zat (by omega),Nat.le_refl _⟩
section
variable{T:Tbl}[CNat T][CProd T][CTwos T][CQuot T][CQuotD T][CText T][CWhole T][CCommon T][CFrac T][CJoin T][CRow T][CPoly T]
def evlR:List Rat→Rat→Rat
 | [],_=>0
 | a::l,x=>evlR l x*x+a
def dif(l:List Rat):List Rat:=(List.range (l.length-1)).map fun(i:Nat)=>(((i:Int)+1:Int):Rat)*l.getD (i+1) 0
def stDf(l:List Fz)(i:Nat):St:=⟨[(0,.sl (rowF l) .an),(3,.bs (.loc 3) 1 3 0 i),(4,.i .i64 ((i:Int)+1))],[((.loc 3),⟨1,.own,3,rowF (fzs ((dif (l.map fv)).take i))⟩)],3⟩
end
def sizF(x:Fz):Nat:=blen (val x.2.1)+blen (val x.2.2)
def sizL(l:List Fz):Nat:=l.foldl (fun n x=>max n (sizF x)) 0
theorem zp3{x k:Nat}(h:(ofN x).length≤k):blen x≤32*k:=by
 unfold blen
 split
 ·omega
 ·next h0=>
  have h1:=zbd (ofN x)
  rw[zah]at h1
  have h2:4294967296^(ofN x).length≤4294967296^k:=Nat.pow_le_pow_right (by decide) h
  have h3:(4294967296:Nat)^k=2^(32*k):=by rw[Nat.pow_mul]
  have:=(Nat.log2_lt (n:=x) (k:=32*k) h0).2 (by omega)
  omega
theorem zr9{α β:Type}(f:β→α→β)(b:β)(l:List α){i:Nat}(h:i<l.length):(l.take (i+1)).foldl f b=f ((l.take i).foldl f b) (l[i]'h):=by
 grind[List.take_succ_eq_append_getElem]
section
variable{T:Tbl}[CLimb T][CNat T][CProd T][CTwos T][CQuot T][CQuotD T][CText T][CWhole T][CCommon T][CFrac T][CFrac2 T][CFrac5 T][CPow T][CJoin T][CRow T][CRow5 T]
theorem zsa(a b:List Fz)(ha:a.length≤900)(hab:b.length=a.length){B:Nat}(hB:1≤B)(hB2:B≤100)(h1:∀x∈a,fsz x≤B)(h2:∀x∈b,fsz x≤B) :
  callF T 268 [.sl (rowF a) .an,.sl (rowF b) .an]=some (.tup [.sl (rowF (fzs (addR (a.map fv) (sclR ((-1:Int):Rat) (b.map fv))))) .an,.b true]):=by
 have c1:=zib (T:=T) (-1) (by decide) (by decide)
 have sm:sz ((-1:Int):Rat)≤1:=zm5 (by decide) (by decide)
 have c2:=zef (T:=T) (fz ((-1:Int):Rat)) (by rw[zas];omega) b (by omega) (fun x hx=>by grind)
 rw[zbt,z4e]at c2
 have hsl:(fzs (sclR ((-1:Int):Rat) (b.map fv))).length=a.length:=by rw[zaj,zz8,List.length_map,hab]
 have hss:∀x∈fzs (sclR ((-1:Int):Rat) (b.map fv)),fsz x≤B+1:=z89 fun q hq=>by
  have:=zw1 (c:=((-1:Int):Rat)) (C:=1) sm (zol hB h2) q hq
  omega
 have c3:=zv4 (T:=T) a [fzs (sclR ((-1:Int):Rat) (b.map fv))] (by omega) (by simp) (B:=B+1) (fun x hx=>by grind) (by
  grind) (by omega) (by grind) (by
  grind)
 have e:List.foldl addP (a.map fv) [fzs (sclR ((-1:Int):Rat) (b.map fv))]=addR (a.map fv) (sclR ((-1:Int):Rat) (b.map fv)):=by
  exact zz7 _ _
 rw[e]at c3
 have rm:matF [a,fzs (sclR ((-1:Int):Rat) (b.map fv))]=[[.sl (rowF a) .an],[.sl (rowF (fzs (sclR ((-1:Int):Rat) (b.map fv)))) .an]]:=rfl
 rw[rm]at c3
 rw[f268 _ rfl,b268]
 generalize fzs (sclR ((-1:Int):Rat) (b.map fv))=S at *
 generalize fz ((-1:Int):Rat)=M at *
 simp -implicitDefEqProofs[c1,c2,c3]
def bestI(b c:Rat)(i:Nat):Rat:=if i=0 then 0 else if i=1 then b else (if b<c then c else b)
def stMx(b c:Rat)(i:Nat):St:=⟨[(2,.ptr (.loc 2) 1 3 0 0),(3,.ptr (.loc 3) 2 3 0 0),(7,.sl [celF (fz b),celF (fz c)] .an),(8,.i .i64 2),(9,.i .i64 i)],
 [(.loc 2,⟨1,.str,3,[nocell]⟩),(.loc 3,⟨2,.str,3,[celF (fz (bestI b c i))]⟩)],4⟩
theorem zv5(b c:Rat)(hb:sz b≤900)(hc:sz c≤900):callF T 221 [.sl [celF (fz b),celF (fz c)] .an]=some (efz (fz (if b<c then c else b))):=by
 have c0:=zes (T:=T)
 have n1:=za9 (T:=T) (fz b) (by rw[zas];omega)
 have n2:=za9 (T:=T) (fz c) (by rw[zas];omega)
 rw[zbt]at n1 n2
 have cm:=zya (T:=T) (fz c) (fz b) (by rw[zas];omega) (by rw[zas];omega)
 rw[zbt,zbt]at cm
 have hloop:loopN T 0 0 (.norm false [2,3]) l221_0 (stMx b c 0)=some (.n,⟨[(2,.ptr (.loc 2) 1 3 0 0),(3,.ptr (.loc 3) 2 3 0 0)],[(.loc 2,⟨1,.str,3,[nocell]⟩),(.loc 3,⟨2,.str,3,[celF (fz (if b<c then c else b))]⟩)],4⟩):=by
  refine zak (stMx b c) 2 _ (fun i hi=>?_) ?_
  ·match i,hi with
   | 0,_=>
    have e0:bestI b c 0=0:=rfl
    have e1:bestI b c 1=b:=rfl
    unfold stMx
    rw[e0,e1]
    simp -implicitDefEqProofs[l221_0,n1]
   | 1,_=>
    have e1:bestI b c 1=b:=rfl
    have e2:bestI b c 2=if b<c then c else b:=rfl
    unfold stMx
    rw[e1,e2]
    by_cases h:b<c
    ·have hp:0<sgQ (c-b):=zk9.2 (by grind)
     rw[if_pos h]
     simp -implicitDefEqProofs[l221_0,n2,cm,hp]
    ·have hp:¬ 0<sgQ (c-b):=fun e=>h (by have:=zk9.1 e;grind)
     rw[if_neg h]
     simp -implicitDefEqProofs[l221_0,cm,hp]
  ·have e2:bestI b c 2=if b<c then c else b:=rfl
   unfold stMx
   rw[e2]
   constructor<;>simp -implicitDefEqProofs[l221_0]
 have e0:bestI b c 0=0:=rfl
 unfold stMx at hloop
 rw[e0]at hloop
 simp only[Int.natCast_zero]at hloop
 rw[f221 _ rfl,b221]
 simp -implicitDefEqProofs[c0,hloop]
def stRn(l:List Fz)(i:Nat):St:=⟨[(2,.ptr (.loc 2) 1 3 0 0),(3,.ptr (.loc 3) 2 3 0 0),(7,.sl (rowF l) .an),(8,.i .i64 l.length),(9,.i .i64 i)],
 [(.loc 2,⟨1,.str,3,[nocell]⟩),(.loc 3,⟨2,.str,3,[celF (fz (normR ((l.map fv).take i)))]⟩)],4⟩
theorem zv6(l:List Fz)(hl:l.length≤1000)(hw:∀x∈l,fsz x≤900):callF T 272 [.sl (rowF l) .an]=some (efz (fz (normR (l.map fv)))):=by
 have c0:=zes (T:=T)
 have hloop:loopN T 0 0 (.norm false [2,3]) l272_0 (stRn l 0)=some (.n,⟨[(2,.ptr (.loc 2) 1 3 0 0),(3,.ptr (.loc 3) 2 3 0 0)],[(.loc 2,⟨1,.str,3,[nocell]⟩),(.loc 3,⟨2,.str,3,[celF (fz (normR (l.map fv)))]⟩)],4⟩):=by
  refine zak (stRn l) l.length _ (fun i hi=>?_) ?_
  ·have hws:=za5 hi (by omega)
   have hil:(i:Int)<l.length:=by omega
   have zx:=hw _ (List.getElem_mem hi)
   have ca:=zye (T:=T) (l[i]'hi) (by omega)
   have zn:sz (normR ((l.map fv).take i))≤900:=zlb (by decide) _ 0 (by rw[zgl];decide) fun x hx=>by
    obtain⟨y,hy,rfl⟩:=List.mem_map.1 (List.mem_of_mem_take hx)
    exact zba (hw y hy) (by decide)
   have za:sz (absQ (fv (l[i]'hi)))≤900:=by rw[z0r];exact zba zx (by decide)
   have cm:=zv5 (T:=T) (normR ((l.map fv).take i)) (absQ (fv (l[i]'hi))) zn za
   have e:normR ((l.map fv).take (i+1))=(if normR ((l.map fv).take i)<absQ (fv (l[i]'hi)) then absQ (fv (l[i]'hi)) else normR ((l.map fv).take i)):=by
    grind[normR,zr9,maxStep]
   rw[←e]at cm
   unfold stRn
   simp -implicitDefEqProofs[l272_0,hi,hil,hws,ca,cm]
  ·have e:(l.map fv).take l.length=l.map fv:=List.take_of_length_le (by simp)
   unfold stRn
   rw[e]
   constructor<;>simp -implicitDefEqProofs[l272_0]
 unfold stRn at hloop
 have e0:normR ((l.map fv).take 0)=0:=rfl
 rw[e0]at hloop
 simp only[Int.natCast_zero]at hloop
 rw[f272 _ rfl,b272]
 simp -implicitDefEqProofs[c0,hloop]
def stRs(l:List Fz)(i:Nat):St:=⟨[(3,.i .i64 (sizL (l.take i))),(6,.sl (rowF l) .an),(7,.i .i64 l.length),(8,.i .i64 i)],[],2⟩
end
section
variable{T:Tbl}[CRef02 T][CRef04 T][CRef05 T][CRef07 T][CRef06 T][CRef08 T][CRef09 T][CRef11 T][CRef5 T]
def stSc(c:Rat)(p:List Rat)(i:Nat):St:=⟨[(1,.sl (rowF (fzs p)) .an),(2,.ptr (.loc 2) 1 3 0 0),(5,.bs (.loc 5) 2 3 0 i),(6,.i .i64 i)],
 [(.loc 2,⟨1,.str,3,[celF (fz c)]⟩),(.loc 5,⟨2,.own,3,rowF (fzs ((sclR c p).take i))⟩)],4⟩
def stRx(p:List Rat)(i:Nat):St:=⟨[(0,.sl (rowF (fzs p)) .an),(2,.ptr (.loc 2) 1 3 0 0),(3,.ptr (.loc 3) 2 3 0 0),(4,.i .i64 i)],
 [(.loc 2,⟨1,.str,3,[nocell]⟩),(.loc 3,⟨2,.str,3,[celF (fz (normR (p.take i)))]⟩)],4⟩
end
structure Ins where
 op:Int
 a:Int
 b:Int
 n:Fz
abbrev celI(i:Ins):List AV:=[.i .i64 i.op,.i .i64 i.a,.i .i64 i.b,.b i.n.1,.sl (u32s i.n.2.1) .an,.sl (u32s i.n.2.2) .an]
def rowI(l:List Ins):List (List AV):=l.map celI
@[simp] theorem z4g(l:List Ins):(rowI l).length=l.length:=by simp[rowI]
@[simp] theorem z4h(l:List Ins):wkL (rowI l)=rowI l:=by rw[zbs];simp[rowI,wkR,wkA]
@[simp] theorem zadb(l:List Ins)(i:Nat)(h:i<(rowI l).length):(rowI l)[i]=celI (l[i]'(by simpa using h)):=by simp[rowI]
theorem zw4(l:List Ins)(x:Ins):rowI l++[celI x]=rowI (l++[x]):=by simp[rowI]
@[simp] theorem z90(l:List Ins)(n:Nat):(rowI l).take n=rowI (l.take n):=by simp[rowI]
@[simp] theorem z0b:rowI []=[]:=rfl
theorem zw5{m:List Ins}{n:Nat}(h:m.length=n)(x:Ins):wkL (rowI (List.take n m)++[celI x])=rowI (m++[x]):=by
 rw[List.take_of_length_le (by omega),zw4,z4h]
structure Tp where
 code:List Ins
 outs:List Int
 dim:Int
 par:Int
abbrev etp(t:Tp):AV:=.agg [.sl (rowI t.code) .an,.sl (ints t.outs) .an,.i .i64 t.dim,.i .i64 t.par]
def rightF(x:Fz):Bool:=decide (x=fz (fv x))
def blankF(x:Fz):Bool:=!x.1&&x.2.1.isEmpty&&x.2.2.isEmpty
def readsI(i:Ins):List Int:=if i.op=6∨i.op=11 then [i.a] else if 7≤i.op∧i.op≤10 then [i.a,i.b] else []
def belowB(i m:Int):Bool:=decide (0≤i)&&decide (i<m)
def mayI(dim par p:Int)(i:Ins):Bool:=
 if i.op=1 then decide (i.a=0)&&decide (i.b=0)&&rightF i.n
 else blankF i.n&&(readsI i).all (fun r=>belowB r p) &&
  (if i.op=2 then decide (i.a=0)&&decide (i.b=0)
   else if i.op=3 then belowB i.a dim&&decide (i.b=0)
   else if i.op=4 then belowB i.a par&&decide (i.b=0)
   else if i.op=6 then decide (i.b=0)
   else if i.op=11 then decide (-8≤i.b)&&decide (i.b≤8)
   else decide ((readsI i).length=2))
def firstI(dim par:Int):Nat→List Ins→Int
 | _,[]=>-1
 | p,i::r=>if mayI dim par p i then firstI dim par (p+1) r else p
def wholeT(t:Tp):Bool:=belowB (t.dim-1) 6&&belowB t.par 7&&decide ((t.outs.length:Int)=t.dim)&&decide (t.code.length≤300)
def wrongT(t:Tp):Int:=
 if wholeT t=false then -2 else if firstI t.dim t.par 0 t.code≠-1 then firstI t.dim t.par 0 t.code
 else if (t.outs.all fun o=>belowB o t.code.length)=false then t.code.length else -1
def okT(t:Tp):Bool:=decide (wrongT t=-1)
theorem zkc(dim par:Int):∀(l:List Ins) (p:Nat),firstI dim par p l=-1↔∀(k:Nat) (i:Ins),l[k]? = some i→mayI dim par (p+k:Nat) i=true
 | [],p=>by simp[firstI]
 | x::l,p=>by
  have ih:=zkc dim par l (p+1)
  unfold firstI
  by_cases h:mayI dim par p x=true
  ·rw[if_pos h,ih]
   constructor
   ·intro H k i hk
    cases k with
    | zero=>simp only[List.getElem?_cons_zero,Option.some.injEq]at hk;subst hk;simpa using h
    | succ k=>have:=H k i (by simpa using hk);rwa [show p+1+k=p+(k+1) by omega]at this
   ·intro H k i hk
    have:=H (k+1) i (by simpa using hk)
    rwa [show p+(k+1)=p+1+k by omega]at this
  ·rw[if_neg h]
   constructor
   ·intro H;omega
   ·intro H;exact absurd (by simpa using H 0 x rfl) h
structure OkTp (t:Tp):Prop where
 d1:1≤t.dim
 d2:t.dim≤6
 p1:0≤t.par
 p2:t.par≤6
 ol:(t.outs.length:Int)=t.dim
 cl:t.code.length≤300
 may:∀(k:Nat) (i:Ins),t.code[k]? = some i→mayI t.dim t.par k i=true
 outs:∀o∈t.outs,0≤o∧o<t.code.length
theorem zcr(t:Tp):okT t=true↔OkTp t:=by
 unfold okT wrongT
 rw[decide_eq_true_eq]
 by_cases h1:wholeT t=false
 ·rw[if_pos h1]
  constructor
  ·intro h;omega
  ·intro h
   exfalso
   have:wholeT t=true:=by
    have:=h.d1;have:=h.d2;have:=h.p1;have:=h.p2
    simp only[wholeT,belowB,Bool.and_eq_true,decide_eq_true_eq]
    exact⟨⟨⟨⟨by omega,by omega⟩,by omega,by omega⟩,h.ol⟩,h.cl⟩
   rw[this]at h1;cases h1
 ·have hw:wholeT t=true:=by simpa using h1
  rw[if_neg h1]
  simp only[wholeT,belowB,Bool.and_eq_true,decide_eq_true_eq]at hw
  obtain⟨⟨⟨⟨a1,a2⟩,a3,a4⟩,a5⟩,a6⟩:=hw
  have hf:=zkc t.dim t.par t.code 0
  by_cases h2:firstI t.dim t.par 0 t.code≠-1
  ·rw[if_pos h2]
   constructor
   ·intro h;exact absurd h h2
   ·intro h;exact absurd (hf.2 fun k i hk=>by rw[Nat.zero_add];exact h.may k i hk) h2
  ·have h2':firstI t.dim t.par 0 t.code=-1:=by simpa using h2
   rw[if_neg h2]
   by_cases h3:(t.outs.all fun o=>belowB o t.code.length)=false
   ·rw[if_pos h3]
    constructor
    ·intro h;omega
    ·intro h
     exfalso
     have:(t.outs.all fun o=>belowB o t.code.length)=true:=List.all_eq_true.2 fun o ho=>by
      have:=h.outs o ho
      simp only[belowB,Bool.and_eq_true,decide_eq_true_eq]
      exact this
     rw[this]at h3;cases h3
   ·rw[if_neg h3]
    have h3':(t.outs.all fun o=>belowB o t.code.length)=true:=by simpa using h3
    refine⟨fun _=>⟨by omega,by omega,a3,by omega,a5,a6,fun k i hk=>by have:=hf.1 h2' k i hk;rwa [Nat.zero_add]at this,fun o ho=>?_⟩,fun _=>rfl⟩
    have:=List.all_eq_true.1 h3' o ho
    simpa only[belowB,Bool.and_eq_true,decide_eq_true_eq]using this
theorem zaig{dim par:Int}{p:Nat}{i:Ins}(h:mayI dim par p i=true)(ho:i.op=6∨i.op=11∨(7≤i.op∧i.op≤10)):0≤i.a∧i.a<p:=by
 unfold mayI at h
 rw[if_neg (by omega)]at h
 simp only[Bool.and_eq_true,List.all_eq_true]at h
 have:=h.1.2 i.a (by
  unfold readsI
  by_cases h1:i.op=6∨i.op=11
  ·rw[if_pos h1];simp
  ·rw[if_neg h1,if_pos (by omega)];simp)
 simpa only[belowB,Bool.and_eq_true,decide_eq_true_eq]using this
theorem zaih{dim par:Int}{p:Nat}{i:Ins}(h:mayI dim par p i=true)(ho:7≤i.op∧i.op≤10):0≤i.b∧i.b<p:=by
 unfold mayI at h
 rw[if_neg (by omega)]at h
 simp only[Bool.and_eq_true,List.all_eq_true]at h
 have:=h.1.2 i.b (by
  unfold readsI
  rw[if_neg (by omega),if_pos ho];simp)
 simpa only[belowB,Bool.and_eq_true,decide_eq_true_eq]using this
theorem z1e{dim par:Int}{p:Nat}{i:Ins}(h:mayI dim par p i=true):i.op=1∨i.op=2∨i.op=3∨i.op=4∨i.op=6∨i.op=7∨i.op=8∨i.op=9∨i.op=10∨i.op=11:=by
 unfold mayI at h
 by_cases h1:i.op=1
 ·exact .inl h1
 rw[if_neg h1]at h
 by_cases h2:i.op=2
 ·omega
 by_cases h3:i.op=3
 ·omega
 by_cases h4:i.op=4
 ·omega
 by_cases h6:i.op=6
 ·omega
 by_cases h11:i.op=11
 ·omega
 rw[if_neg h2,if_neg h3,if_neg h4,if_neg h6,if_neg h11]at h
 simp only[Bool.and_eq_true,decide_eq_true_eq]at h
 have h2':=h.2
 by_cases hr:7≤i.op∧i.op≤10
 ·omega
 ·have e:readsI i=[]:=by
   unfold readsI
   rw[if_neg (by omega),if_neg hr]
  rw[e]at h2'
  simp at h2'
theorem zaii{dim par:Int}{p:Nat}{i:Ins}(h:mayI dim par p i=true)(ho:i.op=3):0≤i.a∧i.a<dim:=by
 unfold mayI at h
 rw[if_neg (by omega),if_neg (by omega),if_pos ho]at h
 simp only[Bool.and_eq_true,decide_eq_true_eq,belowB]at h
 exact h.2.1
theorem zaij{dim par:Int}{p:Nat}{i:Ins}(h:mayI dim par p i=true)(ho:i.op=4):0≤i.a∧i.a<par:=by
 unfold mayI at h
 rw[if_neg (by omega),if_neg (by omega),if_neg (by omega),if_pos ho]at h
 simp only[Bool.and_eq_true,decide_eq_true_eq,belowB]at h
 exact h.2.1
theorem z91{dim par:Int}{p:Nat}{i:Ins}(h:mayI dim par p i=true)(ho:i.op=11):-8≤i.b∧i.b≤8:=by
 unfold mayI at h
 rw[if_neg (by omega),if_neg (by omega),if_neg (by omega),if_neg (by omega),if_neg (by omega),if_pos ho]at h
 simp only[Bool.and_eq_true,decide_eq_true_eq]at h
 exact h.2
structure Po where
 t:Rat
 y:List Rat
 p:List Rat
structure PoF where
 t:Fz
 y:List Fz
 p:List Fz
def PoF.v(x:PoF):Po:=⟨fv x.t,x.y.map fv,x.p.map fv⟩
def Po.f(x:Po):PoF:=⟨fz x.t,fzs x.y,fzs x.p⟩
abbrev ept(x:PoF):AV:=.agg [.b x.t.1,.sl (u32s x.t.2.1) .an,.sl (u32s x.t.2.2) .an,.sl (rowF x.y) .an,.sl (rowF x.p) .an]
def gI(l:List Rat)(i:Int):Rat:=l.getD i.toNat 0
def powZ(x:Rat)(e:Int):Rat:=x^e
def valI(P:Po)(D:List Rat)(i:Ins):Rat×Bool:=
 if i.op=1 then (fv i.n,true)
 else if i.op=3 then (gI P.y i.a,true)
 else if i.op=4 then (gI P.p i.a,true)
 else if i.op=6 then (-gI D i.a,true)
 else if i.op=7 then (gI D i.a+gI D i.b,true)
 else if i.op=8 then (gI D i.a-gI D i.b,true)
 else if i.op=9 then (gI D i.a*gI D i.b,true)
 else if i.op=10 then (gI D i.a/gI D i.b,decide (gI D i.b≠0))
 else if i.op=11 then (if i.b<0∧gI D i.a=0 then (0,false) else (powZ (gI D i.a) i.b,true))
 else (P.t,true)
def sizQ(q:Rat):Nat:=sizF (fz q)
def runR(lim:Nat)(P:Po):List Ins→List Rat→List Rat×Nat×Nat
 | [],D=>(D,0,0)
 | i::r,D=>if (valI P D i).2=false then ([],3,D.length) else if lim<sizQ (valI P D i).1 then ([],6,D.length) else runR lim P r (D++[(valI P D i).1])
theorem zdn(lim:Nat)(P:Po)(i:Ins)(r:List Ins)(D:List Rat):runR lim P (i::r) D=if (valI P D i).2=false then ([],3,D.length) else if lim<sizQ (valI P D i).1 then ([],6,D.length) else runR lim P r (D++[(valI P D i).1]):=rfl
theorem zi2(lim:Nat)(P:Po):∀(l:List Ins) (D:List Rat),(runR lim P l D).2.1=0→(runR lim P l D).2.2=0∧∃E,(runR lim P l D).1=D++E∧E.length=l.length
 | [],D,_=>⟨rfl,[],by simp[runR],rfl⟩
 | i::r,D,h=>by
  have ih:=zi2 lim P r (D++[(valI P D i).1])
  rw[zdn]at h ⊢
  by_cases h1:(valI P D i).2=false
  ·simp[h1]at h
  ·rw[if_neg h1]at h ⊢
   by_cases h2:lim<sizQ (valI P D i).1
   ·simp[h2]at h
   ·rw[if_neg h2]at h ⊢
    obtain⟨e1,E,e2,e3⟩:=ih h
    exact⟨e1,(valI P D i).1::E,by rw[e2];simp,by simp[e3]⟩
theorem zw6(lim:Nat)(P:Po):∀(l:List Ins) (D:List Rat),(runR lim P l D).2.1≠0→(runR lim P l D).1=[]∧D.length≤(runR lim P l D).2.2∧(runR lim P l D).2.2<D.length+l.length
 | [],D,h=>by simp[runR]at h
 | i::r,D,h=>by
  have ih:=zw6 lim P r (D++[(valI P D i).1])
  rw[zdn]at h ⊢
  by_cases h1:(valI P D i).2=false
  ·simp[h1]
  ·rw[if_neg h1]at h ⊢
   by_cases h2:lim<sizQ (valI P D i).1
   ·simp[h2]
   ·rw[if_neg h2]at h ⊢
    have:=ih h
    simp only[List.length_append,List.length_cons,List.length_nil]at this ⊢
    exact⟨this.1,by omega,by omega⟩
abbrev tyI:Ty:=.cons (.int .i64) (.cons (.int .i64) (.cons (.int .i64) (.cons tyF .nil)))
abbrev tyT:Ty:=.cons (.sl tyI) (.cons (.sl (.int .i64)) (.cons (.int .i64) (.cons (.int .i64) .nil)))
abbrev tyP:Ty:=.cons tyF (.cons (.sl tyF) (.cons (.sl tyF) .nil))
theorem z81{cs:List AV}(h:Ok tyI cs):∃x:Ins,wkR cs=celI x:=by
 obtain⟨c1,c1',rfl,⟨a,rfl,_⟩,c2,c2',rfl,⟨b,rfl,_⟩,c3,c3',rfl,⟨c,rfl,_⟩,c4,c4',rfl,h4,rfl⟩:=h
 obtain⟨x,e⟩:=zpq h4
 refine⟨⟨a,b,c,x⟩,?_⟩
 simp only[zer,e]
 rfl
theorem zpr:∀(els:List (List AV)),(∀r∈els,Ok tyI r)→∃l:List Ins,wkL els=rowI l
 | [],_=>⟨[],rfl⟩
 | r::els,h=>by
  obtain⟨l,hl⟩:=zpr els fun r hr=>h r (List.mem_cons_of_mem _ hr)
  obtain⟨x,hx⟩:=z81 (h r List.mem_cons_self)
  refine⟨x::l,?_⟩
  simp only[wkL,hx,hl]
  rfl
theorem zps:∀(els:List (List AV)),(∀r∈els,Ok (.int .i64) r)→∃l:List Int,wkL els=ints l
 | [],_=>⟨[],rfl⟩
 | r::els,h=>by
  obtain⟨l,hl⟩:=zps els fun r hr=>h r (List.mem_cons_of_mem _ hr)
  obtain⟨x,rfl,_⟩:=h r List.mem_cons_self
  refine⟨x::l,?_⟩
  simp only[wkL,hl]
  rfl
theorem z82{a:Int}(h:(Lit.int .i64 a).wf=true):-9223372036854775808≤a∧a<9223372036854775808:=by
 simp[Lit.wf,IntKind.min,IntKind.max,IntKind.signed,IntKind.bits]at h
 omega
section
variable{T:Tbl}[CJoin T][CLex T]
theorem zmy(c:UInt8):callF T 185 [u8 c.toNat]=some (.b (isD c)):=by
 rw[f185 _ rfl,b185]
 by_cases h1:48≤c.toNat
 ·simp -implicitDefEqProofs[isD,h1]
 ·simp -implicitDefEqProofs[isD,h1]
theorem zj1(c:UInt8):callF T 186 [u8 c.toNat]=some (.b (isL c)):=by
 rw[f186 _ rfl,b186]
 by_cases h1:97≤c.toNat<;>by_cases h2:c.toNat≤122<;>by_cases h3:65≤c.toNat<;>by_cases h4:c.toNat≤90<;>by_cases h5:c.toNat=95 <;>
  simp -implicitDefEqProofs[isL,h1,h2,h3,h4,h5]
theorem zyw(c:UInt8):callF T 187 [u8 c.toNat]=some (.b (isS c)):=by rw[p187,zsj]
theorem zyx(c:UInt8):callF T 177 [u8 c.toNat]=some (.i .i64 (kindN c)):=by
 have h1:=zmy (T:=T) c
 have h2:=zj1 (T:=T) c
 have h3:=zyw (T:=T) c
 rw[f177 _ rfl,b177]
 cases e1:isD c<;>cases e2:isL c<;>cases e3:isS c<;>simp -implicitDefEqProofs[kindN,h1,h2,h3,e1,e2,e3]
theorem zyy(k:Nat)(c:UInt8):callF T 188 [.i .i64 k,u8 c.toNat]=some (.b (moreN k c)):=by
 have h1:=zmy (T:=T) c
 have h2:=zj1 (T:=T) c
 rw[f188 _ rfl,b188]
 by_cases k1:k=1
 ·subst k1
  cases e1:isD c<;>cases e2:isL c<;>simp -implicitDefEqProofs[moreN,h1,e1,e2]
 ·have k1':¬ (k:Int)=1:=by omega
  by_cases k2:k=2
  ·subst k2
   cases e1:isD c<;>cases e2:isL c<;>simp -implicitDefEqProofs[moreN,h1,h2,e1,e2]
  ·have k2':¬ (k:Int)=2:=by omega
   simp -implicitDefEqProofs[moreN,k1,k2,k1',k2']
theorem zyz(k:Nat):callF T 179 [.i .i64 k]=some (.i .i64 (mostN k)):=by
 rw[f179 _ rfl,b179]
 by_cases k1:k=1
 ·subst k1
  simp -implicitDefEqProofs[mostN]
 ·have k1':¬ (k:Int)=1:=by omega
  by_cases k2:k=2
  ·subst k2
   simp -implicitDefEqProofs[mostN]
  ·have k2':¬ (k:Int)=2:=by omega
   simp -implicitDefEqProofs[mostN,k1,k2,k1',k2']
theorem zru(s:List UInt8)(hs:s.length≤1000000)(k F:Nat):∀n:Nat,(n≤s.length∧n+((s.drop n).takeWhile (moreN k)).length=F) →
  loopN T 0 0 (.norm false [5]) l178_0 ⟨[(0,.s s),(1,.i .i64 k),(5,.i .i64 n)],[],2⟩=some (.n,⟨[(5,.i .i64 F)],[],2⟩):=by
 refine zcv (fun n:Nat=>⟨[(0,.s s),(1,.i .i64 k),(5,.i .i64 n)],[],2⟩) _ (fun n=>s.length-n) _ ?_
 rintro n ⟨hn,hF⟩
 by_cases h0:n<s.length
 ·have hd:=List.drop_eq_getElem_cons h0
  have hgo:=zyy (T:=T) k (s[n]'h0)
  have hw:IntKind.wrap .i64 ((n:Int)+1)=((n+1:Nat):Int):=zac _ (by omega)
  by_cases hc:moreN k (s[n]'h0)=true
  ·left
   rw[hd,List.takeWhile_cons_of_pos hc]at hF
   refine⟨n+1,⟨h0,by grind⟩,by omega,?_,rfl⟩
   simp -implicitDefEqProofs[l178_0,h0,hgo,hc,hw]
  ·right
   rw[hd,List.takeWhile_cons_of_neg hc]at hF
   subst hF
   constructor<;>simp -implicitDefEqProofs[l178_0,h0,hgo,hc]
 ·right
  have:n=s.length:=by omega
  subst this
  rw[List.drop_length]at hF
  subst hF
  constructor<;>simp -implicitDefEqProofs[l178_0]
theorem zu7(c:UInt8)(r:List UInt8)(hs:r.length≤100000)(k:Nat):callF T 178 [.s (c::r),.i .i64 k]=some (.i .i64 (firstN k r)):=by
 have h:=zru (T:=T) (c::r) (by grind) k (firstN k r) 1 ⟨by simp,rfl⟩
 rw[f178 _ rfl,b178]
 simp_all
def wdR(w:Wd):List AV:=[.i .i64 w.1,.s w.2.1,.i .i64 w.2.2]
def rowsW(l:List Wd):List (List AV):=l.map wdR
def stScL(s:List UInt8)(i:Nat)(acc:List Wd):St:=
 ⟨[(0,.s s),(3,.ptr (.loc 3) 1 4 0 0),(4,.bs (.loc 4) 2 3 0 acc.length),(5,.i .i64 i)],[(.loc 3,⟨1,.str,4,[[.i .i64 0,.i .i64 0,.i .i64 0,.i .i64 0]]⟩),(.loc 4,⟨2,.own,3,rowsW acc⟩)],4⟩
def resSc:Except Nat (List Wd)→Option (Ex×St)
 | .ok ws=>some (.n,⟨[(3,.ptr (.loc 3) 1 4 0 0),(4,.bs (.loc 4) 2 3 0 ws.length)],[(.loc 3,⟨1,.str,4,[[.i .i64 0,.i .i64 0,.i .i64 0,.i .i64 0]]⟩),(.loc 4,⟨2,.own,3,rowsW ws⟩)],4⟩)
 | .error e=>some (.r,⟨[(2,.sl [] .an),(3,.ptr (.loc 3) 1 4 0 0)],[(.loc 3,⟨1,.str,4,[[.i .i64 1,.i .i64 0,.i .i64 0,.i .i64 e]]⟩)],3⟩)
def ansScan(r:Except Nat (List Wd)):AV:=
 match r with
 | .ok ws=>.tup [.sl (rowsW ws) .an,.agg [.i .i64 0,.i .i64 0,.i .i64 0,.i .i64 0]]
 | .error e=>.tup [.sl [] .an,.agg [.i .i64 1,.i .i64 0,.i .i64 0,.i .i64 e]]
def scanT(s:List UInt8):Except Nat (List Wd):=if 4000<s.length then .error 4000 else scanL (s.drop (skipC false s)) (skipC false s) []
def rightB(k:Int)(t:List UInt8):Bool:=
 match t with
 | []=>false
 | c::r=>decide (k≠0)&&decide ((kindN c:Int)=k)&&decide (firstN (kindN c) r=r.length+1)&&decide (r.length+1≤mostN (kindN c))
theorem zu8(k a:Int)(t:List UInt8)(ht:t.length≤100000):callF T 172 [.agg [.i .i64 k,.s t,.i .i64 a]]=some (.b (rightB k t)):=by
 rw[f172 _ rfl,b172]
 cases t with
 | nil=>simp -implicitDefEqProofs[rightB]
 | cons c r=>
  simp only[List.length_cons]at ht
  have hk:=zyx (T:=T) c
  have hf:=zu7 (T:=T) c r (by omega) (kindN c)
  have hm:=zyz (T:=T) (kindN c)
  by_cases h0:k=0
  ·simp -implicitDefEqProofs[rightB,h0]
  ·by_cases h1:(kindN c:Int)=k
   ·subst h1
    have h0':¬ kindN c=0:=by omega
    by_cases h2:firstN (kindN c) r=r.length+1
    ·by_cases h3:r.length+1≤mostN (kindN c)
     ·have h3':(r.length:Int)+1≤(mostN (kindN c):Nat):=by omega
      simp -implicitDefEqProofs[rightB,h0',hk,hf,hm,h2,h3,h3']
     ·have h3':¬ (r.length:Int)+1≤(mostN (kindN c):Nat):=by omega
      simp -implicitDefEqProofs[rightB,h0',hk,hf,hm,h2,h3,h3']
    ·have h2':¬ ((firstN (kindN c) r:Nat):Int)=(r.length:Int)+1:=by omega
     simp -implicitDefEqProofs[rightB,h0',hk,hf,h2,h2']
   ·simp -implicitDefEqProofs[rightB,h0,hk,h1]
abbrev Wz:=Int×List UInt8×Int
def wzR(w:Wz):List AV:=[.i .i64 w.1,.s w.2.1,.i .i64 w.2.2]
def rowsZ(l:List Wz):List (List AV):=l.map wzR
def stTe(l:List Wz)(i:Nat)(b:BId):St:=
 ⟨[(3,.bs (.loc 3) 1 1 0 i),(6,.sl (rowsZ l) .an),(7,.i .i64 l.length),(8,.i .i64 i)],[(.loc 3,⟨1,.own,1,rowsT ((l.take i).map (·.2.1))⟩)],3⟩
end
structure Tr where
 t:Fz
 w:Fz
 h:Fz
 e:Fz
 y:List Fz
 ok:Bool
abbrev celR(r:Tr):List AV:=[.b r.t.1,.sl (u32s r.t.2.1) .an,.sl (u32s r.t.2.2) .an,.b r.w.1,.sl (u32s r.w.2.1) .an,.sl (u32s r.w.2.2) .an,.b r.h.1,.sl (u32s r.h.2.1) .an,.sl (u32s r.h.2.2) .an,.b r.e.1,.sl (u32s r.e.2.1) .an,.sl (u32s r.e.2.2) .an,.sl (rowF r.y) .an,.b r.ok]
def rowTr(l:List Tr):List (List AV):=l.map celR
@[simp] theorem zej(l:List Tr):(rowTr l).length=l.length:=by simp[rowTr]
@[simp] theorem zfy(l:List Tr):wkL (rowTr l)=rowTr l:=by rw[zbs];simp[rowTr,wkR,wkA]
@[simp] theorem z9y(l:List Tr)(i:Nat)(h:i<(rowTr l).length):(rowTr l)[i]=celR (l[i]'(by simpa using h)):=by simp[rowTr]
theorem zka(l:List Tr)(x:Tr):rowTr l++[celR x]=rowTr (l++[x]):=by simp[rowTr]
@[simp] theorem z6a(l:List Tr)(n:Nat):(rowTr l).take n=rowTr (l.take n):=by simp[rowTr]
@[simp] theorem zwx:rowTr []=[]:=rfl
structure Hs where
 l:List Tr
 t:Fz
 y:List Fz
abbrev ehs(h:Hs):AV:=.agg [.sl (rowTr h.l) .an,.b h.t.1,.sl (u32s h.t.2.1) .an,.sl (u32s h.t.2.2) .an,.sl (rowF h.y) .an]
def rightsB(l:List Fz):Bool:=l.all rightF
def Tr.nums(r:Tr):List Fz:=[r.t,r.w,r.h,r.e]
def plainH(h:Hs):Bool:=(h.l.all fun r=>rightsB r.nums&&rightsB r.y)&&(rightF h.t&&rightsB h.y)
def lensH(h:Hs):Bool:=(h.l.all fun r=>decide (r.y.length=h.y.length))&&(decide (1≤h.y.length)&&decide (h.y.length≤6))
def sizeR(r:Tr):Bool:=decide (0<fv r.w)&&decide (0<fv r.h)&&decide (fv r.h≤fv r.w)&&decide (0≤fv r.e)
def sizesH(h:Hs):Bool:=h.l.all sizeR
def follB(r:Tr)(at_:Fz)(y:List Fz):Bool:=if r.ok then decide (fv at_=fv r.t+fv r.h) else decide (fv at_=fv r.t)&&decide (y.map fv=r.y.map fv)
def nextH(l:List Tr)(t:Fz)(y:List Fz):Fz×List Fz:=match l with | []=>(t,y) | r::_=>(r.t,r.y)
def chainL:List Tr→Fz→List Fz→Bool
 | [],_,_=>true
 | r::l,t,y=>follB r (nextH l t y).1 (nextH l t y).2&&chainL l t y
def chainH(h:Hs):Bool:=chainL h.l h.t h.y
def wrongH(h:Hs):Int:=if !plainH h then 1 else if !lensH h then 2 else if 200<h.l.length then 3 else if !sizesH h then 4 else if !chainH h then 5 else 0
def rightH(h:Hs):Bool:=decide (wrongH h=0)
def nrmR(r:Tr):Tr:=⟨fz (fv r.t),fz (fv r.w),fz (fv r.h),fz (fv r.e),nrm r.y,r.ok⟩
def accH(l:List Tr):List Tr:=(l.filter (·.ok)).map nrmR
def nodeT(h:Hs):List Fz:=(accH h.l).map (·.t)++[fz (fv h.t)]
def nodeY(h:Hs):List (List Fz):=(accH h.l).map (·.y)++[nrm h.y]
def szsH(h:Hs):List Fz:=(accH h.l).map (·.h)
structure HsS (h:Hs) (B:Nat):Prop where
 len:h.l.length≤1000
 t:fsz h.t≤B
 y:∀x∈h.y,fsz x≤B
 yl:h.y.length≤1000
 rt:∀r∈h.l,∀x∈r.nums,fsz x≤B
 ry:∀r∈h.l,∀x∈r.y,fsz x≤B
 rl:∀r∈h.l,r.y.length≤1000
theorem zok:∀(a b:List UInt32),a.length=b.length→val a=val b→a=b
 | [],[],_,_=>rfl
 | x::a,y::b,hl,hv=>by
  simp only[zaw]at hv
  have hx:=zaq x
  have hy:=zaq y
  have h1:x.toNat=y.toNat:=by omega
  have h2:val a=val b:=by omega
  rw[UInt32.toNat_inj.1 h1,zok a b (by simpa using hl) h2]
 | [],_::_,hl,_=>by simp at hl
 | _::_,[],hl,_=>by simp at hl
theorem zfr{x y:Nat}:cmpN x y=0↔x=y:=by
 grind[cmpN]
theorem zuu(z:Int):∀t:Nat,sg (decide (z<0)&&decide (t%2=1)) (z.natAbs^t)=z^t
 | 0=>by simp[sg]
 | t+1=>by
  have ih:=zuu z t
  have hz:sg (decide (z<0)) z.natAbs=z:=by
   unfold sg
   by_cases h:z<0
   ·simp only[h,decide_true,if_true];omega
   ·simp only[h,decide_false,Bool.false_eq_true,if_false];omega
  have hm:=z00 (decide (z<0)&&decide (t%2=1)) (decide (z<0)) (z.natAbs^t) z.natAbs
  rw[ih,hz]at hm
  rw[Int.pow_succ,←hm,Nat.pow_succ]
  rcases Nat.mod_two_eq_zero_or_one t with h | h
  ·have h2:(t+1)%2=1:=by omega
   rw[h,h2]
   cases decide (z<0)<;>rfl
  ·have h2:(t+1)%2=0:=by omega
   rw[h,h2]
   cases decide (z<0)<;>rfl
theorem zf8{x L:Nat}(h:(ofN x).length≤L):∀t:Nat,(ofN (x^t)).length≤t*L+1
 | 0=>by rw[Nat.pow_zero,zfa];simp
 | t+1=>by
  have ih:=zf8 h t
  have:=zb3 ih h
  grind
section
variable{T:Tbl}[CLimb T][CNat T][CProd T][CTwos T][CQuot T][CQuotD T][CWhole T][CCommon T][CFrac T][CFrac3 T]
theorem zjv(x:Fz)(hx:fsz x≤10000):callF T 208 [efz x]=some (.b (rightF x)):=by
 have hn:=za9 (T:=T) x hx
 have hs:=zba (x:=x) (L:=10000) hx (by decide)
 have l1:=ziw (fv x)
 have l2:=zix (fv x)
 unfold rightF
 have e':fz (fv x)=(decide ((fv x).num<0),ofN (fv x).num.natAbs,ofN (fv x).den):=rfl
 rw[e']at hn ⊢
 obtain⟨n,a,d⟩:=x
 have la:=zev (n,a,d)
 have ld:=ze9 (n,a,d)
 simp only at la ld
 generalize decide ((fv (n,a,d)).num<0)=m at *
 generalize ofN (fv (n,a,d)).num.natAbs=b at *
 generalize ofN (fv (n,a,d)).den=e at *
 have c1:=zii (T:=T) a b (by omega) (by omega)
 have c2:=zii (T:=T) d e (by omega) (by omega)
 rw[f208 _ rfl,b208]
 by_cases h1:n=m
 case neg=>
  have hd:decide ((n,a,d)=(m,b,e))=false:=by grind
  have hb:(n == m)=false:=by grind
  rw[hd]
  simp -implicitDefEqProofs[hn,hb]
 subst h1
 by_cases h2:a.length=b.length
 case neg=>
  have hd:decide ((n,a,d)=(n,b,e))=false:=by
   grind
  have hb:((a.length:Int) == b.length)=false:=by grind
  rw[hd]
  simp -implicitDefEqProofs[hn,hb]
 by_cases h3:d.length=e.length
 case neg=>
  have hd:decide ((n,a,d)=(n,b,e))=false:=by
   grind
  have hb:((d.length:Int) == e.length)=false:=by grind
  rw[hd]
  simp -implicitDefEqProofs[hn,h2,hb]
 by_cases h4:val a=val b
 case neg=>
  have hd:decide ((n,a,d)=(n,b,e))=false:=by
   grind
  have hc:¬ cmpN (val a) (val b)=0:=fun h=>h4 (zfr.1 h)
  rw[hd]
  simp -implicitDefEqProofs[hn,h2,h3,c1,hc]
 have hab:=zok a b h2 h4
 subst hab
 have hk:cmpN (val a) (val a)=0:=zfr.2 rfl
 rw[hk]at c1
 by_cases h5:val d=val e
 case neg=>
  have hd:decide ((n,a,d)=(n,a,e))=false:=by
   grind
  have hc:¬ cmpN (val d) (val e)=0:=fun h=>h5 (zfr.1 h)
  rw[hd]
  simp -implicitDefEqProofs[hn,h3,c1,c2,hc]
 have hde:=zok d e h3 h5
 subst hde
 have hk2:cmpN (val d) (val d)=0:=zfr.2 rfl
 rw[hk2]at c2
 have hd:decide ((n,a,d)=(n,a,d))=true:=by simp
 simp -implicitDefEqProofs[hn,c1,c2]
def stPw(a:List UInt32)(k i:Nat):St:=⟨[(0,.sl (u32s a) .an),(5,.sl (u32s (ofN (val a^i))) .an),(7,.i .i64 k),(8,.i .i64 i)],[],2⟩
theorem zjw(a:List UInt32)(k:Nat)(hk:k≤8)(ha:a.length≤1100):callF T 219 [.sl (u32s a) .an,.i .i64 k]=some (.sl (u32s (ofN (val a^k))) .an):=by
 have h:loopN T 0 0 (.norm false [5]) l219_0 (stPw a k 0)=some (.n,⟨[(5,.sl (u32s (ofN (val a^k))) .an)],[],2⟩):=by
  refine zak (stPw a k) k _ (fun i hi=>?_) ?_
  ·have hl:=zf8 (L:=1100) (Nat.le_trans (zad a) ha) i
   have c:=zet (T:=T) (ofN (val a^i)) a (by omega) (by omega)
   rw[zah,←Nat.pow_succ]at c
   have hw:=za5 hi (by omega)
   unfold stPw
   simp -implicitDefEqProofs[l219_0,hi,hw,c]
  ·unfold stPw
   constructor<;>simp -implicitDefEqProofs[l219_0]
 have ho:=zih (T:=T) 1 (by decide)
 unfold stPw at h
 rw[Nat.pow_zero]at h
 simp only[Int.natCast_zero]at h
 rw[f219 _ rfl,b219]
 simp -implicitDefEqProofs[ho,h]
def powR(q:Rat)(e:Int):Rat×Bool:=if -8≤e∧e≤8∧¬ (e<0∧q=0) then (powZ q e,true) else (0,false)
theorem z84(q:Rat)(t:Nat):fz (q^t)=(decide (q.num<0)&&decide (t%2=1)&&decide (q.num.natAbs^t≠0),ofN (q.num.natAbs^t),ofN (q.den^t)):=by
 grind[zuu,fz,Rat.num_pow,Rat.den_pow,zqc,zqd]
theorem z22(q:Rat)(t:Nat)(hq:q≠0):fz (q^t)⁻¹=(decide (q.num<0)&&decide (t%2=1)&&decide (q.den^t≠0),ofN (q.den^t),ofN (q.num.natAbs^t)):=by
 have h:=zuu q.num t
 have hn:q.num≠0:=fun h=>hq (Rat.num_eq_zero.1 h)
 have hz:q.num^t≠0:=Int.pow_ne_zero hn
 have hd:q.den^t≠0:=Nat.pos_iff_ne_zero.1 (Nat.pow_pos q.den_pos)
 have ha:q.num.natAbs^t≠0:=Nat.pos_iff_ne_zero.1 (Nat.pow_pos (Int.natAbs_pos.2 hn))
 have e1:(q^t)⁻¹.num=(q.num^t).sign*((q.den^t:Nat):Int):=by simp_all
 have e2:(q^t)⁻¹.den=q.num.natAbs^t:=by simp_all
 grind[Int.sign_eq_neg_one_of_neg,zqc,fz]
theorem zyf(x:Fz)(e:Int)(hx:fsz x≤1000):callF T 220 [efz x,.i .i64 e]=some (.tup [efz (fz (powR (fv x) e).1),.b (powR (fv x) e).2]):=by
 have h0:=zes (T:=T)
 have hsg:=zfp (T:=T) x (by omega)
 have hn:=za9 (T:=T) x (by omega)
 have hs:=zba (x:=x) (L:=1000) hx (by decide)
 have l1:=ziw (fv x)
 have l2:=zix (fv x)
 unfold powR
 rw[f220 _ rfl,b220]
 by_cases h1:e < -8
 ·rw[if_neg (by omega)]
  simp -implicitDefEqProofs[h0,h1]
 by_cases h2:8<e
 ·rw[if_neg (by omega)]
  simp -implicitDefEqProofs[h0,h1,h2]
 obtain⟨q,hq⟩:∃q,q=fv x:=⟨_,rfl⟩
 rw[←hq]at hsg hn hs l1 l2 ⊢
 clear hq
 have e':fz q=(decide (q.num<0),ofN q.num.natAbs,ofN q.den):=rfl
 rw[e']at hn
 have hA:(ofN q.num.natAbs).length≤1100:=by omega
 have hD:(ofN q.den).length≤1100:=by omega
 have pA:∀k:Nat,k≤8→callF T 219 [.sl (u32s (ofN q.num.natAbs)) .an,.i .i64 k]=some (.sl (u32s (ofN (q.num.natAbs^k))) .an):=fun k hk=>by
  grind[zjw,zah]
 have pD:∀k:Nat,k≤8→callF T 219 [.sl (u32s (ofN q.den)) .an,.i .i64 k]=some (.sl (u32s (ofN (q.den^k))) .an):=fun k hk=>by
  grind[zjw,zah]
 have lA:∀k:Nat,k≤8→(ofN (q.num.natAbs^k)).length≤1000000:=fun k hk=>by
  have:=zf8 hA k
  omega
 have lD:∀k:Nat,k≤8→(ofN (q.den^k)).length≤1000000:=fun k hk=>by
  have:=zf8 hD k
  omega
 have hodd:∀k:Nat,k≤8→(((k:Int).tmod 2) == 1)=decide (k%2=1):=fun k hk=>by
  have e:(k:Int).tmod 2=((k%2:Nat):Int):=by rw[show (2:Int)=((2:Nat):Int) from rfl,←Int.ofNat_tmod]
  rw[e,Bool.eq_iff_iff]
  simp
  omega
 by_cases h3:e<0
 case neg=>
  obtain⟨n,rfl⟩:∃n:Nat,e=n:=⟨e.toNat,by omega⟩
  have hn8:n≤8:=by omega
  rw[if_pos (by omega)]
  have hw:IntKind.wrap .i64 (-(n:Int))=-(n:Int):=zac _ (by omega)
  have cA:=pA n hn8
  have cD:=pD n hn8
  have ho:=hodd n hn8
  have hnorm:=zgi (T:=T) (decide (q.num<0)&&decide (n%2=1)) (ofN (q.num.natAbs^n)) (lA n hn8)
  rw[show wv (decide (q.num<0)&&decide (n%2=1)) (ofN (q.num.natAbs^n))=sg (decide (q.num<0)&&decide (n%2=1)) (q.num.natAbs^n) by unfold wv;rw[zah],zz0]at hnorm
  have hf:=z84 q n
  have hz:powZ q (n:Int)=q^n:=Rat.zpow_natCast q n
  simp only[hz]
  rw[hf]
  have h4:¬ (8:Int)<n:=by omega
  have h5:¬ ((n:Int) < -(n:Int)):=by omega
  have h6:¬ (n:Int)<0:=by omega
  have h1':¬ (n:Int) < -8:=by omega
  generalize decide (q.num<0)=NG at *
  generalize decide (n%2=1)=OD at *
  cases NG with
  | false=>
   simp only[Bool.false_and]at hnorm ⊢
   simp -implicitDefEqProofs[hn,h4,h5,h6,h1',hw,mm2,cA,cD,hnorm]
  | true=>
   simp only[Bool.true_and]at hnorm ⊢
   cases OD with
   | false=>simp -implicitDefEqProofs[hn,h4,h5,h6,h1',hw,mm2,cA,cD,ho,hnorm]
   | true=>simp -implicitDefEqProofs[hn,h4,h5,h6,h1',hw,mm2,cA,cD,ho,hnorm]
 by_cases h7:q=0
 ·rw[if_neg (by grind)]
  have hs0:sgQ q=0:=zfx.2 h7
  rw[hs0]at hsg
  generalize fz 0=Z at *
  have h4:¬ (8:Int)<e:=by omega
  simp -implicitDefEqProofs[h0,h1,h4,h3,hsg]
 rw[if_pos (by grind)]
 obtain⟨n,rfl⟩:∃n:Nat,e=-(n:Int):=⟨(-e).toNat,by omega⟩
 have hn8:n≤8:=by omega
 have hsz:¬ sgQ q=0:=fun h=>h7 (zfx.1 h)
 have hw:IntKind.wrap .i64 (n:Int)=(n:Int):=zac _ (by omega)
 have cA:=pA n hn8
 have cD:=pD n hn8
 have ho:=hodd n hn8
 have hnorm:=zgi (T:=T) (decide (q.num<0)&&decide (n%2=1)) (ofN (q.den^n)) (lD n hn8)
 rw[show wv (decide (q.num<0)&&decide (n%2=1)) (ofN (q.den^n))=sg (decide (q.num<0)&&decide (n%2=1)) (q.den^n) by unfold wv;rw[zah],zz0]at hnorm
 have hf:=z22 q n h7
 have hz:powZ q (-(n:Int))=(q^n)⁻¹:=by unfold powZ;rw[Rat.zpow_neg,Rat.zpow_natCast]
 simp only[hz]
 rw[hf]
 clear hf hz pA pD lA lD hodd e'
 have h4:¬ (8:Int) < -(n:Int):=by omega
 have h5:(-(n:Int)<(n:Int)):=by omega
 have h1':¬ -(n:Int) < -8:=by omega
 have h6:(n:Int)≠0:=by omega
 have h6':0<(n:Int):=by omega
 have h6'':0<n:=by omega
 have h1'':¬ 8<n:=by omega
 generalize ofN (q.num.natAbs^n)=AP at *
 generalize ofN (q.den^n)=DP at *
 generalize decide (q.den^n≠0)=NZ at *
 generalize ofN q.num.natAbs=A at *
 generalize ofN q.den=D at *
 generalize decide (q.num<0)=NG at *
 generalize decide (n%2=1)=OD at *
 generalize sgQ q=SG at *
 cases NG with
 | false=>
  simp only[Bool.false_and]at hnorm ⊢
  simp -implicitDefEqProofs[hn,h4,h5,h6'',h1',hw,mm2,cA,cD,hnorm,hsg,hsz]
 | true=>
  simp only[Bool.true_and]at hnorm ⊢
  cases OD with
  | false=>simp -implicitDefEqProofs[hn,h4,h5,h6'',h1',hw,mm2,cA,cD,ho,hnorm,hsg,hsz]
  | true=>simp -implicitDefEqProofs[hn,h4,h5,h6'',h1',hw,mm2,cA,cD,ho,hnorm,hsg,hsz]
end
@[simp] theorem z34(l:List Int):(ints l).length=l.length:=by simp[ints]
@[simp] theorem zaid(l:List Int):wkL (ints l)=ints l:=by rw[zbs];simp[ints,wkR,wkA]
@[simp] theorem zac7(l:List Int)(i:Nat)(h:i<(ints l).length):(ints l)[i]=[.i .i64 (l[i]'(by simpa using h))]:=by simp[ints]
@[simp] theorem z9o(l:List Int)(n:Nat):(ints l).take n=ints (l.take n):=by simp[ints]
@[simp] theorem zac8:ints []=[]:=rfl
section
variable{T:Tbl}[CLimb T][CNat T][CProd T][CTwos T][CQuot T][CQuotD T][CWhole T][CCommon T][CFrac T][CFrac3 T][CTape T]
theorem zc0(i m:Int):callF T 435 [.i .i64 i,.i .i64 m]=some (.b (belowB i m)):=by
 rw[f435 _ rfl,b435]
 unfold belowB
 by_cases h:0≤i
 ·by_cases h2:i<m<;>simp -implicitDefEqProofs[h,h2]
 ·simp -implicitDefEqProofs[h]
theorem z35(i:Ins):callF T 437 [.agg (celI i)]=some (.agg [.i .i64 i.op,.i .i64 i.a,.i .i64 i.b]):=by
 rw[f437 _ rfl,b437]
 simp -implicitDefEqProofs
theorem zsd(x:Fz)(hx:fsz x≤10000):callF T 438 [efz x]=some (.b (blankF x)):=by
 obtain⟨n,a,d⟩:=x
 rw[f438 _ rfl,b438]
 unfold blankF
 cases n with
 | true=>simp -implicitDefEqProofs
 | false=>
  by_cases h:a=[]
  ·subst h
   by_cases h2:d=[]
   ·subst h2
    simp -implicitDefEqProofs
   ·have e2:d.isEmpty=false:=by cases d<;>simp_all
    simp -implicitDefEqProofs[h2,e2]
  ·have e2:a.isEmpty=false:=by cases a<;>simp_all
   simp -implicitDefEqProofs[h,e2]
theorem zse(i:Ins):callF T 439 [.agg (celI i)]=some (.sl (ints (readsI i)) .an):=by
 obtain⟨op,a,b,n⟩:=i
 rw[f439 _ rfl,b439]
 unfold readsI
 simp only
 by_cases h6:op=6
 ·subst h6
  simp -implicitDefEqProofs[ints]
 by_cases h11:op=11
 ·subst h11
  simp -implicitDefEqProofs[ints]
 rw[if_neg (by omega)]
 by_cases h7:op=7
 ·subst h7
  simp -implicitDefEqProofs[ints]
 by_cases h8:op=8
 ·subst h8
  simp -implicitDefEqProofs[ints]
 by_cases h9:op=9
 ·subst h9
  simp -implicitDefEqProofs[ints]
 by_cases h10:op=10
 ·subst h10
  simp -implicitDefEqProofs[ints]
 rw[if_neg (by omega)]
 simp -implicitDefEqProofs[h6,h7,h8,h9,h10,h11]
theorem zwm(i:Ins):(readsI i).length≤2:=by
 unfold readsI
 split
 ·simp
 ·split<;>simp
def stMy(t:Tp)(p:Nat)(x:Ins)(i:Nat):St:=
 ⟨[(1,.i .i64 p),(2,.ptr (.loc 2) 1 4 0 0),(5,.ptr (.loc 5) 2 6 0 0),(30,.sl (ints (readsI x)) .an),(31,.i .i64 (readsI x).length),(32,.i .i64 i)],
  [(.loc 2,⟨1,.str,4,[[.sl (rowI t.code) .an,.sl (ints t.outs) .an,.i .i64 t.dim,.i .i64 t.par]]⟩),(.loc 5,⟨2,.str,6,[celI x]⟩)],4⟩
theorem zzu(t:Tp)(p:Nat)(x:Ins):loopN T 0 0 (.norm false [2,5]) l434_0 (stMy t p x 0) =
  if ((readsI x).all fun r=>belowB r p)=true then some (.n,⟨[(2,.ptr (.loc 2) 1 4 0 0),(5,.ptr (.loc 5) 2 6 0 0)],
   [(.loc 2,⟨1,.str,4,[[.sl (rowI t.code) .an,.sl (ints t.outs) .an,.i .i64 t.dim,.i .i64 t.par]]⟩),(.loc 5,⟨2,.str,6,[celI x]⟩)],4⟩)
  else some (.r,⟨[(4,.b false)],[],2⟩):=by
 have hlen:=zwm x
 refine zax (stMy t p x) (readsI x).length (fun i=>if (((readsI x).drop i).all fun r=>belowB r p)=true then some (.n,_) else some (.r,_)) (fun i hi=>?_) ?_
 ·have hg:(readsI x)[i]? = some ((readsI x)[i]'hi):=List.getElem?_eq_getElem hi
  have hws:=za5 hi (by omega)
  have hd:(readsI x).drop i=(readsI x)[i]'hi::(readsI x).drop (i+1):=List.drop_eq_getElem_cons hi
  have cb:=zc0 (T:=T) ((readsI x)[i]'hi) p
  have hi':(i:Int)<(readsI x).length:=by omega
  by_cases hb:belowB ((readsI x)[i]'hi) p=true
  ·left
   rw[hb]at cb
   refine⟨?_,by rw[hd];simp only[List.all_cons,hb,Bool.true_and]⟩
   unfold stMy
   generalize readsI x=R at *
   simp -implicitDefEqProofs[l434_0,hi,hi',hg,hws,cb]
  ·right
   have hb':belowB ((readsI x)[i]'hi) p=false:=by simpa using hb
   rw[hb']at cb
   have hall:(((readsI x).drop i).all fun r=>belowB r p)=false:=by rw[hd,List.all_cons,hb'];rfl
   simp only[hall,Bool.false_eq_true,if_false]
   unfold stMy
   clear hall hd
   generalize readsI x=R at *
   constructor<;>simp -implicitDefEqProofs[l434_0,hi,hi',hg,cb]
 ·simp only[List.drop_length,List.all_nil,if_true]
  unfold stMy
  generalize readsI x=R at *
  constructor<;>simp -implicitDefEqProofs[l434_0]
theorem zzv(t:Tp)(p:Nat)(x:Ins)(hx:t.code[p]? = some x)(hf:fsz x.n≤10000)(hl:t.code.length≤4294967296):callF T 434 [etp t,.i .i64 p]=some (.b (mayI t.dim t.par p x)):=by
 have hp:=zb6 hx
 have hp2:(p:Int)<t.code.length:=by omega
 have ho:=z35 (T:=T) x
 have hbl:=zsd (T:=T) x.n hf
 have hrd:=zse (T:=T) x
 have hlo:=zzu (T:=T) t p x
 have hrt:=zjv (T:=T) x.n hf
 unfold mayI
 unfold stMy at hlo
 simp only[Int.natCast_zero]at hlo
 have cy:=zc0 (T:=T) x.a t.dim
 have cp:=zc0 (T:=T) x.a t.par
 have hr2:(((readsI x).length:Int) == 2)=decide ((readsI x).length=2):=by
  rw[Bool.eq_iff_iff]
  simp
  omega
 rw[f434 _ rfl,b434]
 generalize readsI x=R at *
 generalize rightF x.n=RT at *
 generalize blankF x.n=BL at *
 generalize belowB x.a t.dim=B1 at *
 generalize belowB x.a t.par=B2 at *
 generalize (R.all fun r=>belowB r p)=AL at *
 obtain⟨code,outs,dim,par⟩:=t
 obtain⟨op,a,b,n⟩:=x
 dsimp only at hx hp hp2 ho hbl hrd hlo hrt cy cp ⊢
 have hxe:=(List.getElem?_eq_some_iff.1 hx).2
 clear hf hl
 by_cases h1:op=1
 ·subst h1
  by_cases ha:a=0
  ·subst ha
   by_cases hb:b=0
   ·subst hb
    simp -implicitDefEqProofs[hp,hp2,hx,hxe,ho,hrt]
   ·simp -implicitDefEqProofs[hp,hp2,hx,hxe,ho,hrt,hb]
  ·simp -implicitDefEqProofs[hp,hp2,hx,hxe,ho,hrt,ha]
 rw[if_neg h1]
 cases BL with
 | false=>simp -implicitDefEqProofs[hp,hp2,hx,hxe,h1,hbl]
 | true=>
 cases AL with
 | false=>
  simp only[Bool.false_eq_true,if_false]at hlo
  simp -implicitDefEqProofs[hp,hp2,hx,hxe,h1,hbl,hrd,hlo]
 | true=>
 simp only[if_true]at hlo
 by_cases h2:op=2
 ·subst h2
  by_cases ha:a=0
  ·subst ha
   by_cases hb:b=0
   ·subst hb
    simp -implicitDefEqProofs[hp,hp2,hx,hxe,ho,hbl,hrd,hlo]
   ·simp -implicitDefEqProofs[hp,hp2,hx,hxe,ho,hbl,hrd,hlo,hb]
  ·simp -implicitDefEqProofs[hp,hp2,hx,hxe,ho,hbl,hrd,hlo,ha]
 by_cases h3:op=3
 ·subst h3
  cases B1 with
  | false=>simp -implicitDefEqProofs[hp,hp2,hx,hxe,hbl,hrd,hlo,cy]
  | true=>
   by_cases hb:b=0
   ·subst hb
    simp -implicitDefEqProofs[hp,hp2,hx,hxe,hbl,hrd,hlo,cy]
   ·simp -implicitDefEqProofs[hp,hp2,hx,hxe,hbl,hrd,hlo,cy,hb]
 by_cases h4:op=4
 ·subst h4
  cases B2 with
  | false=>simp -implicitDefEqProofs[hp,hp2,hx,hxe,hbl,hrd,hlo,cp]
  | true=>
   by_cases hb:b=0
   ·subst hb
    simp -implicitDefEqProofs[hp,hp2,hx,hxe,hbl,hrd,hlo,cp]
   ·simp -implicitDefEqProofs[hp,hp2,hx,hxe,hbl,hrd,hlo,cp,hb]
 by_cases h6:op=6
 ·subst h6
  by_cases hb:b=0
  ·subst hb
   simp -implicitDefEqProofs[hp,hp2,hx,hxe,hbl,hrd,hlo]
  ·simp -implicitDefEqProofs[hp,hp2,hx,hxe,hbl,hrd,hlo,hb]
 by_cases h11:op=11
 ·subst h11
  by_cases hb:-8≤b
  ·by_cases hb2:b≤8
   ·simp -implicitDefEqProofs[hp,hp2,hx,hxe,hbl,hrd,hlo,hb,hb2]
   ·simp -implicitDefEqProofs[hp,hp2,hx,hxe,hbl,hrd,hlo,hb,hb2]
  ·simp -implicitDefEqProofs[hp,hp2,hx,hxe,hbl,hrd,hlo,hb]
 simp -implicitDefEqProofs[hp,hp2,hx,hxe,h1,h2,h3,h4,h6,h11,hbl,hrd,hlo,hr2]
end
section
variable{T:Tbl}[CLimb T][CNat T][CProd T][CTwos T][CQuot T][CQuotD T][CWhole T][CCommon T][CFrac T][CFrac3 T][CTape T]
structure Small (t:Tp):Prop where
 code:t.code.length≤4294967296
 outs:t.outs.length≤4294967296
 ns:∀i∈t.code,fsz i.n≤10000
 d1:-9223372036854775808≤t.dim
 d2:t.dim<9223372036854775808
theorem zsf(t:Tp)(hs:Small t):callF T 433 [etp t]=some (.b (wholeT t)):=by
 obtain⟨h1,h2,_,d1,d2⟩:=hs
 have c0:callF T 435 [.i .i64 (IntKind.wrap .i64 (t.dim-1)),.i .i64 6]=some (.b (belowB (t.dim-1) 6)):=by
  rw[zc0]
  congr 2
  by_cases hm:t.dim=-9223372036854775808
  ·rw[hm]
   decide
  ·rw[zac _ (by omega)]
 have c1:=zc0 (T:=T) t.par 7
 unfold wholeT
 obtain⟨code,outs,dim,par⟩:=t
 dsimp only at *
 have e1:((outs.length:Int) == dim)=decide ((outs.length:Int)=dim):=rfl
 rw[f433 _ rfl,b433]
 generalize belowB (dim-1) 6=B1 at *
 generalize belowB par 7=B2 at *
 cases B1 with
 | false=>simp -implicitDefEqProofs[c0]
 | true=>
 cases B2 with
 | false=>simp -implicitDefEqProofs[c0,c1]
 | true=>
 by_cases ho:(outs.length:Int)=dim
 ·by_cases hc:code.length≤300
  ·have hc':(code.length:Int)≤300:=by omega
   simp -implicitDefEqProofs[c0,c1,ho,hc,hc']
  ·have hc':300<(code.length:Int):=by omega
   simp -implicitDefEqProofs[c0,c1,ho,hc,hc']
 ·simp -implicitDefEqProofs[c0,c1,ho]
def bxT(t:Tp):Box:=⟨1,.str,4,[[.sl (rowI t.code) .an,.sl (ints t.outs) .an,.i .i64 t.dim,.i .i64 t.par]]⟩
def stW1(t:Tp)(i:Nat):St:=⟨[(1,.ptr (.loc 1) 1 4 0 0),(11,.i .i64 t.code.length),(12,.i .i64 i)],[(.loc 1,bxT t)],3⟩
theorem zou(t:Tp)(hs:Small t):loopN T 0 0 (.norm false [1]) l430_0 (stW1 t 0) =
  if firstI t.dim t.par 0 t.code=-1 then some (.n,⟨[(1,.ptr (.loc 1) 1 4 0 0)],[(.loc 1,bxT t)],3⟩) else some (.r,⟨[(2,.i .i64 (firstI t.dim t.par 0 t.code))],[],2⟩):=by
 have hc:=hs.code
 have e0:t.code.drop 0=t.code:=rfl
 rw[←e0]
 refine zax (stW1 t) t.code.length (fun i=>if firstI t.dim t.par i (t.code.drop i)=-1 then some (.n,_) else some (.r,⟨[(2,.i .i64 (firstI t.dim t.par i (t.code.drop i)))],[],2⟩)) (fun i hi=>?_) ?_
 ·have hg:t.code[i]? = some (t.code[i]'hi):=List.getElem?_eq_getElem hi
  have hws:=za5 hi (by omega)
  have hd:t.code.drop i=t.code[i]'hi::t.code.drop (i+1):=List.drop_eq_getElem_cons hi
  have cm:=zzv (T:=T) t i _ hg (hs.ns _ (List.getElem_mem hi)) hc
  have hi':(i:Int)<t.code.length:=by omega
  have hf:firstI t.dim t.par i (t.code.drop i)=if mayI t.dim t.par i (t.code[i]'hi) then firstI t.dim t.par (i+1) (t.code.drop (i+1)) else i:=by rw[hd];rfl
  by_cases hb:mayI t.dim t.par i (t.code[i]'hi)=true
  ·left
   rw[hb]at cm
   rw[if_pos hb]at hf
   refine⟨?_,by simp only[hf]⟩
   unfold stW1 bxT
   clear hf hd
   simp -implicitDefEqProofs[l430_0,hi,hi',hws,cm]
  ·right
   have hb':mayI t.dim t.par i (t.code[i]'hi)=false:=by simpa using hb
   rw[hb']at cm
   rw[if_neg hb]at hf
   have hne:¬ (i:Int)=-1:=by omega
   simp only[hf,if_neg hne]
   unfold stW1 bxT
   clear hf hd
   constructor<;>simp -implicitDefEqProofs[l430_0,hi,hi',cm]
 ·have hf:firstI t.dim t.par t.code.length (t.code.drop t.code.length)=-1:=by rw[List.drop_length];rfl
  simp only[hf,if_true]
  unfold stW1 bxT
  constructor<;>simp -implicitDefEqProofs[l430_0]
def stW2(t:Tp)(i:Nat):St:=⟨[(1,.ptr (.loc 1) 1 4 0 0),(22,.sl (ints t.outs) .an),(23,.i .i64 t.outs.length),(24,.i .i64 i)],[(.loc 1,bxT t)],3⟩
theorem zov(t:Tp)(hs:Small t):loopN T 0 2 (.norm false []) l430_1 (stW2 t 0) =
  if (t.outs.all fun o=>belowB o t.code.length)=true then some (.n,⟨[],[],2⟩) else some (.r,⟨[(2,.i .i64 t.code.length)],[],2⟩):=by
 have hc:=hs.outs
 refine zax (stW2 t) t.outs.length (fun i=>if ((t.outs.drop i).all fun o=>belowB o t.code.length)=true then some (.n,_) else some (.r,_)) (fun i hi=>?_) ?_
 ·have hg:t.outs[i]? = some (t.outs[i]'hi):=List.getElem?_eq_getElem hi
  have hws:=za5 hi (by omega)
  have hd:t.outs.drop i=t.outs[i]'hi::t.outs.drop (i+1):=List.drop_eq_getElem_cons hi
  have cm:=zc0 (T:=T) (t.outs[i]'hi) t.code.length
  have hi':(i:Int)<t.outs.length:=by omega
  by_cases hb:belowB (t.outs[i]'hi) t.code.length=true
  ·left
   rw[hb]at cm
   refine⟨?_,by rw[hd];simp only[List.all_cons,hb,Bool.true_and]⟩
   unfold stW2 bxT
   clear hd
   simp -implicitDefEqProofs[l430_1,hi,hi',hg,hws,cm]
  ·right
   have hb':belowB (t.outs[i]'hi) t.code.length=false:=by simpa using hb
   rw[hb']at cm
   have hall:((t.outs.drop i).all fun o=>belowB o t.code.length)=false:=by rw[hd,List.all_cons,hb'];rfl
   simp only[hall,Bool.false_eq_true,if_false]
   unfold stW2 bxT
   clear hall hd
   constructor<;>simp -implicitDefEqProofs[l430_1,hi,hi',hg,cm]
 ·simp only[List.drop_length,List.all_nil,if_true]
  unfold stW2 bxT
  constructor<;>simp -implicitDefEqProofs[l430_1]
theorem zsg(t:Tp)(hs:Small t):callF T 430 [etp t]=some (.i .i64 (wrongT t)):=by
 have cw:=zsf (T:=T) t hs
 have h1:=zou (T:=T) t hs
 have h2:=zov (T:=T) t hs
 unfold wrongT
 unfold stW1 bxT at h1
 unfold stW2 bxT at h2
 simp only[Int.natCast_zero]at h1 h2
 generalize hfi:firstI t.dim t.par 0 t.code=F at *
 generalize hal:(t.outs.all fun o=>belowB o t.code.length)=AL at *
 generalize hwt:wholeT t=W at *
 obtain⟨code,outs,dim,par⟩:=t
 dsimp only at *
 rw[f430 _ rfl,b430]
 cases W with
 | false=>simp -implicitDefEqProofs[cw]
 | true=>
 by_cases hf:F=-1
 ·subst hf
  cases AL with
  | false=>
   simp only[Bool.false_eq_true,if_false]at h2
   simp -implicitDefEqProofs[cw,h1,h2]
  | true=>
   simp only[if_true]at h1 h2
   simp -implicitDefEqProofs[cw,h1,h2]
 ·rw[if_neg hf]at h1
  simp -implicitDefEqProofs[cw,h1,hf]
theorem zdm(t:Tp)(hs:Small t):callF T 421 [etp t]=some (.b (okT t)):=by
 have cw:=zsg (T:=T) t hs
 have e:(wrongT t == -1)=okT t:=rfl
 rw[f421 _ rfl,b421,←e]
 generalize wrongT t=W at *
 obtain⟨code,outs,dim,par⟩:=t
 simp -implicitDefEqProofs[cw]
end
def limI(n:Int):Int:=if n<0 then 0 else if 4096<n then 4096 else n
abbrev bxG(g:Nat)(s p L:Int):Box:=⟨g,.str,3,[[.i .i64 s,.i .i64 p,.i .i64 L]]⟩
def cntS(s:Int):Int:=IntKind.wrap .i64 (s+1)
def cntP(p:Int)(x:Fz):Int:=if p<(sizF x:Int) then (sizF x:Int) else p
section
variable{T:Tbl}[CLimb T][CNat T][CProd T][CTwos T][CQuot T][CQuotD T][CWhole T][CCommon T][CFrac T][CFrac3 T][CFrac5 T][CPow T][CTape T][CGauge T][CEval T]
theorem zjx(x:Fz)(hx:fsz x≤10000):callF T 223 [efz x]=some (.i .i64 (sizF x)):=by
 have h1:=zev x
 have h2:=ze9 x
 have c1:=zp1 (T:=T) x.2.1 (by omega)
 have c2:=zp1 (T:=T) x.2.2 (by omega)
 have b1:=zp3 (x:=val x.2.1) (k:=10000) (Nat.le_trans (zad x.2.1) (by omega))
 have b2:=zp3 (x:=val x.2.2) (k:=10000) (Nat.le_trans (zad x.2.2) (by omega))
 have w:IntKind.wrap .i64 ((blen (val x.2.1):Int)+(blen (val x.2.2):Int))=((sizF x:Nat):Int):=by
  have e:((sizF x:Nat):Int)=(blen (val x.2.1):Int)+(blen (val x.2.2):Int):=by unfold sizF;omega
  rw[e]
  exact zac _ (by omega)
 rw[f223 _ rfl,b223]
 generalize sizF x=S at *
 generalize blen (val x.2.1)=B1 at *
 generalize blen (val x.2.2)=B2 at *
 simp -implicitDefEqProofs[c1,c2,w]
theorem zmu(n:Int):callH T 406 [.i .i64 n] []=some (.ptr (.loc 7) 1 3 0 0,[(.loc 7,bxG 1 0 0 (limI n))]):=by
 unfold limI
 rw[f406 _ _ rfl,b406]
 by_cases h1:n<0
 ·simp -implicitDefEqProofs[h1,mm2]
 ·by_cases h2:4096<n
  ·simp -implicitDefEqProofs[h1,h2,mm2]
  ·simp -implicitDefEqProofs[h1,h2,mm2]
theorem zrn(s p L k:Int):callH T 426 [.ptr (.bor 0) 0 3 0 0,.i .i64 k] [(.bor 0,bxG 0 s p L)]=some (.tup [],[(.bor 0,bxG 0 (cntS s) (if p<k then k else p) L)]):=by
 unfold cntS
 rw[f426 _ _ rfl,b426]
 by_cases h1:p<k
 ·simp -implicitDefEqProofs[h1,mm2]
 ·simp -implicitDefEqProofs[h1,mm2]
theorem zf9(s p L:Int)(x:Fz)(hx:fsz x≤10000):callH T 411 [.ptr (.bor 0) 0 3 0 0,efz x] [(.bor 0,bxG 0 s p L)]=some (.b (decide ((sizF x:Int)≤L)),[(.bor 0,bxG 0 (cntS s) (cntP p x) L)]):=by
 have h1:=zjx (T:=T) x hx
 have h2:=zrn (T:=T) s p L (sizF x)
 unfold cntP
 rw[f411 _ _ rfl,b411]
 generalize cntS s=s' at *
 generalize (if p<(sizF x:Int) then (sizF x:Int) else p)=p' at *
 generalize (sizF x:Int)=z at *
 simp -implicitDefEqProofs[h1,h2]
def stEn(l:List Fz)(i:Nat):St:=⟨[(3,.bs (.loc 3) 1 3 0 i),(6,.sl (rowF l) .an),(7,.i .i64 l.length),(8,.i .i64 i)],[(.loc 3,⟨1,.own,3,rowF (nrm (l.take i))⟩)],3⟩
theorem zjy(l:List Fz)(hl:l.length≤1000)(hw:∀x∈l,fsz x≤1000):callF T 420 [.sl (rowF l) .an]=some (.sl (rowF (nrm l)) .an):=by
 have h:loopN T 0 0 (.norm false [3]) l420_0 (stEn l 0)=some (.n,⟨[(3,.bs (.loc 3) 1 3 0 l.length)],[(.loc 3,⟨1,.own,3,rowF (nrm l)⟩)],3⟩):=by
  refine zak (stEn l) l.length _ (fun i hi=>?_) ?_
  ·have hg:l[i]? = some (l[i]'hi):=List.getElem?_eq_getElem hi
   have hws:=za5 hi (by omega)
   have hn:=za9 (T:=T) (l[i]'hi) (Nat.le_trans (hw _ (List.getElem_mem hi)) (by decide))
   have e:nrm (l.take (i+1))=nrm (l.take i)++[fz (fv (l[i]'hi))]:=zd0 l _ hi
   have hp:=zcc (m:=nrm (l.take i)) (n:=i) (by simp[nrm];omega) (fz (fv (l[i]'hi)))
   have hml:(nrm (l.take i)).length=i:=by simp[nrm];omega
   unfold stEn
   rw[e]
   clear e
   generalize nrm (l.take i)=M at *
   generalize fz (fv (l[i]'hi))=z at *
   have hb:i≤4294967295:=by omega
   simp -implicitDefEqProofs[l420_0,hi,hg,hws,hn,hp,hml,hb]
  ·unfold stEn
   rw[List.take_of_length_le (Nat.le_refl _)]
   generalize nrm l=M
   constructor<;>simp -implicitDefEqProofs[l420_0]
 unfold stEn at h
 simp[nrm]at h
 have ht:List.take l.length (List.map (fun x=>fz (fv x)) l)=List.map (fun x=>fz (fv x)) l:=List.take_of_length_le (by simp)
 rw[f420 _ rfl,b420]
 simp -implicitDefEqProofs[h,nrm,ht]
structure PoS (x:PoF) (B:Nat):Prop where
 t:fsz x.t≤B
 y:∀u∈x.y,fsz u≤B
 p:∀u∈x.p,fsz u≤B
 yl:x.y.length≤1000
 pl:x.p.length≤1000
theorem z23(x:PoF):x.v.f=⟨fz (fv x.t),nrm x.y,nrm x.p⟩:=by
 unfold PoF.v Po.f
 rw[zop,zop]
theorem zuv(x:PoF)(h:PoS x 1000):callF T 405 [ept x]=some (ept x.v.f):=by
 have h1:=za9 (T:=T) x.t (Nat.le_trans h.t (by decide))
 have h2:=zjy (T:=T) x.y h.yl h.y
 have h3:=zjy (T:=T) x.p h.pl h.p
 rw[z23]
 obtain⟨t,y,p⟩:=x
 dsimp only at *
 rw[f405 _ rfl,b405]
 generalize fz (fv t)=t' at *
 generalize nrm y=y' at *
 generalize nrm p=p' at *
 simp -implicitDefEqProofs[h1,h2,h3]
end
theorem z3v{q:Rat}{e:Int}(h1:-8≤e)(h2:e≤8):powR q e=if e<0∧q=0 then (0,false) else (powZ q e,true):=by
 unfold powR
 by_cases h:e<0∧q=0
 ·rw[if_pos h,if_neg (by intro hh;exact hh.2.2 h)]
 ·rw[if_neg h,if_pos ⟨h1,h2,h⟩]
abbrev mD:AV:=.agg [.dead]
section
variable{T:Tbl}[CLimb T][CNat T][CProd T][CTwos T][CQuot T][CQuotD T][CWhole T][CCommon T][CFrac T][CFrac3 T][CFrac5 T][CPow T][CTape T][CGauge T][CEval T][CRun T][CIfc T]
theorem zaib(x:Fz)(hx:fsz x≤1000):callF T 445 [mD,efz x]=some (efz (fz (fv x))):=by
 have h:=za9 (T:=T) x (by omega)
 rw[f445 _ rfl,b445]
 generalize fz (fv x)=z at *
 simp -implicitDefEqProofs[h]
theorem z9g(x:Fz)(hx:fsz x≤1000):callF T 444 [mD,efz x]=some (efz (fz (-fv x))):=by
 have h:=zyb (T:=T) x (by omega)
 rw[f444 _ rfl,b444]
 generalize fz (-fv x)=z at *
 simp -implicitDefEqProofs[h]
theorem z9h(x y:Fz)(hx:fsz x≤1000)(hy:fsz y≤1000):callF T 441 [mD,efz x,efz y]=some (efz (fz (fv x+fv y))):=by
 have h:=zdw (T:=T) x y hx hy
 rw[f441 _ rfl,b441]
 generalize fz (fv x+fv y)=z at *
 simp -implicitDefEqProofs[h]
theorem z9i(x y:Fz)(hx:fsz x≤1000)(hy:fsz y≤1000):callF T 448 [mD,efz x,efz y]=some (efz (fz (fv x-fv y))):=by
 have h:=zyc (T:=T) x y hx hy
 rw[f448 _ rfl,b448]
 generalize fz (fv x-fv y)=z at *
 simp -implicitDefEqProofs[h]
theorem z9j(x y:Fz)(hx:fsz x≤1000)(hy:fsz y≤1000):callF T 443 [mD,efz x,efz y]=some (efz (fz (fv x*fv y))):=by
 have h:=zgy (T:=T) x y hx hy
 rw[f443 _ rfl,b443]
 generalize fz (fv x*fv y)=z at *
 simp -implicitDefEqProofs[h]
theorem z9k(x y:Fz)(hx:fsz x≤1000)(hy:fsz y≤1000):callF T 447 [mD,efz x,efz y]=some (.tup [efz (fz (fv x/fv y)),.b (decide (fv y≠0))]):=by
 have h:=zyd (T:=T) x y hx hy
 rw[f447 _ rfl,b447]
 generalize fz (fv x/fv y)=z at *
 generalize decide (fv y≠0)=ok at *
 simp -implicitDefEqProofs[h]
theorem z9l(x:Fz)(e:Int)(hx:fsz x≤1000):callF T 446 [mD,efz x,.i .i64 e]=some (.tup [efz (fz (powR (fv x) e).1),.b (powR (fv x) e).2]):=by
 have h:=zyf (T:=T) x e hx
 rw[f446 _ rfl,b446]
 generalize fz (powR (fv x) e).1=z at *
 generalize (powR (fv x) e).2=ok at *
 simp -implicitDefEqProofs[h]
theorem zv7(s p L:Int)(x:Fz)(hx:fsz x≤10000):callH T 442 [.agg [.ptr (.bor 0) 0 3 0 0],efz x] [(.bor 0,bxG 0 s p L)]=some (.b (decide ((sizF x:Int)≤L)),[(.bor 0,bxG 0 (cntS s) (cntP p x) L)]):=by
 have h:=zf9 (T:=T) s p L x hx
 rw[f442 _ _ rfl,b442]
 generalize cntS s=s' at *
 generalize cntP p x=p' at *
 simp -implicitDefEqProofs[h]
theorem zzl(i:Ins)(P:Po)(hop:i.op=1∨i.op=2∨i.op=3∨i.op=4)(hn:fsz i.n≤1000)(hy:i.op=3→0≤i.a∧i.a<P.y.length)(hp:i.op=4→0≤i.a∧i.a<P.p.length) :
  callF T 431 [mD,.agg (celI i),ept P.f]=some (efz (fz (valI P [] i).1)):=by
 have h1:=zaib (T:=T) i.n hn
 obtain⟨op,a,b,n⟩:=i
 obtain⟨t,y,p⟩:=P
 dsimp only at *
 unfold valI Po.f
 dsimp only
 rw[f431 _ rfl,b431]
 rcases hop with rfl | rfl | rfl | rfl
 ·show _=some (efz (fz (fv n)))
  generalize fz (fv n)=z at *
  generalize fzs y=Y at *
  generalize fzs p=PP at *
  generalize fz t=tt at *
  simp -implicitDefEqProofs[h1]
 ·show _=some (efz (fz t))
  generalize fzs y=Y at *
  generalize fzs p=PP at *
  generalize fz t=tt at *
  simp -implicitDefEqProofs
 ·obtain⟨k,rfl⟩:∃k:Nat,a=k:=⟨a.toNat,by have:=(hy rfl).1;omega⟩
  have hk:k<y.length:=by have:=(hy rfl).2;omega
  have hk':(k:Int)<y.length:=by omega
  have hg:(fzs y)[k]? = some (fz (y[k]'hk)):=zgg (List.getElem?_eq_getElem hk)
  have hge:=(List.getElem?_eq_some_iff.1 hg).2
  have hl:(fzs y).length=y.length:=zaj y
  have e:gI y (k:Int)=y[k]'hk:=by simp[gI,List.getD,List.getElem?_eq_getElem hk]
  show _=some (efz (fz (gI _ _)))
  rw[e]
  generalize fzs y=Y at *
  generalize fzs p=PP at *
  generalize fz t=tt at *
  generalize fz (y[k]'hk)=z at *
  simp -implicitDefEqProofs[hk,hk',hg,hge,hl]
 ·obtain⟨k,rfl⟩:∃k:Nat,a=k:=⟨a.toNat,by have:=(hp rfl).1;omega⟩
  have hk:k<p.length:=by have:=(hp rfl).2;omega
  have hk':(k:Int)<p.length:=by omega
  have hg:(fzs p)[k]? = some (fz (p[k]'hk)):=zgg (List.getElem?_eq_getElem hk)
  have hge:=(List.getElem?_eq_some_iff.1 hg).2
  have hl:(fzs p).length=p.length:=zaj p
  have e:gI p (k:Int)=p[k]'hk:=by simp[gI,List.getD,List.getElem?_eq_getElem hk]
  show _=some (efz (fz (gI _ _)))
  rw[e]
  generalize fzs y=Y at *
  generalize fzs p=PP at *
  generalize fz t=tt at *
  generalize fz (p[k]'hk)=z at *
  simp -implicitDefEqProofs[hk,hk',hg,hge,hl]
theorem zv8{D:List Rat}{a:Int}(h:0≤a∧a<D.length):∃k:Nat,a=k∧(k:Int)<D.length∧k<D.length∧(fzs D)[k]? = some (fz (gI D a)):=by
 obtain⟨k,rfl⟩:∃k:Nat,a=k:=⟨a.toNat,by omega⟩
 have hk:k<D.length:=by omega
 refine⟨k,rfl,by omega,hk,?_⟩
 have e:gI D (k:Int)=D[k]'hk:=by simp[gI,List.getD,List.getElem?_eq_getElem hk]
 rw[e]
 exact zgg (List.getElem?_eq_getElem hk)
theorem znc{D:List Rat}{a:Int}{B:Nat}(hB:1≤B)(h:∀q∈D,sz q≤B):sz (gI D a)≤B:=by
 unfold gI List.getD
 cases hx:D[a.toNat]? with
 | none=>exact Nat.le_trans (Nat.le_of_eq zgl) hB
 | some q=>exact h q (List.mem_of_getElem? hx)
theorem zzm(i:Ins)(P:Po)(D:List Rat)(dim par:Int)(hm:mayI dim par D.length i=true)(hd:(P.y.length:Int)=dim)(hp:(P.p.length:Int)=par)(hn:fsz i.n≤1000)(hD:∀q∈D,sz q≤1000) :
  callF T 422 [mD,.agg (celI i),ept P.f,.sl (rowF (fzs D)) .an]=some (.tup [efz (fz (valI P D i).1),.b (valI P D i).2]):=by
 have hop:=z1e hm
 by_cases hleaf:i.op=1∨i.op=2∨i.op=3∨i.op=4
 ·have h1:=zzl (T:=T) i P hleaf hn (fun h=>by have:=zaii hm h;omega) (fun h=>by have:=zaij hm h;omega)
  have e:valI P D i=((valI P [] i).1,true):=by
   unfold valI
   rcases hleaf with h | h | h | h<;>simp[h]
  rw[e]
  generalize fz (valI P [] i).1=z at *
  generalize fzs D=DD at *
  obtain⟨op,a,b,n⟩:=i
  generalize P.f=Q at *
  obtain⟨⟨t0,t1,t2⟩,y,p⟩:=Q
  dsimp only at *
  rw[f422 _ rfl,b422]
  rcases hleaf with rfl | rfl | rfl | rfl<;>simp -implicitDefEqProofs[h1]
 have ha:=zaig hm (by omega)
 obtain⟨k,hk1,hk2,hk3,hka⟩:=zv8 ha
 have sa:fsz (fz (gI D i.a))≤1000:=znc (by decide) hD
 have hkae:=(List.getElem?_eq_some_iff.1 hka).2
 have hl:(fzs D).length=D.length:=zaj D
 have c6:=z9g (T:=T) (fz (gI D i.a)) sa
 have c11:=z9l (T:=T) (fz (gI D i.a)) i.b sa
 rw[zbt]at c6 c11
 by_cases h6:i.op=6
 ·have e:valI P D i=(-gI D i.a,true):=by simp[valI,h6]
  rw[e]
  generalize fz (-gI D i.a)=z at *
  generalize fz (gI D i.a)=u at *
  generalize fzs D=DD at *
  obtain⟨op,a,b,n⟩:=i
  generalize P.f=Q at *
  obtain⟨⟨t0,t1,t2⟩,y,p⟩:=Q
  dsimp only at *
  subst h6 hk1
  rw[f422 _ rfl,b422]
  simp -implicitDefEqProofs[hk2,hk3,hka,hkae,hl,c6]
 by_cases h11:i.op=11
 ·have hb:=z91 hm h11
  have e:valI P D i=powR (gI D i.a) i.b:=by simp[valI,h11,z3v hb.1 hb.2]
  rw[e]
  generalize fz (powR (gI D i.a) i.b).1=z at *
  generalize (powR (gI D i.a) i.b).2=ok at *
  generalize fz (gI D i.a)=u at *
  generalize fzs D=DD at *
  obtain⟨op,a,b,n⟩:=i
  generalize P.f=Q at *
  obtain⟨⟨t0,t1,t2⟩,y,p⟩:=Q
  dsimp only at *
  subst h11 hk1
  rw[f422 _ rfl,b422]
  simp -implicitDefEqProofs[hk2,hk3,hka,hkae,hl,c11]
 have hb:=zaih hm (by omega)
 obtain⟨j,hj1,hj2,hj3,hjb⟩:=zv8 hb
 have sb:fsz (fz (gI D i.b))≤1000:=znc (by decide) hD
 have hjbe:=(List.getElem?_eq_some_iff.1 hjb).2
 have c7:=z9h (T:=T) (fz (gI D i.a)) (fz (gI D i.b)) sa sb
 have c8:=z9i (T:=T) (fz (gI D i.a)) (fz (gI D i.b)) sa sb
 have c9:=z9j (T:=T) (fz (gI D i.a)) (fz (gI D i.b)) sa sb
 have c10:=z9k (T:=T) (fz (gI D i.a)) (fz (gI D i.b)) sa sb
 rw[zbt,zbt]at c7 c8 c9 c10
 have e7:i.op=7→valI P D i=(gI D i.a+gI D i.b,true):=fun h=>by simp[valI,h]
 have e8:i.op=8→valI P D i=(gI D i.a-gI D i.b,true):=fun h=>by simp[valI,h]
 have e9:i.op=9→valI P D i=(gI D i.a*gI D i.b,true):=fun h=>by simp[valI,h]
 have e10:i.op=10→valI P D i=(gI D i.a/gI D i.b,decide (gI D i.b≠0)):=fun h=>by simp[valI,h]
 generalize gI D i.a=A at *
 generalize gI D i.b=B at *
 generalize fz A=u at *
 generalize fz B=v at *
 generalize valI P D i=V at *
 generalize fzs D=DD at *
 obtain⟨op,a,b,n⟩:=i
 generalize P.f=Q at *
 obtain⟨⟨t0,t1,t2⟩,y,p⟩:=Q
 dsimp only at *
 subst hk1 hj1
 rw[f422 _ rfl,b422]
 rcases(show op=7∨op=8∨op=9∨op=10 by omega) with rfl | rfl | rfl | rfl
 ·rw[e7 rfl]
  generalize fz (A+B)=z at *
  simp -implicitDefEqProofs[hk2,hk3,hka,hkae,hj2,hj3,hjb,hjbe,hl,c7]
 ·rw[e8 rfl]
  generalize fz (A-B)=z at *
  simp -implicitDefEqProofs[hk2,hk3,hka,hkae,hj2,hj3,hjb,hjbe,hl,c8]
 ·rw[e9 rfl]
  generalize fz (A*B)=z at *
  simp -implicitDefEqProofs[hk2,hk3,hka,hkae,hj2,hj3,hjb,hjbe,hl,c9]
 ·rw[e10 rfl]
  generalize fz (A/B)=z at *
  generalize decide (B≠0)=ok at *
  simp -implicitDefEqProofs[hk2,hk3,hka,hkae,hj2,hj3,hjb,hjbe,hl,c10]
end
theorem zp4{n b:Nat}(h:blen n≤b):(ofN n).length≤b/32+1:=by
 refine zat ?_
 unfold blen at h
 split at h
 ·grind
 ·rename_i h0
  have h1:n<2^(n.log2+1):=(Nat.log2_lt h0).1 (Nat.lt_succ_self _)
  have h3:(4294967296:Nat)^(b/32+1)=2^(32*(b/32+1)):=by rw[Nat.pow_mul]
  have h2:2^(n.log2+1)≤2^(32*(b/32+1)):=Nat.pow_le_pow_right (by decide) (by omega)
  omega
theorem zk4{q:Rat}{b:Nat}(h:sizQ q≤b):sz q≤b/32+1:=by
 unfold sizQ sizF fz at h
 rw[zah,zah]at h
 exact Nat.max_le.2 ⟨zp4 (Nat.le_trans (Nat.le_add_right _ _) h),zp4 (Nat.le_trans (Nat.le_add_left _ _) h)⟩
theorem z0x(q:Rat)(n:Nat):sz (q^n)≤n*sz q+1:=by
 unfold sz
 rw[Rat.num_pow,Rat.den_pow,Int.natAbs_pow]
 exact Nat.max_le.2 ⟨zf8 (Nat.le_max_left _ _) n,zf8 (Nat.le_max_right _ _) n⟩
theorem z3w{q:Rat}{e:Int}{B:Nat}(hq:sz q≤B)(h1:-8≤e)(h2:e≤8):sz (powZ q e)≤8*B+1:=by
 unfold powZ
 rcases Int.le_total 0 e with h | h
 ·obtain⟨n,rfl⟩:∃n:Nat,e=n:=⟨e.toNat,by omega⟩
  rw[Rat.zpow_natCast]
  have:=z0x q n
  have h3:n*sz q≤8*B:=Nat.mul_le_mul (by omega) hq
  omega
 ·obtain⟨n,rfl⟩:∃n:Nat,e=-(n:Int):=⟨(-e).toNat,by omega⟩
  rw[Rat.zpow_neg,Rat.zpow_natCast]
  have:=z0x q n
  have h3:n*sz q≤8*B:=Nat.mul_le_mul (by omega) hq
  have:=z07 (q^n)
  omega
structure PvS (P:Po) (B:Nat):Prop where
 t:sz P.t≤B
 y:∀q∈P.y,sz q≤B
 p:∀q∈P.p,sz q≤B
theorem z3x{P:Po}{D:List Rat}{i:Ins}{dim par:Int}{p:Nat}(hm:mayI dim par p i=true)(hP:PvS P 1000)(hn:fsz i.n≤1000)(hD:∀q∈D,sz q≤129):sz (valI P D i).1≤2000:=by
 have ga:=znc (D:=D) (a:=i.a) (B:=129) (by decide) hD
 have gb:=znc (D:=D) (a:=i.b) (B:=129) (by decide) hD
 have gy:=znc (D:=P.y) (a:=i.a) (B:=1000) (by decide) hP.y
 have gp:=znc (D:=P.p) (a:=i.a) (B:=1000) (by decide) hP.p
 have gn:=zba (x:=i.n) (L:=1000) hn (by decide)
 have gt:=hP.t
 rcases z1e hm with h | h | h | h | h | h | h | h | h | h
 ·simp[valI,h];omega
 ·simp[valI,h];omega
 ·simp[valI,h];omega
 ·simp[valI,h];omega
 ·simp[valI,h,zww];omega
 ·grind[zei,valI]
 ·grind[z9t,valI]
 ·grind[zfw,valI]
 ·grind[z9u,valI]
 ·obtain⟨e1,e2⟩:=z91 hm h
  have h1:=z3w ga e1 e2
  grind[valI]
def runG(lim:Nat)(P:Po):List Ins→List Rat→Int→Int→Int×Int
 | [],_,s,p=>(s,p)
 | i::r,D,s,p=>if (valI P D i).2=false then (s,p) else if lim<sizQ (valI P D i).1 then (cntS s,cntP p (fz (valI P D i).1)) else runG lim P r (D++[(valI P D i).1]) (cntS s) (cntP p (fz (valI P D i).1))
theorem zin(lim:Nat)(P:Po)(i:Ins)(r:List Ins)(D:List Rat)(s p:Int):runG lim P (i::r) D s p=if (valI P D i).2=false then (s,p) else if lim<sizQ (valI P D i).1 then (cntS s,cntP p (fz (valI P D i).1)) else runG lim P r (D++[(valI P D i).1]) (cntS s) (cntP p (fz (valI P D i).1)):=rfl
abbrev bxM:Box:=⟨3,.str,1,[[.ptr (.bor 0) 0 3 0 0]]⟩
abbrev bxP(g:Nat)(x:PoF):Box:=⟨g,.str,5,[[.b x.t.1,.sl (u32s x.t.2.1) .an,.sl (u32s x.t.2.2) .an,.sl (rowF x.y) .an,.sl (rowF x.p) .an]]⟩
abbrev bxF(g:Nat)(a b c d:Int):Box:=⟨g,.str,4,[[.i .i64 a,.i .i64 b,.i .i64 c,.i .i64 d]]⟩
def stRun(Q:PoF)(L:Int)(code:List Ins)(i:Nat)(D:List Fz)(s p:Int)(kd:Kind):St:=
 ⟨[(3,.ptr (.loc 3) 3 1 0 0),(5,.ptr (.loc 5) 4 5 0 0),(7,.ptr (.loc 7) 5 4 0 0),(8,.bs (.loc 8) 6 3 0 i),(34,.sl (rowI code) .an),(35,.i .i64 code.length),(36,.i .i64 i)],
  [(.bor 0,bxG 0 s p L),(.loc 3,bxM),(.loc 5,bxP 4 Q),(.loc 7,bxF 5 0 0 0 0),(.loc 8,⟨6,kd,3,rowF D⟩)],8⟩
def endN(n:Nat)(D:List Fz)(s p L:Int)(kd:Kind):Ex×St:=(.n,⟨[(7,.ptr (.loc 7) 3 4 0 0),(8,.bs (.loc 8) 4 3 0 n)],[(.bor 0,bxG 0 s p L),(.loc 7,bxF 3 0 0 0 0),(.loc 8,⟨4,kd,3,rowF D⟩)],6⟩)
def endR(kind at_ s p L:Int):Ex×St:=(.r,⟨[(6,.sl [] .an),(7,.ptr (.loc 7) 3 4 0 0)],[(.bor 0,bxG 0 s p L),(.loc 7,bxF 3 kind 0 0 at_)],5⟩)
section
variable{T:Tbl}[CLimb T][CNat T][CProd T][CTwos T][CQuot T][CQuotD T][CWhole T][CCommon T][CFrac T][CFrac3 T][CFrac5 T][CPow T][CTape T][CGauge T][CEval T][CRun T][CIfc T]
theorem zzn{kd:Kind}(hk:kd=.own∨kd=.sh)(x:Ins)(Q:PoF)(L:Int)(code:List Ins)(i:Nat)(D:List Fz)(s p:Int)(v:Fz)(hi:i<code.length)(hc:code.length≤1000)(hg:code[i]? = some x)(hdl:D.length=i)(hv:fsz v≤10000)
  (c:callF T 422 [mD,.agg (celI x),ept Q,.sl (rowF D) .an]=some (.tup [efz v,.b true])) (hf:(sizF v:Int)≤L) :
  evX (orc T) T 1 l407_0 (stRun Q L code i D s p kd)=some (.n,stRun Q L code (i+1) (D++[v]) (cntS s) (cntP p v) .sh):=by
 have hf2:=zv7 (T:=T) s p L v hv
 rw[decide_eq_true hf]at hf2
 have hws:=za5 hi (by omega)
 have hge:=(List.getElem?_eq_some_iff.1 hg).2
 have ht:List.take i D=D:=List.take_of_length_le (by omega)
 have hp:wkL (rowF D++[celF v])=rowF (D++[v]):=by rw[zi0,zla]
 have hi':(i:Int)<code.length:=by omega
 have hb:i≤4294967295:=by omega
 unfold stRun
 rcases hk with rfl | rfl<;>simp -implicitDefEqProofs[l407_0,hi,hi',hge,hws,c,hf2,hp,hdl,hb,ht]
theorem z3y{kd:Kind}(hk:kd=.own∨kd=.sh)(x:Ins)(Q:PoF)(L:Int)(code:List Ins)(i:Nat)(D:List Fz)(s p:Int)(v:Fz)(hi:i<code.length)(hc:code.length≤1000)(hg:code[i]? = some x)(hdl:D.length=i)
  (c:callF T 422 [mD,.agg (celI x),ept Q,.sl (rowF D) .an]=some (.tup [efz v,.b false])) :
  evX (orc T) T 1 l407_0 (stRun Q L code i D s p kd)=some (endR 3 i s p L):=by
 have hge:=(List.getElem?_eq_some_iff.1 hg).2
 have ht:List.take i D=D:=List.take_of_length_le (by omega)
 have hi':(i:Int)<code.length:=by omega
 unfold stRun endR
 rcases hk with rfl | rfl<;>simp -implicitDefEqProofs[l407_0,hi,hi',hge,c,hdl,ht]
theorem z3z{kd:Kind}(hk:kd=.own∨kd=.sh)(x:Ins)(Q:PoF)(L:Int)(code:List Ins)(i:Nat)(D:List Fz)(s p:Int)(v:Fz)(hi:i<code.length)(hc:code.length≤1000)(hg:code[i]? = some x)(hdl:D.length=i)(hv:fsz v≤10000)
  (c:callF T 422 [mD,.agg (celI x),ept Q,.sl (rowF D) .an]=some (.tup [efz v,.b true])) (hf:¬ (sizF v:Int)≤L) :
  evX (orc T) T 1 l407_0 (stRun Q L code i D s p kd)=some (endR 6 i (cntS s) (cntP p v) L):=by
 have hf2:=zv7 (T:=T) s p L v hv
 rw[decide_eq_false hf]at hf2
 have hge:=(List.getElem?_eq_some_iff.1 hg).2
 have ht:List.take i D=D:=List.take_of_length_le (by omega)
 have hi':(i:Int)<code.length:=by omega
 unfold stRun endR
 rcases hk with rfl | rfl<;>simp -implicitDefEqProofs[l407_0,hi,hi',hge,c,hf2,hdl,ht]
theorem z9m{kd:Kind}(hk:kd=.own∨kd=.sh)(Q:PoF)(L:Int)(code:List Ins)(D:List Fz)(s p:Int):isEx (evX (orc T) T 1 l407_0 (stRun Q L code code.length D s p kd))=true ∧
  finX 1 0 (.norm false [7,8]) (evX (orc T) T 1 l407_0 (stRun Q L code code.length D s p kd))=some (endN code.length D s p L kd):=by
 unfold stRun endN
 obtain⟨⟨q0,q1,q2⟩,qy,qp⟩:=Q
 rcases hk with rfl | rfl<;>constructor<;>simp -implicitDefEqProofs[l407_0]
theorem zv9(kind at_ s p L:Int):finX 1 0 (.norm false [7,8]) (some (endR kind at_ s p L))=some (endR kind at_ s p L):=by
 unfold endR
 simp_all
def kdE(kd:Kind)(l:List Ins):Kind:=if l=[] then kd else .sh
def endRun(lim:Nat)(P:Po)(code l:List Ins)(D:List Rat)(s p:Int)(kd:Kind):Ex×St:=
 if (runR lim P l D).2.1=0 then endN code.length (fzs (runR lim P l D).1) (runG lim P l D s p).1 (runG lim P l D s p).2 lim (kdE kd l)
 else endR (runR lim P l D).2.1 (runR lim P l D).2.2 (runG lim P l D s p).1 (runG lim P l D s p).2 lim
theorem zp5(P:Po)(lim:Nat)(hlim:lim≤4096)(t:Tp)(ht:OkTp t)(hn:∀i∈t.code,fsz i.n≤1000)(hd:(P.y.length:Int)=t.dim)(hp:(P.p.length:Int)=t.par)(hP:PvS P 1000)(s p:Int) :
  loopN T 1 0 (.norm false [7,8]) l407_0 (stRun P.f lim t.code 0 [] s p .own)=some (endRun lim P t.code t.code [] s p .own):=by
 have hc:=ht.cl
 have key:=zcv (T:=T) (k:=1) (id:=0) (g2:=.norm false [7,8]) (c:=l407_0) (fun x:Nat×List Rat×(Int×Int)×Kind=>stRun P.f lim t.code x.1 (fzs x.2.1) x.2.2.1.1 x.2.2.1.2 x.2.2.2)
  (fun x=>x.1≤t.code.length∧x.2.1.length=x.1∧(∀q∈x.2.1,sz q≤129)∧(x.2.2.2=.own∨x.2.2.2=.sh)) (fun x=>t.code.length-x.1)
  (fun x=>some (endRun lim P t.code (t.code.drop x.1) x.2.1 x.2.2.1.1 x.2.2.1.2 x.2.2.2)) ?_ (0,[],(s,p),.own) ⟨Nat.zero_le _,rfl,by simp,.inl rfl⟩
 ·exact key
 rintro⟨i,D,⟨s,p⟩,kd⟩ ⟨hi,hdl,hD,hk⟩
 by_cases hlt:i<t.code.length
 ·have hg:t.code[i]? = some (t.code[i]'hlt):=List.getElem?_eq_getElem hlt
  have hmem:=List.getElem_mem hlt
  have hm:=ht.may i _ hg
  have hdr:t.code.drop i=t.code[i]'hlt::t.code.drop (i+1):=List.drop_eq_getElem_cons hlt
  generalize hx:t.code[i]'hlt=x at *
  have hm':mayI t.dim t.par D.length x=true:=by grind
  have c:=zzm (T:=T) x P D t.dim t.par hm' hd hp (hn x hmem) (fun q hq=>Nat.le_trans (hD q hq) (by decide))
  have hvs:fsz (fz (valI P D x).1)≤10000:=Nat.le_trans (z3x hm' hP (hn x hmem) hD) (by decide)
  have hfl:(fzs D).length=i:=by simp_all
  have hout:endRun lim P t.code (t.code.drop i) D s p kd=endRun lim P t.code (x::t.code.drop (i+1)) D s p kd:=by grind
  cases hok:(valI P D x).2 with
  | false=>
   right
   rw[hok]at c
   have e:=z3y (T:=T) hk x P.f lim t.code i (fzs D) s p _ hlt (by omega) hg hfl c
   rw[e,zv9]
   refine⟨rfl,?_⟩
   grind[zdn,zin,endRun]
  | true=>
   rw[hok]at c
   by_cases hfit:sizQ (valI P D x).1≤lim
   ·left
    have e:=zzn (T:=T) hk x P.f lim t.code i (fzs D) s p _ hlt (by omega) hg hfl hvs c (by unfold sizQ at hfit;omega)
    refine⟨(i+1,D++[(valI P D x).1],(cntS s,cntP p (fz (valI P D x).1)),.sh),⟨by omega,by grind,fun q hq=>?_,.inr rfl⟩,by omega,?_,?_⟩
    ·rcases List.mem_append.1 hq with h | h
     ·grind
     ·rw[List.mem_singleton.1 h]
      have:=zk4 hfit
      omega
    ·rw[e]
     simp[fzs]
    ·congr 1
     have hR:runR lim P (x::t.code.drop (i+1)) D=runR lim P (t.code.drop (i+1)) (D++[(valI P D x).1]):=by grind[zdn]
     grind[zin,endRun,kdE]
   ·right
    have e:=z3z (T:=T) hk x P.f lim t.code i (fzs D) s p _ hlt (by omega) hg hfl hvs c (by unfold sizQ at hfit;omega)
    rw[e,zv9]
    refine⟨rfl,?_⟩
    grind[zdn,zin,endRun]
 grind[z9m,endRun,runR,runG,kdE]
end
end Go.Ab