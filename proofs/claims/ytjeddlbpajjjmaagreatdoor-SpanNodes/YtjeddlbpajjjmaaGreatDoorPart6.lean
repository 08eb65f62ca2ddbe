/-
  A calculus of values, boxes and code, and what functions of the program compute, proved in it.
  Conditions: none beyond those that the theorems state. (Part 6.)
-/
import Derived.Test.YtjeddlbpajjjmaaGreatDoorPart5
import Derived.Test.YtjeddlbpajjjmaaGreatDoorProg
import Derived.KernelRfl
import Derived.Shelf.RegionOpenPlain
import Derived.Lib.Strings
import Derived.Lib.Slices
import Derived.Lib.Walk
import Derived.Lib.Builder
import Derived.Lib.AppendStr
import Derived.Lib.UnsafeStr
import Derived.Lib.MakeNoZero
import Derived.WalkKit
import Derived.Laws.Externs
import Derived.Laws.IdiomCopy
import Derived.Laws.BitsLemmas
import GoSem.Claims
import Derived.Deep.LoopGhost
import Derived.Shelf.Strings.Builder1
import Derived.Shelf.Strings.Builder2
import Derived.Shelf.Strings.OnBuilder
import Derived.ProofKit
import Derived.OpenShut
import Derived.Deep.DeepCutAuto
import Derived.Deep.DeepFit
import Derived.Deep.CutBlock
import Derived.Lib.OthersKept

set_option linter.unusedSectionVars false
set_option linter.unusedVariables false
set_option linter.unusedSimpArgs false
set_option linter.unnecessarySimpa false

section
namespace Go.Proofs.YtjeddlbpajjjmaaGreatDoor
open Go Go.Ab
set_option maxRecDepth 100000
def nus:List (Nat×Nat):=[(23,144),(25,92),(27,137),(34,126),(36,85),(37,125),(38,143),(40,124),(41,70),(55,118),(56,182),(57,183),(60,93),(62,181),(68,128),(70,136),(71,146),(72,71),(73,208),(85,214),(86,119),(87,127),(88,215),(89,145),(90,161),(91,210),(93,212),(94,213),(101,162),(103,163),(106,185),(115,230),(116,231),(117,184),(118,191),(119,227),(120,228),(121,229),(125,192),(126,193),(127,194),(128,195),(172,171),(177,202),(178,203),(179,204),(183,81),(185,221),(186,222),(187,223),(188,224),(198,209),(199,179),(200,180),(201,142),(202,91),(203,84),(205,32),(207,68),(208,198),(209,120),(210,86),(211,40),(212,44),(213,77),(215,121),(216,43),(217,122),(218,79),(219,268),(220,266),(223,205),(247,7),(248,12),(251,80),(265,27),(269,117),(271,75),(274,35),(286,30),(287,38),(308,82),(323,8),(324,33),(326,34),(329,72),(335,73),(336,74),(337,76),(338,78),(356,225),(379,28),(382,36),(384,140),(389,89),(405,176),(406,177),(407,178),(409,141),(411,265),(420,206),(421,87),(422,207),(426,267),(430,138),(431,226),(433,168),(434,169),(435,170),(437,199),(438,200),(439,201),(441,257),(442,258),(443,259),(444,260),(445,261),(446,262),(447,263),(448,264),(496,5),(497,6),(500,10),(507,9),(513,26),(515,29),(516,31),(524,41),(527,37),(532,67),(533,69),(536,88),(549,116),(551,139),(559,172),(560,173),(561,174),(562,175),(563,90),(567,4),(568,11),(569,13),(570,14),(576,39),(577,42),(579,83),(580,132),(581,133),(582,134),(583,135),(584,166),(585,167),(2071,146),(2092,211),(2106,185),(2263,123)]
def nu(u:Nat):FuncId:=(nus.lookup u).getD 0
def row115:AFx:=⟨3,26,[.t 6,.t 7],b115,none,false⟩
def row116:AFx:=⟨3,25,[.t 6,.t 7],b116,none,false⟩
def row117:AFx:=⟨4,27,[.t 8,.t 9],b117,none,false⟩
def row118:AFx:=⟨3,29,[.t 6,.t 7,.t 8],b118,none,false⟩
def row91:AFx:=⟨1,23,[.t 2],b91,none,false⟩
def row86:AFx:=⟨1,21,[.t 2],b86,none,false⟩
def row106:AFx:=⟨2,15,[.t 4],b106,none,false⟩
def row71:AFx:=⟨1,6,[.t 2],b71,none,false⟩
def row72:AFx:=⟨1,10,[.t 2],b72,none,false⟩
def row73:AFx:=⟨1,28,[.t 2,.t 3],b73,none,false⟩
def row70:AFx:=⟨1,7,[.t 2],b70,none,false⟩
def row87:AFx:=⟨2,49,[.t 4],b87,none,false⟩
def row85:AFx:=⟨2,52,[.t 4],b85,none,false⟩
def row56:AFx:=⟨1,18,[.t 2],b56,none,false⟩
def row88:AFx:=⟨2,49,[.t 4,.t 5],b88,none,false⟩
def row57:AFx:=⟨2,24,[.t 4,.t 5],b57,none,false⟩
def row2106:AFx:=⟨2,15,[.t 4],b2106,(some [false,false]),false⟩
def row89:AFx:=⟨5,45,[],b89,(some [true,false,false,false,false]),false⟩
def row60:AFx:=⟨2,30,[.t 4],b60,none,false⟩
def row92:AFx:=⟨2,57,[.t 4],b92,none,false⟩
def row94:AFx:=⟨2,65,[.t 4],b94,none,false⟩
def row90:AFx:=⟨2,37,[.t 4,.t 5,.t 6],b90,none,false⟩
def row119:AFx:=⟨5,76,[.t 10],b119,none,false⟩
def row120:AFx:=⟨4,66,[.t 8],b120,(some [true,false,false,false]),false⟩
def row121:AFx:=⟨3,44,[],b121,(some [true,false,false]),false⟩
def row93:AFx:=⟨2,70,[.t 4],b93,(some [true,false]),false⟩
def row2071:AFx:=⟨1,6,[.t 2],b2071,(some [false]),false⟩
def row2092:AFx:=⟨2,57,[.t 4],b2092,(some [false,false]),false⟩
def row62:AFx:=⟨2,65,[.t 4,.t 5,.t 6],b62,none,false⟩
def row101:AFx:=⟨1,19,[.t 2],b101,none,false⟩
def row68:AFx:=⟨0,0,[],.prim prim68,none,false⟩
def row103:AFx:=⟨2,37,[.t 4],b103,none,false⟩
def row125:AFx:=⟨2,17,[.t 4],b125,none,false⟩
def row55:AFx:=⟨2,13,[.cell 4 (some 2)],b55,none,false⟩
def row38:AFx:=⟨1,9,[.cell 2 (some 2)],b38,none,false⟩
def row40:AFx:=⟨1,10,[.cell 2 (some 2)],b40,none,false⟩
def row23:AFx:=⟨2,39,[.cell 4 (some 2)],b23,none,false⟩
def row25:AFx:=⟨2,9,[.cell 4 (some 2)],b25,none,false⟩
def row27:AFx:=⟨2,16,[.cell 4 (some 2)],b27,none,false⟩
def row37:AFx:=⟨1,10,[.t 2],b37,none,false⟩
def row41:AFx:=⟨1,14,[.cell 2 (some 2)],b41,none,false⟩
def row36:AFx:=⟨2,9,[.t 4],b36,none,false⟩
def row34:AFx:=⟨1,13,[.t 2],b34,none,false⟩
def row198:AFx:=⟨2,12,[.t 4],b198,none,false⟩
def row199:AFx:=⟨2,56,[.t 4],b199,none,false⟩
def row200:AFx:=⟨1,12,[.t 2],b200,none,false⟩
def row201:AFx:=⟨2,37,[.t 4,.t 5],b201,none,false⟩
def row202:AFx:=⟨2,21,[.cell 4 (some 3)],b202,none,false⟩
def row203:AFx:=⟨1,13,[.cell 2 (some 2),.t 3],b203,none,false⟩
def row205:AFx:=⟨1,7,[.cell 2 (some 3)],b205,none,false⟩
def row207:AFx:=⟨1,8,[.cell 2 (some 3)],b207,none,false⟩
def row209:AFx:=⟨1,12,[.t 2],b209,none,false⟩
def row210:AFx:=⟨2,9,[.cell 4 (some 2)],b210,none,false⟩
def row211:AFx:=⟨2,26,[.t 4],b211,none,false⟩
def row212:AFx:=⟨2,9,[.t 4],b212,none,false⟩
def row213:AFx:=⟨1,11,[.cell 2 (some 3)],b213,none,false⟩
def row215:AFx:=⟨2,30,[.cell 4 (some 3)],b215,none,false⟩
def row216:AFx:=⟨2,30,[.cell 4 (some 3)],b216,none,false⟩
def row217:AFx:=⟨2,26,[.cell 4 (some 3)],b217,none,false⟩
def row218:AFx:=⟨2,40,[.cell 4 (some 3),.t 5],b218,none,false⟩
def row208:AFx:=⟨1,51,[.t 2],b208,none,false⟩
def row219:AFx:=⟨2,15,[.t 4],b219,none,false⟩
def row220:AFx:=⟨2,58,[.cell 4 (some 3),.t 5],b220,none,false⟩
def row223:AFx:=⟨1,11,[.t 2],b223,none,false⟩
def row356:AFx:=⟨1,20,[.t 2],b356,none,false⟩
def row183:AFx:=⟨0,0,[],.prim prim183,none,false⟩
def row185:AFx:=⟨1,9,[.t 2],b185,none,false⟩
def row186:AFx:=⟨1,21,[.t 2],b186,none,false⟩
def row187:AFx:=⟨0,0,[],.prim prim187,none,false⟩
def row177:AFx:=⟨1,12,[.t 2],b177,none,false⟩
def row188:AFx:=⟨2,23,[.t 4],b188,none,false⟩
def row179:AFx:=⟨1,8,[.t 2],b179,none,false⟩
def row178:AFx:=⟨2,20,[.t 4],b178,none,false⟩
def row172:AFx:=⟨1,38,[.t 2],b172,none,false⟩
def row251:AFx:=⟨1,21,[.t 2],b251,none,false⟩
def row263:AFx:=⟨1,20,[.t 2],b263,none,false⟩
def row265:AFx:=⟨2,27,[.t 4],b265,none,false⟩
def row269:AFx:=⟨2,22,[.t 4],b269,none,false⟩
def row271:AFx:=⟨3,78,[.t 6,.t 7],b271,none,false⟩
def row274:AFx:=⟨1,20,[.t 2],b274,none,false⟩
def row2263:AFx:=⟨1,20,[.t 2],b2263,(some [false]),false⟩
def row247:AFx:=⟨2,17,[.t 4],b247,none,false⟩
def row286:AFx:=⟨3,29,[.t 6],b286,none,false⟩
def row248:AFx:=⟨1,11,[.cell 2 (some 3)],b248,none,false⟩
def row287:AFx:=⟨1,20,[.t 2],b287,none,false⟩
def row308:AFx:=⟨1,20,[.t 2],b308,none,false⟩
def row421:AFx:=⟨1,6,[.t 2],b421,none,false⟩
def row430:AFx:=⟨1,38,[.t 2],b430,none,false⟩
def row433:AFx:=⟨1,26,[.t 2],b433,none,false⟩
def row434:AFx:=⟨2,92,[.t 4],b434,none,false⟩
def row435:AFx:=⟨2,12,[.t 4],b435,none,false⟩
def row437:AFx:=⟨1,10,[.cell 2 (some 3)],b437,none,false⟩
def row438:AFx:=⟨1,20,[.t 2],b438,none,false⟩
def row439:AFx:=⟨1,21,[.t 2],b439,none,false⟩
def row406:AFx:=⟨1,8,[.t 2],b406,(some [false]),false⟩
def row411:AFx:=⟨2,19,[.t 4],b411,(some [true,false]),false⟩
def row426:AFx:=⟨2,20,[],b426,(some [true,false]),false⟩
def row405:AFx:=⟨1,13,[.cell 2 (some 5)],b405,none,false⟩
def row420:AFx:=⟨1,19,[.t 2],b420,none,false⟩
def row384:AFx:=⟨3,27,[.t 6,.cell 7 (some 4)],b384,none,false⟩
def row389:AFx:=⟨3,25,[.t 6,.cell 7 (some 4)],b389,none,false⟩
def row407:AFx:=⟨3,70,[.t 6,.cell 7 (some 4)],b407,(some [true,false,false]),false⟩
def row409:AFx:=⟨2,36,[.t 4],b409,none,false⟩
def row422:AFx:=⟨4,108,[.cell 8 (some 3),.t 9],b422,none,false⟩
def row431:AFx:=⟨3,35,[.cell 6 (some 3)],b431,none,false⟩
def row441:AFx:=⟨3,10,[.cell 6 (some 3)],b441,none,false⟩
def row442:AFx:=⟨2,9,[.t 4],b442,(some [true,false]),false⟩
def row443:AFx:=⟨3,10,[.cell 6 (some 3)],b443,none,false⟩
def row444:AFx:=⟨2,7,[.cell 4 (some 3)],b444,none,false⟩
def row445:AFx:=⟨2,7,[.cell 4 (some 3)],b445,none,false⟩
def row446:AFx:=⟨3,13,[.cell 6 (some 3),.t 7],b446,none,false⟩
def row447:AFx:=⟨3,13,[.cell 6 (some 3),.t 7],b447,none,false⟩
def row448:AFx:=⟨3,10,[.cell 6 (some 3)],b448,none,false⟩
def row1000001:AFx:=⟨242,0,meths1,.bad,none,false⟩
def row379:AFx:=⟨3,40,[.t 6],b379,none,false⟩
def row382:AFx:=⟨1,43,[.cell 2 (some 4)],b382,none,false⟩
def row324:AFx:=⟨2,52,[.t 4,.t 5],b324,none,false⟩
def row326:AFx:=⟨2,51,[.t 4,.t 5],b326,none,false⟩
def row329:AFx:=⟨1,36,[.t 2],b329,none,false⟩
def row335:AFx:=⟨2,18,[.cell 4 (some 3)],b335,none,false⟩
def row336:AFx:=⟨3,14,[.cell 6 (some 3)],b336,none,false⟩
def row337:AFx:=⟨1,18,[.cell 2 (some 3)],b337,none,false⟩
def row338:AFx:=⟨1,12,[.t 2],b338,none,false⟩
def row568:AFx:=⟨2,38,[.t 4,.t 5],b568,none,false⟩
def row569:AFx:=⟨3,114,[.cell 6 (some 10),.cell 7 (some 4)],b569,none,false⟩
def row570:AFx:=⟨3,81,[.t 6,.cell 7 (some 4)],b570,none,false⟩
def row513:AFx:=⟨1,38,[.t 2,.t 3],b513,none,false⟩
def row532:AFx:=⟨1,40,[.t 2],b532,none,false⟩
def row533:AFx:=⟨1,6,[.t 2],b533,none,false⟩
def row549:AFx:=⟨1,12,[.t 2],b549,none,false⟩
def row576:AFx:=⟨1,6,[.t 2],b576,none,false⟩
def row579:AFx:=⟨1,24,[.t 2],b579,none,false⟩
def row580:AFx:=⟨1,27,[.t 2],b580,none,false⟩
def row581:AFx:=⟨1,30,[.t 2],b581,none,false⟩
def row582:AFx:=⟨1,37,[.t 2],b582,none,false⟩
def row583:AFx:=⟨1,45,[.t 2],b583,none,false⟩
def row584:AFx:=⟨1,24,[.t 2],b584,none,false⟩
def row585:AFx:=⟨3,26,[.t 6],b585,none,false⟩
def row536:AFx:=⟨1,6,[.t 2],b536,none,false⟩
def row551:AFx:=⟨1,55,[.t 2],b551,none,false⟩
def row559:AFx:=⟨1,55,[.t 2],b559,none,false⟩
def row560:AFx:=⟨1,29,[.t 2],b560,none,false⟩
def row561:AFx:=⟨1,23,[.t 2],b561,none,false⟩
def row562:AFx:=⟨1,18,[.cell 2 (some 3)],b562,none,false⟩
def row524:AFx:=⟨1,20,[.t 2],b524,none,false⟩
def row563:AFx:=⟨3,12,[.cell 6 (some 5)],b563,none,false⟩
def row577:AFx:=⟨3,23,[.t 6,.cell 7 (some 4)],b577,none,false⟩
def row496:AFx:=⟨4,26,[.t 8],b496,none,false⟩
def row497:AFx:=⟨3,50,[.t 6],b497,none,false⟩
def row515:AFx:=⟨3,55,[.t 6],b515,none,false⟩
def row516:AFx:=⟨1,12,[.t 2],b516,none,false⟩
def row500:AFx:=⟨1,49,[.cell 2 (some 5)],b500,none,false⟩
def row507:AFx:=⟨1,15,[.cell 2 (some 11)],b507,none,false⟩
def row527:AFx:=⟨1,18,[.cell 2 (some 5)],b527,none,false⟩
def row323:AFx:=⟨0,44,[.t 0],b323,none,false⟩
def row567:AFx:=⟨2,78,[.t 4],b567,none,false⟩
def RowOk(P:Program)(ν:Nat→FuncId)(τ:Nat→Nat)(u:Nat)(af:AFx):Prop:=
 match af.body.isPrim with
 | some f=>∀xs r,f xs=some r→PCall P (ν u) xs (·=r)
 | none=>if af.body.isBad=true then (∀m∈methsA af,methOf P af.np m.1=some (ν m.2))∧(af.res.isEmpty=true→af.np=ν af.nt) else resFn P (ν u)=some (erF ν τ af)
theorem ok_pr{P:Program}{ν:Nat→FuncId}{τ:Nat→Nat}{u:Nat}{af:AFx}{f:List AV→Option AV}(h0:af.body.isPrim=some f)(h:∀xs r,f xs=some r→PCall P (ν u) xs (·=r)):RowOk P ν τ u af:=by unfold RowOk;rw[h0];exact h
theorem ok_fn{P:Program}{ν:Nat→FuncId}{τ:Nat→Nat}{u:Nat}{af:AFx}(h0:af.body.isPrim=none)(h1:af.body.isBad=false)(h:resFn P (ν u)=some (erF ν τ af)):RowOk P ν τ u af:=by unfold RowOk;rw[h0];simp only[h1];exact h
theorem ok_ty{P:Program}{ν:Nat→FuncId}{τ:Nat→Nat}{u:Nat}{af:AFx}(h0:af.body.isPrim=none)(h1:af.body.isBad=true)(h:((methsA af).all fun m=>methOf P af.np m.1 == some (ν m.2))=true)(h2:(!af.res.isEmpty || af.np == ν af.nt)=true):RowOk P ν τ u af:=by unfold RowOk;rw[h0];simp only[h1,if_true];exact⟨fun m hm=>eq_of_beq (List.all_eq_true.1 h m hm),fun he=>by rw[he]at h2;exact eq_of_beq (by simpa using h2)⟩
theorem ok_cons{P:Program}{ν:Nat→FuncId}{τ:Nat→Nat}{u:Nat}{af:AFx}{l:List (Nat×AFx)}(h:RowOk P ν τ u af)(hl:∀p∈l,RowOk P ν τ p.1 p.2) :
  ∀p∈(u,af)::l,RowOk P ν τ p.1 p.2:=by
 intro p hp
 rcases List.mem_cons.1 hp with rfl | hp
 ·exact h
 ·exact hl p hp
theorem ok_lookup{P:Program}{ν:Nat→FuncId}{l:List (Nat×AFx)}(hl:∀p∈l,RowOk P ν (tyNum fun u=>l.lookup u) p.1 p.2):TOk P ν (fun u=>l.lookup u):=fun _ _ h=>hl _ (zdk h)
theorem sub_cons{l l2:List (Nat×AFx)}{u:Nat}{af:AFx}(h:l.lookup u=some af)(h2:∀p∈l2,l.lookup p.1=some p.2):∀p∈(u,af)::l2,l.lookup p.1=some p.2:=by
 intro p hp
 rcases List.mem_cons.1 hp with rfl | hp
 ·exact h
 ·exact h2 p hp
def gTab:List (Nat×AFx):=[(115,row115),(116,row116),(117,row117),(118,row118),(91,row91),(86,row86),(106,row106),(71,row71),(72,row72),(73,row73),(70,row70),(87,row87),(85,row85),(56,row56),(88,row88),(57,row57),(2106,row2106),(89,row89),(60,row60),(92,row92),(94,row94),(90,row90),(119,row119),(120,row120),(121,row121),(93,row93),(2071,row2071),(2092,row2092),(62,row62),(101,row101),(68,row68),(103,row103),(125,row125),(55,row55),(38,row38),(40,row40),(23,row23),(25,row25),(27,row27),(37,row37),(41,row41),(36,row36),(34,row34),(198,row198),(199,row199),(200,row200),(201,row201),(202,row202),(203,row203),(205,row205),(207,row207),(209,row209),(210,row210),(211,row211),(212,row212),(213,row213),(215,row215),(216,row216),(217,row217),(218,row218),(208,row208),(219,row219),(220,row220),(223,row223),(356,row356),(183,row183),(185,row185),(186,row186),(187,row187),(177,row177),(188,row188),(179,row179),(178,row178),(172,row172),(251,row251),(263,row263),(265,row265),(269,row269),(271,row271),(274,row274),(2263,row2263),(247,row247),(286,row286),(248,row248),(287,row287),(308,row308),(421,row421),(430,row430),(433,row433),(434,row434),(435,row435),(437,row437),(438,row438),(439,row439),(406,row406),(411,row411),(426,row426),(405,row405),(420,row420),(384,row384),(389,row389),(407,row407),(409,row409),(422,row422),(431,row431),(441,row441),(442,row442),(443,row443),(444,row444),(445,row445),(446,row446),(447,row447),(448,row448),(1000001,row1000001),(379,row379),(382,row382),(324,row324),(326,row326),(329,row329),(335,row335),(336,row336),(337,row337),(338,row338),(568,row568),(569,row569),(570,row570),(513,row513),(532,row532),(533,row533),(549,row549),(576,row576),(579,row579),(580,row580),(581,row581),(582,row582),(583,row583),(584,row584),(585,row585),(536,row536),(551,row551),(559,row559),(560,row560),(561,row561),(562,row562),(524,row524),(563,row563),(577,row577),(496,row496),(497,row497),(515,row515),(516,row516),(500,row500),(507,row507),(527,row527),(323,row323),(567,row567)]
def lTab:List (Nat×AFx):=[(115,row115),(116,row116),(117,row117),(118,row118),(91,row91),(86,row86),(106,row106),(71,row71),(72,row72),(73,row73),(70,row70),(87,row87),(85,row85),(56,row56),(88,row88),(57,row57),(2106,row2106),(89,row89),(60,row60),(94,row94),(90,row90),(119,row119),(120,row120),(121,row121),(93,row93),(2071,row2071),(2092,row2092),(62,row62),(68,row68),(55,row55),(38,row38),(40,row40),(23,row23),(25,row25),(27,row27),(37,row37),(41,row41),(36,row36),(34,row34),(198,row198),(199,row199),(200,row200),(201,row201),(202,row202),(203,row203),(205,row205),(207,row207),(209,row209),(210,row210),(211,row211),(212,row212),(213,row213),(215,row215),(216,row216),(217,row217),(218,row218),(208,row208),(219,row219),(220,row220),(223,row223),(356,row356),(183,row183),(185,row185),(186,row186),(187,row187),(177,row177),(188,row188),(179,row179),(178,row178),(172,row172),(251,row251),(265,row265),(269,row269),(271,row271),(274,row274),(2263,row2263),(247,row247),(286,row286),(248,row248),(287,row287),(308,row308),(421,row421),(430,row430),(433,row433),(434,row434),(435,row435),(437,row437),(438,row438),(439,row439),(406,row406),(411,row411),(426,row426),(405,row405),(420,row420),(384,row384),(389,row389),(407,row407),(409,row409),(422,row422),(431,row431),(441,row441),(442,row442),(443,row443),(444,row444),(445,row445),(446,row446),(447,row447),(448,row448),(1000001,row1000001),(379,row379),(382,row382),(324,row324),(326,row326),(329,row329),(335,row335),(336,row336),(337,row337),(338,row338),(568,row568),(569,row569),(570,row570),(513,row513),(532,row532),(533,row533),(549,row549),(576,row576),(579,row579),(580,row580),(581,row581),(582,row582),(583,row583),(584,row584),(585,row585),(536,row536),(551,row551),(559,row559),(560,row560),(561,row561),(562,row562),(524,row524),(563,row563),(577,row577),(496,row496),(497,row497),(515,row515),(516,row516),(500,row500),(507,row507),(527,row527),(323,row323),(567,row567)]
def tab:Tbl:=fun u=>gTab.lookup u
def tau_l:Nat→Nat:=tyNum fun u=>lTab.lookup u
theorem resl_115:resFn Tryz.prog (nu 115)=some (erF nu tau_l row115):=by kernel_rfl
theorem resl_116:resFn Tryz.prog (nu 116)=some (erF nu tau_l row116):=by kernel_rfl
theorem resl_117:resFn Tryz.prog (nu 117)=some (erF nu tau_l row117):=by kernel_rfl
theorem resl_118:resFn Tryz.prog (nu 118)=some (erF nu tau_l row118):=by kernel_rfl
theorem resl_91:resFn Tryz.prog (nu 91)=some (erF nu tau_l row91):=by kernel_rfl
theorem resl_86:resFn Tryz.prog (nu 86)=some (erF nu tau_l row86):=by kernel_rfl
theorem resl_106:resFn Tryz.prog (nu 106)=some (erF nu tau_l row106):=by kernel_rfl
theorem resl_71:resFn Tryz.prog (nu 71)=some (erF nu tau_l row71):=by kernel_rfl
theorem resl_72:resFn Tryz.prog (nu 72)=some (erF nu tau_l row72):=by kernel_rfl
theorem resl_73:resFn Tryz.prog (nu 73)=some (erF nu tau_l row73):=by kernel_rfl
theorem resl_70:resFn Tryz.prog (nu 70)=some (erF nu tau_l row70):=by kernel_rfl
theorem resl_87:resFn Tryz.prog (nu 87)=some (erF nu tau_l row87):=by kernel_rfl
theorem resl_85:resFn Tryz.prog (nu 85)=some (erF nu tau_l row85):=by kernel_rfl
theorem resl_56:resFn Tryz.prog (nu 56)=some (erF nu tau_l row56):=by kernel_rfl
theorem resl_88:resFn Tryz.prog (nu 88)=some (erF nu tau_l row88):=by kernel_rfl
theorem resl_57:resFn Tryz.prog (nu 57)=some (erF nu tau_l row57):=by kernel_rfl
theorem resl_2106:resFn Tryz.prog (nu 2106)=some (erF nu tau_l row2106):=by kernel_rfl
theorem resl_89:resFn Tryz.prog (nu 89)=some (erF nu tau_l row89):=by kernel_rfl
theorem resl_60:resFn Tryz.prog (nu 60)=some (erF nu tau_l row60):=by kernel_rfl
theorem resl_94:resFn Tryz.prog (nu 94)=some (erF nu tau_l row94):=by kernel_rfl
theorem resl_90:resFn Tryz.prog (nu 90)=some (erF nu tau_l row90):=by kernel_rfl
theorem resl_119:resFn Tryz.prog (nu 119)=some (erF nu tau_l row119):=by kernel_rfl
theorem resl_120:resFn Tryz.prog (nu 120)=some (erF nu tau_l row120):=by kernel_rfl
theorem resl_121:resFn Tryz.prog (nu 121)=some (erF nu tau_l row121):=by kernel_rfl
theorem resl_93:resFn Tryz.prog (nu 93)=some (erF nu tau_l row93):=by kernel_rfl
theorem resl_2071:resFn Tryz.prog (nu 2071)=some (erF nu tau_l row2071):=by kernel_rfl
theorem resl_2092:resFn Tryz.prog (nu 2092)=some (erF nu tau_l row2092):=by kernel_rfl
theorem resl_62:resFn Tryz.prog (nu 62)=some (erF nu tau_l row62):=by kernel_rfl
theorem resl_55:resFn Tryz.prog (nu 55)=some (erF nu tau_l row55):=by kernel_rfl
theorem resl_38:resFn Tryz.prog (nu 38)=some (erF nu tau_l row38):=by kernel_rfl
theorem resl_40:resFn Tryz.prog (nu 40)=some (erF nu tau_l row40):=by kernel_rfl
theorem resl_23:resFn Tryz.prog (nu 23)=some (erF nu tau_l row23):=by kernel_rfl
theorem resl_25:resFn Tryz.prog (nu 25)=some (erF nu tau_l row25):=by kernel_rfl
theorem resl_27:resFn Tryz.prog (nu 27)=some (erF nu tau_l row27):=by kernel_rfl
theorem resl_37:resFn Tryz.prog (nu 37)=some (erF nu tau_l row37):=by kernel_rfl
theorem resl_41:resFn Tryz.prog (nu 41)=some (erF nu tau_l row41):=by kernel_rfl
theorem resl_36:resFn Tryz.prog (nu 36)=some (erF nu tau_l row36):=by kernel_rfl
theorem resl_34:resFn Tryz.prog (nu 34)=some (erF nu tau_l row34):=by kernel_rfl
theorem resl_198:resFn Tryz.prog (nu 198)=some (erF nu tau_l row198):=by kernel_rfl
theorem resl_199:resFn Tryz.prog (nu 199)=some (erF nu tau_l row199):=by kernel_rfl
theorem resl_200:resFn Tryz.prog (nu 200)=some (erF nu tau_l row200):=by kernel_rfl
theorem resl_201:resFn Tryz.prog (nu 201)=some (erF nu tau_l row201):=by kernel_rfl
theorem resl_202:resFn Tryz.prog (nu 202)=some (erF nu tau_l row202):=by kernel_rfl
theorem resl_203:resFn Tryz.prog (nu 203)=some (erF nu tau_l row203):=by kernel_rfl
theorem resl_205:resFn Tryz.prog (nu 205)=some (erF nu tau_l row205):=by kernel_rfl
theorem resl_207:resFn Tryz.prog (nu 207)=some (erF nu tau_l row207):=by kernel_rfl
theorem resl_209:resFn Tryz.prog (nu 209)=some (erF nu tau_l row209):=by kernel_rfl
theorem resl_210:resFn Tryz.prog (nu 210)=some (erF nu tau_l row210):=by kernel_rfl
theorem resl_211:resFn Tryz.prog (nu 211)=some (erF nu tau_l row211):=by kernel_rfl
theorem resl_212:resFn Tryz.prog (nu 212)=some (erF nu tau_l row212):=by kernel_rfl
theorem resl_213:resFn Tryz.prog (nu 213)=some (erF nu tau_l row213):=by kernel_rfl
theorem resl_215:resFn Tryz.prog (nu 215)=some (erF nu tau_l row215):=by kernel_rfl
theorem resl_216:resFn Tryz.prog (nu 216)=some (erF nu tau_l row216):=by kernel_rfl
theorem resl_217:resFn Tryz.prog (nu 217)=some (erF nu tau_l row217):=by kernel_rfl
theorem resl_218:resFn Tryz.prog (nu 218)=some (erF nu tau_l row218):=by kernel_rfl
theorem resl_208:resFn Tryz.prog (nu 208)=some (erF nu tau_l row208):=by kernel_rfl
theorem resl_219:resFn Tryz.prog (nu 219)=some (erF nu tau_l row219):=by kernel_rfl
theorem resl_220:resFn Tryz.prog (nu 220)=some (erF nu tau_l row220):=by kernel_rfl
theorem resl_223:resFn Tryz.prog (nu 223)=some (erF nu tau_l row223):=by kernel_rfl
theorem resl_356:resFn Tryz.prog (nu 356)=some (erF nu tau_l row356):=by kernel_rfl
theorem resl_185:resFn Tryz.prog (nu 185)=some (erF nu tau_l row185):=by kernel_rfl
theorem resl_186:resFn Tryz.prog (nu 186)=some (erF nu tau_l row186):=by kernel_rfl
theorem resl_177:resFn Tryz.prog (nu 177)=some (erF nu tau_l row177):=by kernel_rfl
theorem resl_188:resFn Tryz.prog (nu 188)=some (erF nu tau_l row188):=by kernel_rfl
theorem resl_179:resFn Tryz.prog (nu 179)=some (erF nu tau_l row179):=by kernel_rfl
theorem resl_178:resFn Tryz.prog (nu 178)=some (erF nu tau_l row178):=by kernel_rfl
theorem resl_172:resFn Tryz.prog (nu 172)=some (erF nu tau_l row172):=by kernel_rfl
theorem resl_251:resFn Tryz.prog (nu 251)=some (erF nu tau_l row251):=by kernel_rfl
theorem resl_265:resFn Tryz.prog (nu 265)=some (erF nu tau_l row265):=by kernel_rfl
theorem resl_269:resFn Tryz.prog (nu 269)=some (erF nu tau_l row269):=by kernel_rfl
theorem resl_271:resFn Tryz.prog (nu 271)=some (erF nu tau_l row271):=by kernel_rfl
theorem resl_274:resFn Tryz.prog (nu 274)=some (erF nu tau_l row274):=by kernel_rfl
theorem resl_2263:resFn Tryz.prog (nu 2263)=some (erF nu tau_l row2263):=by kernel_rfl
theorem resl_247:resFn Tryz.prog (nu 247)=some (erF nu tau_l row247):=by kernel_rfl
theorem resl_286:resFn Tryz.prog (nu 286)=some (erF nu tau_l row286):=by kernel_rfl
theorem resl_248:resFn Tryz.prog (nu 248)=some (erF nu tau_l row248):=by kernel_rfl
theorem resl_287:resFn Tryz.prog (nu 287)=some (erF nu tau_l row287):=by kernel_rfl
theorem resl_308:resFn Tryz.prog (nu 308)=some (erF nu tau_l row308):=by kernel_rfl
theorem resl_421:resFn Tryz.prog (nu 421)=some (erF nu tau_l row421):=by kernel_rfl
theorem resl_430:resFn Tryz.prog (nu 430)=some (erF nu tau_l row430):=by kernel_rfl
theorem resl_433:resFn Tryz.prog (nu 433)=some (erF nu tau_l row433):=by kernel_rfl
theorem resl_434:resFn Tryz.prog (nu 434)=some (erF nu tau_l row434):=by kernel_rfl
theorem resl_435:resFn Tryz.prog (nu 435)=some (erF nu tau_l row435):=by kernel_rfl
theorem resl_437:resFn Tryz.prog (nu 437)=some (erF nu tau_l row437):=by kernel_rfl
theorem resl_438:resFn Tryz.prog (nu 438)=some (erF nu tau_l row438):=by kernel_rfl
theorem resl_439:resFn Tryz.prog (nu 439)=some (erF nu tau_l row439):=by kernel_rfl
theorem resl_406:resFn Tryz.prog (nu 406)=some (erF nu tau_l row406):=by kernel_rfl
theorem resl_411:resFn Tryz.prog (nu 411)=some (erF nu tau_l row411):=by kernel_rfl
theorem resl_426:resFn Tryz.prog (nu 426)=some (erF nu tau_l row426):=by kernel_rfl
theorem resl_405:resFn Tryz.prog (nu 405)=some (erF nu tau_l row405):=by kernel_rfl
theorem resl_420:resFn Tryz.prog (nu 420)=some (erF nu tau_l row420):=by kernel_rfl
theorem resl_384:resFn Tryz.prog (nu 384)=some (erF nu tau_l row384):=by kernel_rfl
theorem resl_389:resFn Tryz.prog (nu 389)=some (erF nu tau_l row389):=by kernel_rfl
theorem resl_407:resFn Tryz.prog (nu 407)=some (erF nu tau_l row407):=by kernel_rfl
theorem resl_409:resFn Tryz.prog (nu 409)=some (erF nu tau_l row409):=by kernel_rfl
theorem resl_422:resFn Tryz.prog (nu 422)=some (erF nu tau_l row422):=by kernel_rfl
theorem resl_431:resFn Tryz.prog (nu 431)=some (erF nu tau_l row431):=by kernel_rfl
theorem resl_441:resFn Tryz.prog (nu 441)=some (erF nu tau_l row441):=by kernel_rfl
theorem resl_442:resFn Tryz.prog (nu 442)=some (erF nu tau_l row442):=by kernel_rfl
theorem resl_443:resFn Tryz.prog (nu 443)=some (erF nu tau_l row443):=by kernel_rfl
theorem resl_444:resFn Tryz.prog (nu 444)=some (erF nu tau_l row444):=by kernel_rfl
theorem resl_445:resFn Tryz.prog (nu 445)=some (erF nu tau_l row445):=by kernel_rfl
theorem resl_446:resFn Tryz.prog (nu 446)=some (erF nu tau_l row446):=by kernel_rfl
theorem resl_447:resFn Tryz.prog (nu 447)=some (erF nu tau_l row447):=by kernel_rfl
theorem resl_448:resFn Tryz.prog (nu 448)=some (erF nu tau_l row448):=by kernel_rfl
theorem resl_1000001:((methsA row1000001).all fun m=>methOf Tryz.prog row1000001.np m.1 == some (nu m.2))=true:=by kernel_rfl
theorem resl_379:resFn Tryz.prog (nu 379)=some (erF nu tau_l row379):=by kernel_rfl
theorem resl_382:resFn Tryz.prog (nu 382)=some (erF nu tau_l row382):=by kernel_rfl
theorem resl_324:resFn Tryz.prog (nu 324)=some (erF nu tau_l row324):=by kernel_rfl
theorem resl_326:resFn Tryz.prog (nu 326)=some (erF nu tau_l row326):=by kernel_rfl
theorem resl_329:resFn Tryz.prog (nu 329)=some (erF nu tau_l row329):=by kernel_rfl
theorem resl_335:resFn Tryz.prog (nu 335)=some (erF nu tau_l row335):=by kernel_rfl
theorem resl_336:resFn Tryz.prog (nu 336)=some (erF nu tau_l row336):=by kernel_rfl
theorem resl_337:resFn Tryz.prog (nu 337)=some (erF nu tau_l row337):=by kernel_rfl
theorem resl_338:resFn Tryz.prog (nu 338)=some (erF nu tau_l row338):=by kernel_rfl
theorem resl_568:resFn Tryz.prog (nu 568)=some (erF nu tau_l row568):=by kernel_rfl
theorem resl_569:resFn Tryz.prog (nu 569)=some (erF nu tau_l row569):=by kernel_rfl
theorem resl_570:resFn Tryz.prog (nu 570)=some (erF nu tau_l row570):=by kernel_rfl
theorem resl_513:resFn Tryz.prog (nu 513)=some (erF nu tau_l row513):=by kernel_rfl
theorem resl_532:resFn Tryz.prog (nu 532)=some (erF nu tau_l row532):=by kernel_rfl
theorem resl_533:resFn Tryz.prog (nu 533)=some (erF nu tau_l row533):=by kernel_rfl
theorem resl_549:resFn Tryz.prog (nu 549)=some (erF nu tau_l row549):=by kernel_rfl
theorem resl_576:resFn Tryz.prog (nu 576)=some (erF nu tau_l row576):=by kernel_rfl
theorem resl_579:resFn Tryz.prog (nu 579)=some (erF nu tau_l row579):=by kernel_rfl
theorem resl_580:resFn Tryz.prog (nu 580)=some (erF nu tau_l row580):=by kernel_rfl
theorem resl_581:resFn Tryz.prog (nu 581)=some (erF nu tau_l row581):=by kernel_rfl
theorem resl_582:resFn Tryz.prog (nu 582)=some (erF nu tau_l row582):=by kernel_rfl
theorem resl_583:resFn Tryz.prog (nu 583)=some (erF nu tau_l row583):=by kernel_rfl
theorem resl_584:resFn Tryz.prog (nu 584)=some (erF nu tau_l row584):=by kernel_rfl
theorem resl_585:resFn Tryz.prog (nu 585)=some (erF nu tau_l row585):=by kernel_rfl
theorem resl_536:resFn Tryz.prog (nu 536)=some (erF nu tau_l row536):=by kernel_rfl
theorem resl_551:resFn Tryz.prog (nu 551)=some (erF nu tau_l row551):=by kernel_rfl
theorem resl_559:resFn Tryz.prog (nu 559)=some (erF nu tau_l row559):=by kernel_rfl
theorem resl_560:resFn Tryz.prog (nu 560)=some (erF nu tau_l row560):=by kernel_rfl
theorem resl_561:resFn Tryz.prog (nu 561)=some (erF nu tau_l row561):=by kernel_rfl
theorem resl_562:resFn Tryz.prog (nu 562)=some (erF nu tau_l row562):=by kernel_rfl
theorem resl_524:resFn Tryz.prog (nu 524)=some (erF nu tau_l row524):=by kernel_rfl
theorem resl_563:resFn Tryz.prog (nu 563)=some (erF nu tau_l row563):=by kernel_rfl
theorem resl_577:resFn Tryz.prog (nu 577)=some (erF nu tau_l row577):=by kernel_rfl
theorem resl_496:resFn Tryz.prog (nu 496)=some (erF nu tau_l row496):=by kernel_rfl
theorem resl_497:resFn Tryz.prog (nu 497)=some (erF nu tau_l row497):=by kernel_rfl
theorem resl_515:resFn Tryz.prog (nu 515)=some (erF nu tau_l row515):=by kernel_rfl
theorem resl_516:resFn Tryz.prog (nu 516)=some (erF nu tau_l row516):=by kernel_rfl
theorem resl_500:resFn Tryz.prog (nu 500)=some (erF nu tau_l row500):=by kernel_rfl
theorem resl_507:resFn Tryz.prog (nu 507)=some (erF nu tau_l row507):=by kernel_rfl
theorem resl_527:resFn Tryz.prog (nu 527)=some (erF nu tau_l row527):=by kernel_rfl
theorem resl_323:resFn Tryz.prog (nu 323)=some (erF nu tau_l row323):=by kernel_rfl
theorem resl_567:resFn Tryz.prog (nu 567)=some (erF nu tau_l row567):=by kernel_rfl
theorem lTab_ok(hp68:∀xs r,prim68 xs=some r→PCall Tryz.prog (nu 68) xs (·=r))(hp183:∀xs r,prim183 xs=some r→PCall Tryz.prog (nu 183) xs (·=r))(hp187:∀xs r,prim187 xs=some r→PCall Tryz.prog (nu 187) xs (·=r)):TOk Tryz.prog nu (fun u=>lTab.lookup u):=ok_lookup (ok_cons (ok_fn rfl rfl resl_115) (ok_cons (ok_fn rfl rfl resl_116) (ok_cons (ok_fn rfl rfl resl_117) (ok_cons (ok_fn rfl rfl resl_118) (ok_cons (ok_fn rfl rfl resl_91) (ok_cons (ok_fn rfl rfl resl_86) (ok_cons (ok_fn rfl rfl resl_106) (ok_cons (ok_fn rfl rfl resl_71) (ok_cons (ok_fn rfl rfl resl_72) (ok_cons (ok_fn rfl rfl resl_73) (ok_cons (ok_fn rfl rfl resl_70) (ok_cons (ok_fn rfl rfl resl_87) (ok_cons (ok_fn rfl rfl resl_85) (ok_cons (ok_fn rfl rfl resl_56) (ok_cons (ok_fn rfl rfl resl_88) (ok_cons (ok_fn rfl rfl resl_57) (ok_cons (ok_fn rfl rfl resl_2106) (ok_cons (ok_fn rfl rfl resl_89) (ok_cons (ok_fn rfl rfl resl_60) (ok_cons (ok_fn rfl rfl resl_94) (ok_cons (ok_fn rfl rfl resl_90) (ok_cons (ok_fn rfl rfl resl_119) (ok_cons (ok_fn rfl rfl resl_120) (ok_cons (ok_fn rfl rfl resl_121) (ok_cons (ok_fn rfl rfl resl_93) (ok_cons (ok_fn rfl rfl resl_2071) (ok_cons (ok_fn rfl rfl resl_2092) (ok_cons (ok_fn rfl rfl resl_62) (ok_cons (ok_pr rfl hp68) (ok_cons (ok_fn rfl rfl resl_55) (ok_cons (ok_fn rfl rfl resl_38) (ok_cons (ok_fn rfl rfl resl_40) (ok_cons (ok_fn rfl rfl resl_23) (ok_cons (ok_fn rfl rfl resl_25) (ok_cons (ok_fn rfl rfl resl_27) (ok_cons (ok_fn rfl rfl resl_37) (ok_cons (ok_fn rfl rfl resl_41) (ok_cons (ok_fn rfl rfl resl_36) (ok_cons (ok_fn rfl rfl resl_34) (ok_cons (ok_fn rfl rfl resl_198) (ok_cons (ok_fn rfl rfl resl_199) (ok_cons (ok_fn rfl rfl resl_200) (ok_cons (ok_fn rfl rfl resl_201) (ok_cons (ok_fn rfl rfl resl_202) (ok_cons (ok_fn rfl rfl resl_203) (ok_cons (ok_fn rfl rfl resl_205) (ok_cons (ok_fn rfl rfl resl_207) (ok_cons (ok_fn rfl rfl resl_209) (ok_cons (ok_fn rfl rfl resl_210) (ok_cons (ok_fn rfl rfl resl_211) (ok_cons (ok_fn rfl rfl resl_212) (ok_cons (ok_fn rfl rfl resl_213) (ok_cons (ok_fn rfl rfl resl_215) (ok_cons (ok_fn rfl rfl resl_216) (ok_cons (ok_fn rfl rfl resl_217) (ok_cons (ok_fn rfl rfl resl_218) (ok_cons (ok_fn rfl rfl resl_208) (ok_cons (ok_fn rfl rfl resl_219) (ok_cons (ok_fn rfl rfl resl_220) (ok_cons (ok_fn rfl rfl resl_223) (ok_cons (ok_fn rfl rfl resl_356) (ok_cons (ok_pr rfl hp183) (ok_cons (ok_fn rfl rfl resl_185) (ok_cons (ok_fn rfl rfl resl_186) (ok_cons (ok_pr rfl hp187) (ok_cons (ok_fn rfl rfl resl_177) (ok_cons (ok_fn rfl rfl resl_188) (ok_cons (ok_fn rfl rfl resl_179) (ok_cons (ok_fn rfl rfl resl_178) (ok_cons (ok_fn rfl rfl resl_172) (ok_cons (ok_fn rfl rfl resl_251) (ok_cons (ok_fn rfl rfl resl_265) (ok_cons (ok_fn rfl rfl resl_269) (ok_cons (ok_fn rfl rfl resl_271) (ok_cons (ok_fn rfl rfl resl_274) (ok_cons (ok_fn rfl rfl resl_2263) (ok_cons (ok_fn rfl rfl resl_247) (ok_cons (ok_fn rfl rfl resl_286) (ok_cons (ok_fn rfl rfl resl_248) (ok_cons (ok_fn rfl rfl resl_287) (ok_cons (ok_fn rfl rfl resl_308) (ok_cons (ok_fn rfl rfl resl_421) (ok_cons (ok_fn rfl rfl resl_430) (ok_cons (ok_fn rfl rfl resl_433) (ok_cons (ok_fn rfl rfl resl_434) (ok_cons (ok_fn rfl rfl resl_435) (ok_cons (ok_fn rfl rfl resl_437) (ok_cons (ok_fn rfl rfl resl_438) (ok_cons (ok_fn rfl rfl resl_439) (ok_cons (ok_fn rfl rfl resl_406) (ok_cons (ok_fn rfl rfl resl_411) (ok_cons (ok_fn rfl rfl resl_426) (ok_cons (ok_fn rfl rfl resl_405) (ok_cons (ok_fn rfl rfl resl_420) (ok_cons (ok_fn rfl rfl resl_384) (ok_cons (ok_fn rfl rfl resl_389) (ok_cons (ok_fn rfl rfl resl_407) (ok_cons (ok_fn rfl rfl resl_409) (ok_cons (ok_fn rfl rfl resl_422) (ok_cons (ok_fn rfl rfl resl_431) (ok_cons (ok_fn rfl rfl resl_441) (ok_cons (ok_fn rfl rfl resl_442) (ok_cons (ok_fn rfl rfl resl_443) (ok_cons (ok_fn rfl rfl resl_444) (ok_cons (ok_fn rfl rfl resl_445) (ok_cons (ok_fn rfl rfl resl_446) (ok_cons (ok_fn rfl rfl resl_447) (ok_cons (ok_fn rfl rfl resl_448) (ok_cons (ok_ty rfl rfl resl_1000001 rfl) (ok_cons (ok_fn rfl rfl resl_379) (ok_cons (ok_fn rfl rfl resl_382) (ok_cons (ok_fn rfl rfl resl_324) (ok_cons (ok_fn rfl rfl resl_326) (ok_cons (ok_fn rfl rfl resl_329) (ok_cons (ok_fn rfl rfl resl_335) (ok_cons (ok_fn rfl rfl resl_336) (ok_cons (ok_fn rfl rfl resl_337) (ok_cons (ok_fn rfl rfl resl_338) (ok_cons (ok_fn rfl rfl resl_568) (ok_cons (ok_fn rfl rfl resl_569) (ok_cons (ok_fn rfl rfl resl_570) (ok_cons (ok_fn rfl rfl resl_513) (ok_cons (ok_fn rfl rfl resl_532) (ok_cons (ok_fn rfl rfl resl_533) (ok_cons (ok_fn rfl rfl resl_549) (ok_cons (ok_fn rfl rfl resl_576) (ok_cons (ok_fn rfl rfl resl_579) (ok_cons (ok_fn rfl rfl resl_580) (ok_cons (ok_fn rfl rfl resl_581) (ok_cons (ok_fn rfl rfl resl_582) (ok_cons (ok_fn rfl rfl resl_583) (ok_cons (ok_fn rfl rfl resl_584) (ok_cons (ok_fn rfl rfl resl_585) (ok_cons (ok_fn rfl rfl resl_536) (ok_cons (ok_fn rfl rfl resl_551) (ok_cons (ok_fn rfl rfl resl_559) (ok_cons (ok_fn rfl rfl resl_560) (ok_cons (ok_fn rfl rfl resl_561) (ok_cons (ok_fn rfl rfl resl_562) (ok_cons (ok_fn rfl rfl resl_524) (ok_cons (ok_fn rfl rfl resl_563) (ok_cons (ok_fn rfl rfl resl_577) (ok_cons (ok_fn rfl rfl resl_496) (ok_cons (ok_fn rfl rfl resl_497) (ok_cons (ok_fn rfl rfl resl_515) (ok_cons (ok_fn rfl rfl resl_516) (ok_cons (ok_fn rfl rfl resl_500) (ok_cons (ok_fn rfl rfl resl_507) (ok_cons (ok_fn rfl rfl resl_527) (ok_cons (ok_fn rfl rfl resl_323) (ok_cons (ok_fn rfl rfl resl_567) (fun p hp=>by cases hp))))))))))))))))))))))))))))))))))))))))))))))))))))))))))))))))))))))))))))))))))))))))))))))))))))))))))))))))))))))))))))))))))))))))))))))))))))))))
theorem lTab_part:Part gTab lTab:=⟨sub_cons (by kernel_rfl) (sub_cons (by kernel_rfl) (sub_cons (by kernel_rfl) (sub_cons (by kernel_rfl) (sub_cons (by kernel_rfl) (sub_cons (by kernel_rfl) (sub_cons (by kernel_rfl) (sub_cons (by kernel_rfl) (sub_cons (by kernel_rfl) (sub_cons (by kernel_rfl) (sub_cons (by kernel_rfl) (sub_cons (by kernel_rfl) (sub_cons (by kernel_rfl) (sub_cons (by kernel_rfl) (sub_cons (by kernel_rfl) (sub_cons (by kernel_rfl) (sub_cons (by kernel_rfl) (sub_cons (by kernel_rfl) (sub_cons (by kernel_rfl) (sub_cons (by kernel_rfl) (sub_cons (by kernel_rfl) (sub_cons (by kernel_rfl) (sub_cons (by kernel_rfl) (sub_cons (by kernel_rfl) (sub_cons (by kernel_rfl) (sub_cons (by kernel_rfl) (sub_cons (by kernel_rfl) (sub_cons (by kernel_rfl) (sub_cons (by kernel_rfl) (sub_cons (by kernel_rfl) (sub_cons (by kernel_rfl) (sub_cons (by kernel_rfl) (sub_cons (by kernel_rfl) (sub_cons (by kernel_rfl) (sub_cons (by kernel_rfl) (sub_cons (by kernel_rfl) (sub_cons (by kernel_rfl) (sub_cons (by kernel_rfl) (sub_cons (by kernel_rfl) (sub_cons (by kernel_rfl) (sub_cons (by kernel_rfl) (sub_cons (by kernel_rfl) (sub_cons (by kernel_rfl) (sub_cons (by kernel_rfl) (sub_cons (by kernel_rfl) (sub_cons (by kernel_rfl) (sub_cons (by kernel_rfl) (sub_cons (by kernel_rfl) (sub_cons (by kernel_rfl) (sub_cons (by kernel_rfl) (sub_cons (by kernel_rfl) (sub_cons (by kernel_rfl) (sub_cons (by kernel_rfl) (sub_cons (by kernel_rfl) (sub_cons (by kernel_rfl) (sub_cons (by kernel_rfl) (sub_cons (by kernel_rfl) (sub_cons (by kernel_rfl) (sub_cons (by kernel_rfl) (sub_cons (by kernel_rfl) (sub_cons (by kernel_rfl) (sub_cons (by kernel_rfl) (sub_cons (by kernel_rfl) (sub_cons (by kernel_rfl) (sub_cons (by kernel_rfl) (sub_cons (by kernel_rfl) (sub_cons (by kernel_rfl) (sub_cons (by kernel_rfl) (sub_cons (by kernel_rfl) (sub_cons (by kernel_rfl) (sub_cons (by kernel_rfl) (sub_cons (by kernel_rfl) (sub_cons (by kernel_rfl) (sub_cons (by kernel_rfl) (sub_cons (by kernel_rfl) (sub_cons (by kernel_rfl) (sub_cons (by kernel_rfl) (sub_cons (by kernel_rfl) (sub_cons (by kernel_rfl) (sub_cons (by kernel_rfl) (sub_cons (by kernel_rfl) (sub_cons (by kernel_rfl) (sub_cons (by kernel_rfl) (sub_cons (by kernel_rfl) (sub_cons (by kernel_rfl) (sub_cons (by kernel_rfl) (sub_cons (by kernel_rfl) (sub_cons (by kernel_rfl) (sub_cons (by kernel_rfl) (sub_cons (by kernel_rfl) (sub_cons (by kernel_rfl) (sub_cons (by kernel_rfl) (sub_cons (by kernel_rfl) (sub_cons (by kernel_rfl) (sub_cons (by kernel_rfl) (sub_cons (by kernel_rfl) (sub_cons (by kernel_rfl) (sub_cons (by kernel_rfl) (sub_cons (by kernel_rfl) (sub_cons (by kernel_rfl) (sub_cons (by kernel_rfl) (sub_cons (by kernel_rfl) (sub_cons (by kernel_rfl) (sub_cons (by kernel_rfl) (sub_cons (by kernel_rfl) (sub_cons (by kernel_rfl) (sub_cons (by kernel_rfl) (sub_cons (by kernel_rfl) (sub_cons (by kernel_rfl) (sub_cons (by kernel_rfl) (sub_cons (by kernel_rfl) (sub_cons (by kernel_rfl) (sub_cons (by kernel_rfl) (sub_cons (by kernel_rfl) (sub_cons (by kernel_rfl) (sub_cons (by kernel_rfl) (sub_cons (by kernel_rfl) (sub_cons (by kernel_rfl) (sub_cons (by kernel_rfl) (sub_cons (by kernel_rfl) (sub_cons (by kernel_rfl) (sub_cons (by kernel_rfl) (sub_cons (by kernel_rfl) (sub_cons (by kernel_rfl) (sub_cons (by kernel_rfl) (sub_cons (by kernel_rfl) (sub_cons (by kernel_rfl) (sub_cons (by kernel_rfl) (sub_cons (by kernel_rfl) (sub_cons (by kernel_rfl) (sub_cons (by kernel_rfl) (sub_cons (by kernel_rfl) (sub_cons (by kernel_rfl) (sub_cons (by kernel_rfl) (sub_cons (by kernel_rfl) (sub_cons (by kernel_rfl) (sub_cons (by kernel_rfl) (sub_cons (by kernel_rfl) (sub_cons (by kernel_rfl) (sub_cons (by kernel_rfl) (sub_cons (by kernel_rfl) (sub_cons (by kernel_rfl) (sub_cons (by kernel_rfl) (sub_cons (by kernel_rfl) (sub_cons (by kernel_rfl) (sub_cons (by kernel_rfl) (sub_cons (by kernel_rfl) (sub_cons (by kernel_rfl) (sub_cons (by kernel_rfl) (sub_cons (by kernel_rfl) (sub_cons (by kernel_rfl) (fun p hp=>by cases hp))))))))))))))))))))))))))))))))))))))))))))))))))))))))))))))))))))))))))))))))))))))))))))))))))))))))))))))))))))))))))))))))))))))))))))))))))))))),by kernel_rfl⟩
def sTab:List (Nat×AFx):=[(118,row118),(86,row86),(106,row106),(71,row71),(70,row70),(90,row90),(101,row101),(103,row103),(125,row125)]
def tau_s:Nat→Nat:=tyNum fun u=>sTab.lookup u
theorem ress_118:resFn Tryz.prog (nu 118)=some (erF nu tau_s row118):=by kernel_rfl
theorem ress_86:resFn Tryz.prog (nu 86)=some (erF nu tau_s row86):=by kernel_rfl
theorem ress_106:resFn Tryz.prog (nu 106)=some (erF nu tau_s row106):=by kernel_rfl
theorem ress_71:resFn Tryz.prog (nu 71)=some (erF nu tau_s row71):=by kernel_rfl
theorem ress_70:resFn Tryz.prog (nu 70)=some (erF nu tau_s row70):=by kernel_rfl
theorem ress_90:resFn Tryz.prog (nu 90)=some (erF nu tau_s row90):=by kernel_rfl
theorem ress_101:resFn Tryz.prog (nu 101)=some (erF nu tau_s row101):=by kernel_rfl
theorem ress_103:resFn Tryz.prog (nu 103)=some (erF nu tau_s row103):=by kernel_rfl
theorem ress_125:resFn Tryz.prog (nu 125)=some (erF nu tau_s row125):=by kernel_rfl
theorem sTab_ok:TOk Tryz.prog nu (fun u=>sTab.lookup u):=ok_lookup (ok_cons (ok_fn rfl rfl ress_118) (ok_cons (ok_fn rfl rfl ress_86) (ok_cons (ok_fn rfl rfl ress_106) (ok_cons (ok_fn rfl rfl ress_71) (ok_cons (ok_fn rfl rfl ress_70) (ok_cons (ok_fn rfl rfl ress_90) (ok_cons (ok_fn rfl rfl ress_101) (ok_cons (ok_fn rfl rfl ress_103) (ok_cons (ok_fn rfl rfl ress_125) (fun p hp=>by cases hp))))))))))
theorem sTab_part:Part gTab sTab:=⟨sub_cons (by kernel_rfl) (sub_cons (by kernel_rfl) (sub_cons (by kernel_rfl) (sub_cons (by kernel_rfl) (sub_cons (by kernel_rfl) (sub_cons (by kernel_rfl) (sub_cons (by kernel_rfl) (sub_cons (by kernel_rfl) (sub_cons (by kernel_rfl) (fun p hp=>by cases hp))))))))),by kernel_rfl⟩
instance:CLimb tab where
 h115:=by kernel_rfl
 h116:=by kernel_rfl
 h117:=by kernel_rfl
 h118:=by kernel_rfl
 h91:=by kernel_rfl
instance:CNat tab where
 h115:=by kernel_rfl
 h116:=by kernel_rfl
 h117:=by kernel_rfl
 h118:=by kernel_rfl
 h91:=by kernel_rfl
 h86:=by kernel_rfl
 h106:=by kernel_rfl
 h71:=by kernel_rfl
 h72:=by kernel_rfl
 h73:=by kernel_rfl
 h70:=by kernel_rfl
 h87:=by kernel_rfl
 h85:=by kernel_rfl
 h56:=by kernel_rfl
 h88:=by kernel_rfl
 h57:=by kernel_rfl
 h2106:=by kernel_rfl
instance:CProd tab where
 h115:=by kernel_rfl
 h116:=by kernel_rfl
 h117:=by kernel_rfl
 h118:=by kernel_rfl
 h91:=by kernel_rfl
 h86:=by kernel_rfl
 h106:=by kernel_rfl
 h71:=by kernel_rfl
 h72:=by kernel_rfl
 h73:=by kernel_rfl
 h70:=by kernel_rfl
 h87:=by kernel_rfl
 h85:=by kernel_rfl
 h56:=by kernel_rfl
 h88:=by kernel_rfl
 h57:=by kernel_rfl
 h2106:=by kernel_rfl
 h89:=by kernel_rfl
 h60:=by kernel_rfl
instance:CTwos tab where
 h92:=by kernel_rfl
 h94:=by kernel_rfl
instance:CQuot tab where
 h90:=by kernel_rfl
 h119:=by kernel_rfl
 h120:=by kernel_rfl
 h121:=by kernel_rfl
 h93:=by kernel_rfl
instance:CQuotD tab where
 h2071:=by kernel_rfl
 h2092:=by kernel_rfl
 h62:=by kernel_rfl
instance:CDigits tab where
 h101:=by kernel_rfl
instance:CText tab where
 h68:=by kernel_rfl
instance:CTrim tab where
 h103:=by kernel_rfl
 h125:=by kernel_rfl
instance:CWhole tab where
 h55:=by kernel_rfl
 h38:=by kernel_rfl
 h40:=by kernel_rfl
 h23:=by kernel_rfl
 h25:=by kernel_rfl
 h27:=by kernel_rfl
 h37:=by kernel_rfl
 h41:=by kernel_rfl
 h36:=by kernel_rfl
 h34:=by kernel_rfl
instance:CCommon tab where
 h198:=by kernel_rfl
 h199:=by kernel_rfl
 h200:=by kernel_rfl
 h201:=by kernel_rfl
instance:CFrac tab where
 h202:=by kernel_rfl
 h203:=by kernel_rfl
 h205:=by kernel_rfl
 h207:=by kernel_rfl
 h209:=by kernel_rfl
 h210:=by kernel_rfl
 h211:=by kernel_rfl
 h212:=by kernel_rfl
 h213:=by kernel_rfl
 h215:=by kernel_rfl
 h216:=by kernel_rfl
 h217:=by kernel_rfl
 h218:=by kernel_rfl
instance:CFrac2 tab where
instance:CFrac3 tab where
 h208:=by kernel_rfl
 h219:=by kernel_rfl
 h220:=by kernel_rfl
instance:CFrac5 tab where
 h223:=by kernel_rfl
instance:CPow tab where
 h356:=by kernel_rfl
instance:CJoin tab where
 h183:=by kernel_rfl
instance:CLex tab where
 h185:=by kernel_rfl
 h186:=by kernel_rfl
 h187:=by kernel_rfl
 h177:=by kernel_rfl
 h188:=by kernel_rfl
 h179:=by kernel_rfl
 h178:=by kernel_rfl
 h172:=by kernel_rfl
instance:CRow tab where
 h251:=by kernel_rfl
 h263:=by kernel_rfl
 h265:=by kernel_rfl
 h269:=by kernel_rfl
 h271:=by kernel_rfl
 h274:=by kernel_rfl
 h2263:=by kernel_rfl
instance:CGrid tab where
instance:CRef02 tab where
instance:CRef04 tab where
instance:CRef05 tab where
instance:CRef06 tab where
instance:CRef07 tab where
instance:CRef08 tab where
instance:CRef09 tab where
 h247:=by kernel_rfl
instance:CRef11 tab where
 h286:=by kernel_rfl
instance:CRef12 tab where
instance:CRef14 tab where
instance:CRef41 tab where
instance:CLaw09 tab where
 h248:=by kernel_rfl
instance:CLaw11 tab where
 h287:=by kernel_rfl
instance:CLaw12 tab where
 h308:=by kernel_rfl
instance:CTape tab where
 h421:=by kernel_rfl
 h430:=by kernel_rfl
 h433:=by kernel_rfl
 h434:=by kernel_rfl
 h435:=by kernel_rfl
 h437:=by kernel_rfl
 h438:=by kernel_rfl
 h439:=by kernel_rfl
instance:CGauge tab where
 h406:=by kernel_rfl
 h411:=by kernel_rfl
 h426:=by kernel_rfl
instance:CEval tab where
 h405:=by kernel_rfl
 h420:=by kernel_rfl
instance:CRun tab where
 h384:=by kernel_rfl
 h389:=by kernel_rfl
 h407:=by kernel_rfl
 h409:=by kernel_rfl
 h422:=by kernel_rfl
 h431:=by kernel_rfl
 h441:=by kernel_rfl
 h442:=by kernel_rfl
 h443:=by kernel_rfl
 h444:=by kernel_rfl
 h445:=by kernel_rfl
 h446:=by kernel_rfl
 h447:=by kernel_rfl
 h448:=by kernel_rfl
instance:CIfc tab where
 h1:=⟨242,by kernel_rfl⟩
instance:CLaw24 tab where
 h379:=by kernel_rfl
 h382:=by kernel_rfl
instance:CSpan tab where
 h324:=by kernel_rfl
 h326:=by kernel_rfl
 h329:=by kernel_rfl
 h335:=by kernel_rfl
 h336:=by kernel_rfl
 h337:=by kernel_rfl
 h338:=by kernel_rfl
instance:CSpan2 tab where
 h568:=by kernel_rfl
 h569:=by kernel_rfl
 h570:=by kernel_rfl
instance:CPast tab where
 h513:=by kernel_rfl
 h532:=by kernel_rfl
 h533:=by kernel_rfl
 h549:=by kernel_rfl
 h576:=by kernel_rfl
 h579:=by kernel_rfl
 h580:=by kernel_rfl
 h581:=by kernel_rfl
 h582:=by kernel_rfl
 h583:=by kernel_rfl
 h584:=by kernel_rfl
 h585:=by kernel_rfl
instance:CPast2 tab where
instance:CScheme tab where
 h536:=by kernel_rfl
 h551:=by kernel_rfl
 h559:=by kernel_rfl
 h560:=by kernel_rfl
 h561:=by kernel_rfl
 h562:=by kernel_rfl
instance:CStep tab where
 h524:=by kernel_rfl
 h563:=by kernel_rfl
 h577:=by kernel_rfl
instance:CLong33 tab where
 h496:=by kernel_rfl
 h497:=by kernel_rfl
 h515:=by kernel_rfl
 h516:=by kernel_rfl
instance:CTo33 tab where
 h500:=by kernel_rfl
 h507:=by kernel_rfl
 h527:=by kernel_rfl
instance:CLaw41 tab where
 h323:=by kernel_rfl
instance:CLaw41n tab where
 h567:=by kernel_rfl
end Go.Proofs.YtjeddlbpajjjmaaGreatDoor
end
section
namespace Go.Proofs
open Go.RowKit
theorem Tryz.sizeBuilder:(Tryz.prog.info? 204).map (·.size)=some 2:=by kernel_rfl
theorem Tryz.liesBuilder:liesAt Tryz.prog Tryz.prog.depth 204 (2/Tryz.prog.cellsOf 204) 0 204 1=true:=by kernel_rfl
theorem Tryz.infoByte:(Tryz.prog.info? 5).map (fun i=>(i.zero,i.size,i.bytes))=some (some (.int .u8 0),1,1):=by kernel_rfl
theorem Tryz.cellsByte:Tryz.prog.cellsOf 5=1:=by kernel_rfl
set_option maxHeartbeats 1000000 in
set_option maxRecDepth 100000 in
theorem Tryz.bString(B b:Nat)(l:List UInt8)(w:World)(h:Lib.IsBuilder 204 5 B b (Lib.byteCells l) w)(h0:l≠[]) :
  Calls Tryz.prog 131 #[.pointer (some ⟨b,0,none⟩)] w fun e w'=>e=.returned (.string ⟨l.toArray⟩)∧Below B w w':=by
 obtain⟨p,hB,v,hbk,hown,hne⟩:∃p,Lib.BuilderAt 204 5 B b p (Lib.byteCells l) w:=by
  rcases h with h | h
  ·exact⟨_,h⟩
  ·exact⟨_,h⟩
 have hl0:l.length≠0:=by simpa using h0
 rw[Lib.byteCells_length]at hown
 obtain⟨g,cap,cur,rfl,hbg,hg,hnc,hcm,hcs,htake⟩:∃g cap cur,v=.slice (some ⟨g,0,none⟩) l.length cap∧B≤g∧w.heap[g]? = some (.cells cur 5 (0,0))∧l.length≤cap∧cap≤maxLen∧cur.size=cap*1∧cur.toList.take (l.length*1)=Lib.byteCells l:=by
  rcases hown.2 with ⟨_,hz⟩ | ⟨g,cap,cur,hv,r⟩
  ·exact absurd hz hl0
  ·exact⟨g,cap,cur,hv,r⟩
 have c1:w.drew.cell? ⟨b,1,none⟩=some (.slice (some ⟨g,0,none⟩) l.length cap):=by
  have:w.drew.heap[b]? = some (.cells #[p,.slice (some ⟨g,0,none⟩) l.length cap] 204 (0,0)):=hbk
  rw[Lib.cell_of_heap this];rfl
 have hSD:(Builtin.unsafeSliceData_ #[202] 230 #[.slice (some ⟨g,0,none⟩) l.length cap]).run Tryz.prog w.drew=.ok (.pointer (some ⟨g,0,none⟩)) w.drew:=
  Lib.run_unsafeSliceData_row _ _ _ _ _ _ (by omega)
 have hUS:(Builtin.unsafeString_ #[230,3] 9 #[.pointer (some ⟨g,0,none⟩),.int .i64 l.length]).run Tryz.prog w.drew=.ok (.string ⟨l.toArray⟩) (w.drew.freeze ⟨g,0,none⟩ l.length):=by
  refine Lib.run_unsafeString_row w.drew 230 3 9 5 Tryz.underlying230 Tryz.cellsByte g cur.size (by have hg':w.drew.heap[g]? = some (.cells cur 5 (0,0)):=hg;simp[World.shape?,hg']) l h0 (by omega) (by unfold maxLen at hcm;omega) ?_
  intro j x hx
  have:=hown.cells (g:=g) rfl j (.int .u8 x.toNat) (by simp[Lib.byteCells,hx])
  exact this
 go_enter Tryz.func131,Tryz.ntmps131
 go_wp2
 go_region
 all_goals (go_wp2;go_ret;exact⟨rfl,Lib.below_freeze (Below.drew (Below.refl B w)) (p:=⟨g,0,none⟩) hbg _⟩)
set_option maxHeartbeats 1000000 in
set_option maxRecDepth 100000 in
theorem Tryz.bCheck_used(b:Nat)(w:World)(h0:w.cell? ⟨b,0,none⟩=some (.pointer (some ⟨b,0,none⟩))) :
  Calls Tryz.prog 164 #[.pointer (some ⟨b,0,none⟩)] w fun e w'=>e=.returned (.tuple #[])∧w'=w:=by
 obtain⟨j,hj,_⟩:=Option.map_eq_some_iff.1 Tryz.sizeBuilder
 go_enter Tryz.func164,Tryz.ntmps164
 go_wp2
 rw[Lib.run_neq_ptr_same w _ Tryz.underlying201 hj]
 go_wp2
 go_end0
 exact⟨rfl,rfl⟩
set_option maxHeartbeats 1000000 in
set_option maxRecDepth 100000 in
theorem Tryz.bCheck_fresh(b:Nat)(w:World)(h0:w.cell? ⟨b,0,none⟩=some (.pointer none))(hsh:w.shape? b=some (204,2))(hfz:w.frozen? ⟨b,0,none⟩=false) :
  Calls Tryz.prog 164 #[.pointer (some ⟨b,0,none⟩)] w fun e w'=>e=.returned (.tuple #[])∧w'=w.setCell ⟨b,0,none⟩ (.pointer (some ⟨b,0,none⟩)):=by
 obtain⟨j,hj,hjs⟩:=Option.map_eq_some_iff.1 Tryz.sizeBuilder
 go_enter Tryz.func164,Tryz.ntmps164
 go_wp2
 rw[Lib.run_to_unsafe w ⟨b,0,none⟩ Tryz.underlying201 Tryz.underlying267 hj (by rw[hjs];decide) hsh (Nat.zero_lt_succ 1)]
 simp only[Result.andThen]
 rw[Oper.upon_value]
 go_wp2
 rw[run_callFunc_extern Tryz.func196 (by kernel_rfl) (by kernel_rfl) (by kernel_rfl) (e:=Extern.AbiNoEscape.same) (by kernel_rfl)]
 rw[Lib.run_noEscape]
 simp only[Result.andThen]
 rw[Oper.upon_value]
 go_wp2
 rw[Lib.run_from_unsafe w ⟨b,0,none⟩ Tryz.underlying267 Tryz.underlying201 hj hsh Tryz.liesBuilder]
 simp only[Result.andThen]
 rw[Oper.upon_value]
 go_wp2
 go_end0
 exact⟨rfl,rfl⟩
theorem Tryz.bCheck(B b:Nat)(bs:List Value)(w:World)(h:Lib.IsBuilder 204 5 B b bs w) :
  Calls Tryz.prog 164 #[.pointer (some ⟨b,0,none⟩)] w fun e w'=>e=.returned (.tuple #[])∧(Lib.BuilderAt 204 5 B b (.pointer (some ⟨b,0,none⟩)) bs w'∧Below B w w'):=by
 rcases h with h | h
 ·refine(Tryz.bCheck_fresh b w h.cell0 h.shape h.frozen0).mono ?_
  rintro e w' ⟨rfl,rfl⟩
  exact⟨rfl,h.used _,(Below.refl B w).setCell (p:=⟨b,0,none⟩) h.1 _⟩
 ·refine(Tryz.bCheck_used b w h.cell0).mono ?_
  rintro e w' ⟨rfl,rfl⟩
  exact⟨rfl,h,Below.refl B _⟩
set_option maxHeartbeats 2000000 in
set_option maxRecDepth 100000 in
theorem Tryz.bWrite(B b:Nat)(bs:List Value)(s:ByteArray)(w:World)(h:Lib.IsBuilder 204 5 B b bs w)(hlen:bs.length+s.size≤140737488355328)(hBw:B≤w.heap.size) :
  Calls Tryz.prog 130 #[.pointer (some ⟨b,0,none⟩),.string s] w fun e w'=>e=.returned (.tuple #[.int .i64 s.size,.nilIface])∧(Lib.BuilderAt 204 5 B b (.pointer (some ⟨b,0,none⟩)) (bs++Lib.strCells s) w'∧Below B w w'):=by
 obtain⟨i0,hi,hz0,hz1,hz2⟩:=info_parts Tryz.infoByte
 go_enter Tryz.func130,Tryz.ntmps130
 go_wp2_with (go_at_call 164;refine(Tryz.bCheck B b bs _ h).mono ?_)
 rintro e w1 ⟨rfl,h1,hb1⟩
 obtain⟨hB,v,hbk,hown,hne⟩:=h1
 have c0:w1.cell? ⟨b,0,none⟩=some (.pointer (some ⟨b,0,none⟩)):=by rw[Lib.cell_of_heap hbk];rfl
 have c1:w1.cell? ⟨b,1,none⟩=some v:=by rw[Lib.cell_of_heap hbk];rfl
 go_wp2_with (at_builtin;refine Lib.wpList_append_own_string _ rfl _ _ 202 9 rfl B 5 i0 Tryz.underlying202 Tryz.underlying9 hi hz0 hz1 hz2 _ _ _ rfl hown s rfl ?c3 ?c4 ?c5 ?_)
 case c3=>unfold maxLen;omega
 case c4=>omega
 case c5=>have:=hb1.size;omega
 intro v' w2 hown' hgrow _
 have hlt:b<w1.heap.size:=by
  rcases Nat.lt_or_ge b w1.heap.size with h' | h'
  ·exact h'
  ·simp[Array.getElem?_eq_none h']at hbk
 have hb2:w2.heap[b]? = some (.cells #[.pointer (some ⟨b,0,none⟩),v] 204 (0,0)):=by
  rw[hgrow.block b hlt (fun e=>hne e.symm)]
  exact hbk
 have d0:w2.cell? ⟨b,0,none⟩=some (.pointer (some ⟨b,0,none⟩)):=by rw[Lib.cell_of_heap hb2];rfl
 have d1:w2.cell? ⟨b,1,none⟩=some v:=by rw[Lib.cell_of_heap hb2];rfl
 have f1:w2.frozen? ⟨b,1,none⟩=false:=Lib.frozen_of_heap hb2 1
 obtain⟨ao,n',cap,rfl⟩:∃ao n' cap,v'=.slice ao n' cap:=by
  rcases hown'.2 with ⟨hv,_⟩ | ⟨g,cap,cur,hv,_⟩
  ·exact⟨_,_,_,hv⟩
  ·exact⟨_,_,_,hv⟩
 go_wp2
 go_ret2
 refine⟨rfl,?_,?_⟩
 ·exact Lib.BuilderAt.put (T:=204) (e:=5) hB hb2 (bs':=bs++Lib.strCells s) (by simpa[Lib.strCells_length]using hown') (by decide)
 ·exact(hb1.grown hgrow (by have:=hb1.size;omega) (fun k hk=>(hown.lt k hk).1)).setCell (p:=⟨b,1,none⟩) hB _
end Go.Proofs
end
namespace Go.Ab
def pieces(n:Nat):List (List UInt8):=if h:n=0 then [] else digK 9 (n%1000000000)::pieces (n/1000000000)
termination_by n
decreasing_by exact Nat.div_lt_self (Nat.pos_of_ne_zero h) (by decide)
theorem zb3:pieces 0=[]:=by unfold pieces;simp
theorem zck{n:Nat}(h:n≠0):pieces n=digK 9 (n%1000000000)::pieces (n/1000000000):=by
 conv=>lhs;unfold pieces
 rw[dif_neg h]
def rowsS(l:List (List UInt8)):List (List AV):=l.map fun s=>[.s s]
@[simp] theorem zys(l:List (List UInt8)):(rowsS l).length=l.length:=by simp[rowsS]
@[simp] theorem zxs(l:List (List UInt8)):wkL (rowsS l)=rowsS l:=by
 induction l with
 | nil=>rfl
 | cons x l ih=>simpa[rowsS,wkL,wkR]using ih
theorem zvc(l:List (List UInt8))(s:List UInt8):rowsS l++[[.s s]]=rowsS (l++[s]):=by simp[rowsS]
def txL:AX:=
 (.note
 (.seq
 (.seq
  (.reg [⟨(some 11),none,.mov (.t 0)⟩,
   ⟨(some 12),none,.call 70 [(.t 11)]⟩,
   ⟨(some 13),none,.un .not (.t 12)⟩])
  (.cond (.t 13)
  .skip
  (.exit 0)))
 (.block 1
  (.seq
  (.reg [⟨(some 15),none,.mov (.t 0)⟩,
   ⟨(some 16),none,.call 90 [(.t 15),(.c (u32 1000000000))]⟩,
   ⟨(some 14),none,.mov (.t 16)⟩,
   ⟨(some 17),none,.ext (.t 14) 0⟩,
   ⟨(some 18),none,.ext (.t 14) 1⟩,
   ⟨(some 19),none,.ext (.t 14) 2⟩,
   ⟨(some 4),none,.mov (.t 17)⟩,
   ⟨(some 5),none,.mov (.t 18)⟩,
   ⟨(some 6),none,.mov (.t 19)⟩])
  (.seq
   (.reg [⟨(some 20),none,.mov (.t 3)⟩,
    ⟨(some 21),none,.mov (.t 5)⟩,
    ⟨(some 22),none,.call 101 [(.t 21)]⟩,
    ⟨(some 23),none,.bsl 1 [(.s [])] 1 [(0,(.t 22))]⟩,
    ⟨(some 24),none,.app 1 (.t 20) (.t 23)⟩,
    ⟨(some 3),none,.mov (.t 24)⟩])
   (.reg [⟨(some 25),none,.mov (.t 4)⟩,
    ⟨(some 0),none,.mov (.t 25)⟩])))))
 (.norm false [0,3]))
def tx0:AX:=(.reg [⟨(some 2),none,.mov (.c (.s []))⟩])
def txA:AX:=
  (.seq
  (.reg [⟨(some 9),none,.mov (.t 0)⟩,
   ⟨(some 10),none,.call 70 [(.t 9)]⟩])
  (.cond (.t 10)
   (.seq
   (.reg [⟨(some 2),none,.mov (.c (.s [48]))⟩])
   (.pre (.norm false [2]) .ret))
   .skip))
def tx3:AX:=(.note (.reg [⟨(some 3),none,.mov (.c (.sl [] .nl))⟩]) (.nil 3 1))
def txP:AX:=(.lp 0 (.norm false [0,3]) txL (.norm false [3]))
section
variable{T:Tbl}
theorem zaee(x:AV):evX (orc T) T 0 tx0 ⟨argEnv [x],[],1⟩=some (.n,⟨[(2,.s []),(0,x)],[],1⟩):=by
 simp -implicitDefEqProofs[tx0]
end
section
variable{T:Tbl}[CNat T]
theorem z6g(a:List UInt32)(hl:a.length≤1000)(h0:val a=0):evX (orc T) T 0 txA ⟨[(2,.s []),(0,.sl (u32s a) .an)],[],1⟩=some (.r,⟨[(2,.s [48])],[],2⟩):=by
 have hz:=zfk (T:=T) a (by omega)
 simp -implicitDefEqProofs[txA,hz,h0]
end
section
variable{T:Tbl}[CNat T]
theorem z6h(a:List UInt32)(hl:a.length≤1000)(h0:val a≠0):evX (orc T) T 0 txA ⟨[(2,.s []),(0,.sl (u32s a) .an)],[],1⟩ =
  some (.n,⟨[(10,.b false),(9,.sl (u32s a) .an),(2,.s []),(0,.sl (u32s a) .an)],[],1⟩):=by
 have hz:=zfk (T:=T) a (by omega)
 simp -implicitDefEqProofs[txA,hz,h0]
end
section
variable{T:Tbl}[CNat T][CProd T][CTwos T][CQuot T][CDigits T]
def stTp(a:List UInt32)(l:List (List UInt8)):St:=⟨[(0,.sl (u32s a) .an),(3,.bs (.loc 3) 1 1 0 l.length)],[((.loc 3),⟨1,.own,1,rowsS l⟩)],3⟩
theorem zrd(l:List (List UInt8))(s:List UInt8):wkL (List.take l.length (rowsS l)++[[AV.s s]])=rowsS (l++[s]):=by
 rw[List.take_of_length_le (by simp),zvc,zxs]
end
section
variable{T:Tbl}[CNat T][CQuot T][CDigits T]
theorem zxt(N:Nat)(hN:N≤4294967295)(L:List (List UInt8)):∀y:List UInt32×List (List UInt8),(y.1.length≤1000∧y.2++pieces (val y.1)=L∧L.length=N) →
  loopN T 0 0 (Gh.norm false [3]) txL (stTp y.1 y.2)=some (.n,⟨[(3,.bs (.loc 3) 1 1 0 L.length)],[((.loc 3),⟨1,.own,1,rowsS L⟩)],3⟩):=by
 refine za8 (fun y:List UInt32×List (List UInt8)=>stTp y.1 y.2) _ (fun y=>val y.1) _ ?_
 rintro⟨a,l⟩ ⟨ha,hL,hn⟩
 simp only at ha hL hn
 have hz:=zfk (T:=T) a (by omega)
 by_cases h0:val a=0
 ·right
  rw[h0,zb3,List.append_nil]at hL
  subst hL
  constructor<;>simp -implicitDefEqProofs[txL,stTp,hz,h0]
 ·left
  have hq:=zlv (T:=T) a 1000000000 (by omega) (by omega) (by omega)
  have hn9:=zna (T:=T) (val a%1000000000) (by omega)
  have hlen:(ofN (val a/1000000000)).length≤a.length:=Nat.le_trans (zbc (Nat.div_le_self _ _)) (zad a)
  rw[zck h0]at hL
  have hll:l.length≤4294967295:=by have:=congrArg List.length hL;simp at this;omega
  refine⟨(ofN (val a/1000000000),l++[digK 9 (val a%1000000000)]),⟨by simp only;omega,by simp only[zaf,List.append_assoc,List.singleton_append];exact hL,hn⟩,?_,?_,rfl⟩
  ·simp only[zaf]
   exact Nat.div_lt_self (Nat.pos_of_ne_zero h0) (by decide)
  ·simp -implicitDefEqProofs[txL,stTp,hz,hq,hn9,h0,hll,zrd]
end
section
variable{T:Tbl}[CNat T][CProd T][CTwos T][CQuot T][CDigits T]
theorem zfs:∀k n,n<1000000000^k→(pieces n).length≤k
 | 0,n,h=>by
  have:n=0:=by omega
  subst this
  simp[zb3]
 | k+1,n,h=>by
  by_cases h0:n=0
  ·subst h0;simp[zb3]
  ·rw[zck h0]
   have:=zfs k (n/1000000000) (Nat.div_lt_of_lt_mul (by rw[Nat.mul_comm,←Nat.pow_succ];exact h))
   simp only[List.length_cons]
   omega
theorem zmk(a:List UInt32):(pieces (val a)).length≤2*a.length:=by
 refine zfs _ _ (Nat.lt_of_lt_of_le (za5 a) ?_)
 rw[Nat.pow_mul]
 exact Nat.pow_le_pow_left (by decide) _
theorem znq:∀n,∀s∈pieces n,s.length=9:=by
 intro n
 induction n using Nat.strongRecOn with
 | _ n ih=>
  intro s hs
  by_cases h0:n=0
  ·subst h0;simp[zb3]at hs
  ·rw[zck h0]at hs
   rcases List.mem_cons.1 hs with rfl | hs
   ·exact zex 9 _
   ·exact ih _ (Nat.div_lt_self (Nat.pos_of_ne_zero h0) (by decide)) s hs
theorem zje:∀(k n:Nat),n≠0→n<10^k→(digK k n).dropWhile (· == 48)=textN n
 | 0,n,h0,h=>by omega
 | k+1,n,h0,h=>by
  rw[zd4]
  by_cases h1:n<10
  ·have e:n/10=0:=by omega
   have e2:n%10=n:=by omega
   have hz:∀j,(digK j 0).dropWhile (· == 48)=[]:=by
    intro j
    induction j with
    | zero=>rfl
    | succ j ih=>rw[zd4,List.dropWhile_append,Nat.zero_div,ih];rfl
   rw[e,e2,List.dropWhile_append,hz,zdt h1]
   have:∀d,d<10→d≠0→List.dropWhile (fun x=>x == 48) [UInt8.ofNat (48+d)]=[UInt8.ofNat (48+d)]:=by decide
   simpa using this n h1 h0
  ·have ih:=zje k (n/10) (by omega) (Nat.div_lt_of_lt_mul (by rw[Nat.mul_comm,←Nat.pow_succ];exact h))
   have hne:textN (n/10)≠[]:=by
    unfold textN
    by_cases h2:n/10<10
    ·rw[zi8 h2];simp
    ·rw[zo2 h2];simp
   rw[List.dropWhile_append,ih,zmg h1]
   rw[if_neg (by simpa using hne)]
theorem zo9(j:Nat):∀(k n:Nat),digK (j+k) n=digK j (n/10^k)++digK k (n%10^k)
 | 0,n=>by simp[zh0]
 | k+1,n=>by
  rw[←Nat.add_assoc,zd4,zo9 j k (n/10),zd4,List.append_assoc]
  have e1:n/10/10^k=n/10^(k+1):=by rw[Nat.div_div_eq_div_mul,Nat.pow_succ,Nat.mul_comm]
  have e2:n/10%10^k=n%10^(k+1)/10:=by rw[Nat.pow_succ,Nat.mul_comm,Nat.mod_mul_right_div_self]
  have e3:n%10^(k+1)%10=n%10:=by rw[Nat.pow_succ,Nat.mod_mul_left_mod]
  rw[e1,e2,e3]
theorem znr:∀n,(pieces n).reverse.flatten=digK (9*(pieces n).length) n:=by
 intro n
 induction n using Nat.strongRecOn with
 | _ n ih=>
  by_cases h0:n=0
  ·subst h0;simp[zb3,zh0]
  ·rw[zck h0,List.reverse_cons,List.flatten_append,ih _ (Nat.div_lt_self (Nat.pos_of_ne_zero h0) (by decide))]
   simp only[List.length_cons,List.flatten_cons,List.flatten_nil,List.append_nil]
   rw[show 9*((pieces (n/1000000000)).length+1)=9*(pieces (n/1000000000)).length+9 by omega,zo9]
theorem zvd:∀n,n<10^(9*(pieces n).length):=by
 intro n
 induction n using Nat.strongRecOn with
 | _ n ih=>
  by_cases h0:n=0
  ·subst h0;simp[zb3]
  ·have h:=ih _ (Nat.div_lt_self (Nat.pos_of_ne_zero h0) (by decide:1<1000000000))
   rw[zck h0,List.length_cons,Nat.mul_add,Nat.pow_add]
   exact(Nat.div_lt_iff_lt_mul (by decide:0<10^(9*1))).1 h
theorem zns(n:Nat)(h:n≠0):((pieces n).reverse.flatten).dropWhile (· == 48)=textN n:=by
 rw[znr]
 exact zje _ n h (zvd n)
theorem zcw:∀(l:List (List UInt8)),(∀s∈l,s.length=9)→l.flatten.length=9*l.length
 | [],_=>rfl
 | s::l,h=>by
  rw[List.flatten_cons,List.length_append,h s List.mem_cons_self,zcw l fun s hs=>h s (List.mem_cons_of_mem _ hs),List.length_cons]
  omega
def stT3(a:List UInt32):St:=⟨[(3,.bs (.loc 3) 1 1 0 0),(3,.sl [] .nl),(10,.b false),(9,.sl (u32s a) .an),(2,.s []),(0,.sl (u32s a) .an)],[(.loc 3,⟨1,.own,1,[]⟩)],2⟩
end
section
variable{T:Tbl}
theorem zaef(a:List UInt32):evX (orc T) T 0 tx3 ⟨[(10,.b false),(9,.sl (u32s a) .an),(2,.s []),(0,.sl (u32s a) .an)],[],1⟩=some (.n,stT3 a):=by
 simp -implicitDefEqProofs[tx3,stT3]
end
section
variable{T:Tbl}[CNat T][CQuot T][CDigits T]
theorem zaeg(a:List UInt32)(hl:a.length≤1000):evX (orc T) T 0 txP (stT3 a) =
  some (.n,⟨[(3,.bs (.loc 3) 1 1 0 (pieces (val a)).length)],[((.loc 3),⟨1,.own,1,rowsS (pieces (val a))⟩)],3⟩):=by
 have hp:=zmk a
 have h:=zxt (T:=T) (pieces (val a)).length (by omega) (pieces (val a)) (a,[]) ⟨by simpa using hl,rfl,rfl⟩
 unfold stTp at h
 simp[rowsS]at h
 simp -implicitDefEqProofs[stT3,txP,h,rowsS]
end
section
variable{T:Tbl}
theorem zq4(res:List UInt8):∀l:List UInt8,(l.length≤1000000∧l.dropWhile (· == 48)=res) →
  loopN T 0 0 (.norm false [0]) l125_0 ⟨[(0,.s l),(1,u8 48)],[],2⟩=some (.n,⟨[(0,.s res)],[],2⟩):=by
 refine za8 (fun l:List UInt8=>⟨[(0,.s l),(1,u8 48)],[],2⟩) _ (fun l=>l.length) _ ?_
 rintro l ⟨hl,hr⟩
 cases l with
 | nil=>
  right
  simp at hr
  subst hr
  constructor<;>simp -implicitDefEqProofs[l125_0]
 | cons c r=>
  simp only[List.length_cons]at hl
  have h2:(0:Int)<(r.length:Int)+1:=by omega
  have h3:(1:Int)≤(r.length:Int)+1:=by omega
  by_cases hc:c=48
  ·left
   subst hc
   rw[List.dropWhile_cons_of_pos (by decide)]at hr
   exact⟨r,⟨by omega,hr⟩,Nat.lt_succ_self _,by simp -implicitDefEqProofs[l125_0,h2,h3],rfl⟩
  ·right
   rw[List.dropWhile_cons_of_neg (by simpa using hc)]at hr
   subst hr
   have hc':¬ c.toNat=48:=fun h=>hc (UInt8.toNat_inj.1 h)
   constructor<;>simp -implicitDefEqProofs[l125_0,h2,hc']
end
section
variable{T:Tbl}[CTrim T]
theorem zuv(l:List UInt8)(hl:l.length≤1000000):callF T 103 [.s l,.s [48]]=some (.s (l.dropWhile (· == 48))):=by
 have h:=zq4 (T:=T) _ l ⟨hl,rfl⟩
 have h1:callF T 125 [.s l,u8 48]=some (.s (l.dropWhile (· == 48))):=by
  rw[f125 _ rfl,b125]
  simp -implicitDefEqProofs[h]
 obtain⟨Z,hZ⟩:∃Z,b103=(.seq
 (.reg [⟨(some 4),none,.mov (.c (.s []))⟩])
 (.seq
  (.seq
  (.reg [⟨(some 7),none,.mov (.t 0)⟩,
   ⟨(some 8),none,.bin .eql (.t 7) (.c (.s []))⟩,
   ⟨(some 9),none,.mov (.t 8)⟩,
   ⟨(some 10),(some (9,false)),.mov (.t 1)⟩,
   ⟨(some 11),(some (9,false)),.bin .eql (.t 10) (.c (.s []))⟩,
   ⟨(some 12),none,.pick (.t 9) (.c (.b true)) (.t 11)⟩])
  (.cond (.t 12)
   (.seq
   (.reg [⟨(some 13),none,.mov (.t 0)⟩,
    ⟨(some 4),none,.mov (.t 13)⟩])
   (.pre (.norm false [4]) .ret))
   .skip))
  (.seq
  (.seq
   (.reg [⟨(some 14),none,.mov (.t 1)⟩,
    ⟨(some 15),none,.lens (.t 14)⟩,
    ⟨(some 16),none,.bin .eql (.t 15) (.c (.i .i64 1))⟩,
    ⟨(some 17),none,.mov (.t 16)⟩,
    ⟨(some 18),(some (17,true)),.mov (.t 1)⟩,
    ⟨(some 19),(some (17,true)),.ixs (.t 18) (.c (.i .i64 0))⟩,
    ⟨(some 20),(some (17,true)),.bin .lss (.t 19) (.c (u8 128))⟩,
    ⟨(some 21),none,.pick (.t 17) (.t 20) (.c (.b false))⟩])
   (.cond (.t 21)
   (.seq
    (.reg [⟨(some 22),none,.mov (.t 0)⟩,
     ⟨(some 23),none,.mov (.t 1)⟩,
     ⟨(some 24),none,.ixs (.t 23) (.c (.i .i64 0))⟩,
     ⟨(some 25),none,.call 125 [(.t 22),(.t 24)]⟩,
     ⟨(some 4),none,.mov (.t 25)⟩])
    (.pre (.norm false [4]) .ret))
   .skip)) Z)):AX):=⟨_,rfl⟩
 rw[f103 _ rfl,hZ]
 by_cases h0:l=[]
 ·subst h0
  simp -implicitDefEqProofs
 ·simp -implicitDefEqProofs[h0,h1]
end
section
variable{P:Program}{ν:Nat→FuncId}{T:Tbl}
theorem zs3(hT:TOk P ν T)(hm:P.follows .mixedOrders=true){cx:Cx}(hP:cx.P=P)(hk:cx.clk0=1)(c:AX){code:Code}{nt:Nat}(hnt:cx.nt=nt)(hres:resCode P nt code=some (er ν (tyNum T) c)){st:St}{e:Ex}{st':St}
  (h:evX (orc T) T 0 c st=some (e,st')) {a:Act} {w:World} (hr:Rel cx st a w) {K:Exit→Act→World→Prop} (hK:∀a' w',Rel cx st' a' w'→K e.out a' w'):code.wp P K a w:=by
 obtain⟨L,h1,h2⟩:=zcq T 0 c st _ _ h
 obtain⟨n,hn⟩:=zm8 T h1
 have hev:=zba (GoodO.orcN hT hm n) (k:=0) (cx:=cx) hP hk c st e st' (h2 _ hn)
 subst hP hnt
 refine wp_mono (hev code hres hm a w hr) ?_
 rintro ex a' w' ⟨s,⟨rfl,rfl⟩,hr'⟩
 exact hK a' w' hr'
theorem zs4{nt:Nat}{w:World}{S:Nat→Nat→Prop}{cargs:Array Value}{args:List AV}(hl:cargs.size=args.length)(hn:args.length≤nt)
  (hC:∀(j:Nat) (v:Value) (c:AV),cargs[j]? = some v→args[j]? = some c→CP w S v c) (hS:∀k o,S k o→k<w.heap.size) :
  Rel ⟨P,nt,w,S,fun _=>none,1⟩ ⟨argEnv args,[],1⟩ { tmps:=cargs++Array.replicate (nt-cargs.size) undef,defers:=[] } w:=by
 refine⟨S,fun _=>none,by simp;omega,rfl,fun t=>?_,⟨⟨fun b bx hb=>(by simp at hb),fun g m hm=>(by cases hm),fun b bx b' bx' h1=>(by simp at h1),fun g g' k h1=>(by cases h1)⟩,
  Ext.refl _ _ _ _,⟨rfl,rfl,rfl,Nat.le_refl _,fun _ _ _=>rfl⟩,fun k o hs=>.inl hs,hS,fun g k hm=>(by cases hm)⟩⟩
 rw[zil]
 cases ha:args[t]? with
 | none=>exact .p (.dead _)
 | some x=>
  have htl:=zat ha
  have hv:cargs[t]? = some (cargs[t]'(by omega)):=Array.getElem?_eq_getElem _
  have e1:(cargs++Array.replicate (nt-cargs.size) undef).getD t undef=cargs[t]'(by omega):=by
   simp only[Array.getD_eq_getD_getElem?]
   rw[Array.getElem?_append_left (by omega),hv]
   rfl
  rw[e1]
  exact .p (hC t _ x hv ha)
theorem Rel.below{nt:Nat}{w0:World}{S:Nat→Nat→Prop}{st:St}{a:Act}{w:World}(h:Rel ⟨P,nt,w0,S,fun _=>none,1⟩ st a w):RowKit.Below w0.heap.size w0 w:=by
 obtain⟨S',M',hr⟩:=h
 exact⟨hr.wr.fr.os,hr.wr.fr.tape,hr.wr.fr.output,hr.wr.fr.size,fun k hk=>hr.wr.fr.block k hk fun⟨g,hg⟩=>(by cases hg)⟩
theorem Rel.strAt{cx:Cx}{st:St}{a:Act}{w:World}(h:Rel cx st a w){t:Nat}{l:List UInt8}(he:st.env.get t=.s l):a.tmps.getD t undef=.string ⟨l.toArray⟩:=by
 obtain⟨S',M',hr⟩:=h
 have:=hr.env t
 rw[he]at this
 generalize a.tmps.getD t undef=v at *
 cases this with
 | p h=>cases h;rfl
theorem Rel.strs{cx:Cx}{st:St}{a:Act}{w:World}(h:Rel cx st a w){t:Nat}{b:BId}{g n:Nat}{ls:List (List UInt8)}(hne:ls≠[])(he:st.env.get t=.bs b g 1 0 n)
  (hb:st.heap.lookup b=some ⟨g,.own,1,ls.map fun s=>[.s s]⟩):∃k arr e cap,a.tmps.getD t undef=.slice (some ⟨k,0,none⟩) n cap∧w.heap[k]? = some (.cells arr e (0,0))∧n≤cap∧cap≤maxLen∧cap≤arr.size ∧
   ∀(i:Nat) (s:List UInt8),ls[i]? = some s→arr[i]? = some (Value.string ⟨s.toArray⟩):=by
 obtain⟨S',M',hr⟩:=h
 have h1:=hr.env t
 rw[he]at h1
 obtain⟨_,_,m,hm,h2⟩:=hr.wr.heap.box b _ hb
 simp only at hm h2
 generalize a.tmps.getD t undef=v at *
 cases h1 with
 | p h=>cases h
 | bs _ _ _ _ _ _ hg hB h1=>
  unfold BsOk at hB
  rw[hm]at hB
  cases m with
  | none=>exact absurd (by simpa using h2.1) hne
  | some k=>
   obtain⟨arr,e,cap,hk,hv,c1,c2,c3⟩:=hB
   obtain⟨arr',e',hk',_,hcells,_⟩:=h2
   rw[hk]at hk'
   cases hk'
   refine⟨k,arr,e,cap,by rw[hv],hk,c1,c2,by omega,fun i s hi=>?_⟩
   obtain⟨u,hu,_,_,hc⟩:=hcells i [.s s] 0 (.s s) (by simp[hi]) rfl
   have:=hc (by simp)
   rw[Nat.mul_one,Nat.add_zero]at hu
   cases this
   exact hu
end
end Go.Ab
section
namespace Go.Proofs.YtjeddlbpajjjmaaGreatDoor
open Go Go.Ab Go.RowKit
theorem list_cons{α:Type}{n:Nat}{l:List α}(h:l.length=n+1):∃x t,l=x::t∧t.length=n:=by
 cases l with
 | nil=>simp at h
 | cons x t=>exact⟨x,t,rfl,by simpa using h⟩
set_option maxHeartbeats 2000000 in
set_option maxRecDepth 100000 in
theorem text_calls(hm:Tryz.prog.follows .mixedOrders=true)(a:List UInt32)(hl:a.length≤1000){w0:World}{S:Nat→Nat→Prop}{cargs:Array Value}(hsz:cargs.size=1)
  (hC:∀(j:Nat) (v:Value) (c:AV),cargs[j]? = some v→[AV.sl (u32s a) .an][j]? = some c→CP w0 S v c) (hS:∀k o,S k o→k<w0.heap.size) :
  Calls Tryz.prog 128 cargs w0 fun e w'=>e=.returned (.string ⟨(textN (val a)).toArray⟩)∧Below w0.heap.size w0 w':=by
 refine calls_of_wp Tryz.func128 rfl ?_
 have h0:=zs4 (P:=Tryz.prog) (nt:=40) (w:=w0) (S:=S) (cargs:=cargs) (args:=[AV.sl (u32s a) .an]) (by simpa using hsz) (by simp) hC hS
 refine wp_seq (zs3 sTab_ok hm (cx:=⟨Tryz.prog,40,w0,S,fun _=>none,1⟩) rfl rfl tx0 (nt:=40) rfl (by kernel_rfl) (sTab_part.ev (by kernel_rfl) (zaee (T:=tab) _)) h0 fun a1 w1 h1=>?_)
 refine wp_seq ?_
 by_cases hz:val a=0
 ·refine zs3 sTab_ok hm (cx:=⟨Tryz.prog,40,w0,S,fun _=>none,1⟩) rfl rfl txA (nt:=40) rfl (by kernel_rfl) (sTab_part.ev (by kernel_rfl) (z6g (T:=tab) a hl hz)) h1 fun a2 w2 h2=>?_
  have hv:=h2.strAt (t:=2) (l:=[48]) rfl
  have hb:=h2.below
  have ht:textN (val a)=[48]:=by rw[hz];exact zdt (by decide)
  obtain⟨_,_,hr2⟩:=h2
  refine(show bodyPost Tryz.prog Tryz.f128 (fun e w'=>e=.returned (.string ⟨(textN (val a)).toArray⟩)∧Below w0.heap.size w0 w') .ret a2 w2 from ?_)
  refine⟨hr2.defers,.string ⟨[48].toArray⟩,?_,by rw[ht],hb⟩
  rw[←hv]
  exact results_tmp rfl _ _ _
 ·refine zs3 sTab_ok hm (cx:=⟨Tryz.prog,40,w0,S,fun _=>none,1⟩) rfl rfl txA (nt:=40) rfl (by kernel_rfl) (sTab_part.ev (by kernel_rfl) (z6h (T:=tab) a hl hz)) h1 fun a2 w2 h2=>?_
  refine wp_seq (zs3 sTab_ok hm (cx:=⟨Tryz.prog,40,w0,S,fun _=>none,1⟩) rfl rfl tx3 (nt:=40) rfl (by kernel_rfl) (sTab_part.ev (by kernel_rfl) (zaef (T:=tab) a)) h2 fun a3 w3 h3=>?_)
  refine wp_seq (zs3 sTab_ok hm (cx:=⟨Tryz.prog,40,w0,S,fun _=>none,1⟩) rfl rfl txP (nt:=40) rfl (by kernel_rfl) (sTab_part.ev (by kernel_rfl) (zaeg (T:=tab) a hl)) h3 fun a4 w4 h4=>?_)
  have hb4:=h4.below
  have hne:pieces (val a)≠[]:=by rw[zck hz];simp
  obtain⟨k,arr,e,cap,hv,hk,hc1,hc2,hc3,hcells⟩:=h4.strs (t:=3) (ls:=pieces (val a)) hne rfl (by simp[rowsS])
  obtain⟨_,_,hr4⟩:=h4
  have hdf:=hr4.defers
  have hsz:=hr4.size
  have hpl:=zmk a
  clear hr4 h0 h1 h2 h3
  change Code.wp _ _ _ a4 w4
  obtain⟨tm,df⟩:=a4
  obtain⟨l,rfl⟩:∃l:List Value,tm=l.toArray:=⟨tm.toList,by simp⟩
  simp only[List.size_toArray]at hsz
  simp only at hdf
  subst hdf
  obtain⟨x0,l0,rfl,s0⟩:=list_cons hsz
  obtain⟨x1,l1,rfl,s1⟩:=list_cons s0
  obtain⟨x2,l2,rfl,s2⟩:=list_cons s1
  obtain⟨x3,l3,rfl,s3⟩:=list_cons s2
  obtain⟨x4,l4,rfl,s4⟩:=list_cons s3
  obtain⟨x5,l5,rfl,s5⟩:=list_cons s4
  obtain⟨x6,l6,rfl,s6⟩:=list_cons s5
  obtain⟨x7,l7,rfl,s7⟩:=list_cons s6
  obtain⟨x8,l8,rfl,s8⟩:=list_cons s7
  obtain⟨x9,l9,rfl,s9⟩:=list_cons s8
  obtain⟨x10,l10,rfl,s10⟩:=list_cons s9
  obtain⟨x11,l11,rfl,s11⟩:=list_cons s10
  obtain⟨x12,l12,rfl,s12⟩:=list_cons s11
  obtain⟨x13,l13,rfl,s13⟩:=list_cons s12
  obtain⟨x14,l14,rfl,s14⟩:=list_cons s13
  obtain⟨x15,l15,rfl,s15⟩:=list_cons s14
  obtain⟨x16,l16,rfl,s16⟩:=list_cons s15
  obtain⟨x17,l17,rfl,s17⟩:=list_cons s16
  obtain⟨x18,l18,rfl,s18⟩:=list_cons s17
  obtain⟨x19,l19,rfl,s19⟩:=list_cons s18
  obtain⟨x20,l20,rfl,s20⟩:=list_cons s19
  obtain⟨x21,l21,rfl,s21⟩:=list_cons s20
  obtain⟨x22,l22,rfl,s22⟩:=list_cons s21
  obtain⟨x23,l23,rfl,s23⟩:=list_cons s22
  obtain⟨x24,l24,rfl,s24⟩:=list_cons s23
  obtain⟨x25,l25,rfl,s25⟩:=list_cons s24
  obtain⟨x26,l26,rfl,s26⟩:=list_cons s25
  obtain⟨x27,l27,rfl,s27⟩:=list_cons s26
  obtain⟨x28,l28,rfl,s28⟩:=list_cons s27
  obtain⟨x29,l29,rfl,s29⟩:=list_cons s28
  obtain⟨x30,l30,rfl,s30⟩:=list_cons s29
  obtain⟨x31,l31,rfl,s31⟩:=list_cons s30
  obtain⟨x32,l32,rfl,s32⟩:=list_cons s31
  obtain⟨x33,l33,rfl,s33⟩:=list_cons s32
  obtain⟨x34,l34,rfl,s34⟩:=list_cons s33
  obtain⟨x35,l35,rfl,s35⟩:=list_cons s34
  obtain⟨x36,l36,rfl,s36⟩:=list_cons s35
  obtain⟨x37,l37,rfl,s37⟩:=list_cons s36
  obtain⟨x38,l38,rfl,s38⟩:=list_cons s37
  obtain⟨x39,l39,rfl,s39⟩:=list_cons s38
  cases List.eq_nil_of_length_eq_zero s39
  have hx3:x3=.slice (some ⟨k,0,none⟩) (pieces (val a)).length cap:=hv
  subst hx3
  have hjoin:=zns (val a) hz
  have hall:=znq (val a)
  generalize pieces (val a)=ps at *
  have HC:Aside (∀(i:Nat) (s:List UInt8),ps[i]? = some s→arr[i]? = some (Value.string ⟨s.toArray⟩)):=hcells
  have HJ:Aside (List.dropWhile (fun x=>x == 48) ps.reverse.flatten=textN (val a)):=hjoin
  have HN:Aside (∀s∈ps,s.length=9):=hall
  have HB:Aside (Below w0.heap.size w0 w4):=hb4
  have HK:Aside (w4.heap[k]? = some (.cells arr e (0,0))):=hk
  have hk4:k<w4.heap.size:=by
   rcases Nat.lt_or_ge k w4.heap.size with h' | h'
   ·exact h'
   ·simp[Array.getElem?_eq_none h']at hk
  clear hcells hjoin hall hb4 hk
  go_wp2
  go_loopg [8] ps.length (fun g s8 wx=>s8=.int .i64 ((g:Int)-1)∧g≤ps.length∧Aside (Lib.IsBuilder 204 5 w4.heap.size w4.heap.size (Lib.byteCells (ps.drop g).reverse.flatten) wx∧Below w4.heap.size w4 wx))
  case atStart=>exact⟨rfl,Nat.le_refl _,by rw[List.drop_length];exact Lib.fresh_isBuilder 204 5 w4,(Below.refl _ _).alloc (Nat.le_refl _) _⟩
  case round=>
   obtain⟨rfl,hg,HW⟩:=hrel
   cases gk with
   | zero=>
    obtain⟨hBld,hBel⟩:=HW.out
    rw[List.drop_zero]at hBld
    have hne':ps.reverse.flatten≠[]:=by
     intro h
     have:=zcw ps.reverse (fun s hs=>HN.out s (List.mem_reverse.1 hs))
     rw[h]at this
     simp at this
     exact hne (List.eq_nil_of_length_eq_zero (by omega))
    have HT:Aside (ps.reverse.flatten≠[]):=hne'
    clear hne'
    have hlenF:ps.reverse.flatten.length≤1000000:=by
     rw[zcw ps.reverse (fun s hs=>HN.out s (List.mem_reverse.1 hs)),List.length_reverse]
     omega
    have hT:∀W:World,Calls Tryz.prog 163 #[.string ⟨ps.reverse.flatten.toArray⟩,.string ⟨#[48]⟩] W fun e w'=>e=.returned (.string ⟨(textN (val a)).toArray⟩)∧Below W.heap.size W w':=by
     intro W
     have h1:=zhj sTab_ok hm (u:=103) rfl rfl (sTab_part.call (by kernel_rfl) (zuv (T:=tab) ps.reverse.flatten hlenF))
     rw[HJ.out]at h1
     refine(h1.2 W (fun _ _=>False) #[.string ⟨ps.reverse.flatten.toArray⟩,.string ⟨#[48]⟩] rfl (fun j v c hv hc=>?_) (fun _ _ h=>h.elim)).mono ?_
     ·match j,hv,hc with
      | 0,hv,hc=>cases hv;cases hc;exact .s _
      | 1,hv,hc=>cases hv;cases hc;exact .s _
     ·rintro e w' ⟨v,r,rfl,rfl,hb,hc⟩
      cases hc
      exact⟨rfl,hb⟩
    have HTT:=hT
    clear hT
    go_wp2_with (go_at_call 131;refine(Tryz.bString w4.heap.size w4.heap.size ps.reverse.flatten wr hBld HT.out).mono ?_)
    rintro e1 w5 ⟨rfl,hb5⟩
    go_wp2_with (go_at_call 163;refine(HTT w5).mono ?_)
    rintro e2 w6 ⟨rfl,hb6⟩
    go_wp2
    go_ret
    refine⟨rfl,?_⟩
    have hs1:=HB.out.size
    have hs5:=(hBel.trans hb5).size
    exact HB.out.trans (((hBel.trans hb5).mono hs1).trans (hb6.mono (by omega)))
   | succ j=>
    obtain⟨hBld,hBel⟩:=HW.out
    obtain⟨s,hs⟩:∃s,ps[j]? = some s:=⟨_,List.getElem?_eq_getElem (by omega)⟩
    have hcell:wr.cell? ⟨k,j,none⟩=some (.string ⟨s.toArray⟩):=by
     rw[hBel.cell (p:=⟨k,j,none⟩) hk4,Lib.cell_of_heap HK.out]
     exact HC.out j s hs
    have hs9:s.length=9:=HN.out s (List.mem_of_getElem? hs)
    have hflen:=zcw (ps.drop (j+1)).reverse (fun s hs=>HN.out s (List.mem_of_mem_drop (List.mem_reverse.1 hs)))
    have HS:Aside (ps[j]? = some s):=hs
    clear hs
    rw[List.length_reverse,List.length_drop]at hflen
    have hbound:(Lib.byteCells (ps.drop (j+1)).reverse.flatten).length+(⟨s.toArray⟩:ByteArray).size≤140737488355328:=by
     rw[Lib.byteCells_length,hflen]
     show _+s.toArray.size≤_
     simp only[List.size_toArray]
     omega
    have HF:Aside ((Lib.byteCells (ps.drop (j+1)).reverse.flatten).length+(⟨s.toArray⟩:ByteArray).size≤140737488355328):=hbound
    clear hflen hbound
    go_wp2_with (go_at_call 130;refine(Tryz.bWrite w4.heap.size w4.heap.size _ ⟨s.toArray⟩ wr hBld HF.out hBel.size).mono ?_)
    rintro e1 w5 ⟨rfl,h5,hb5⟩
    go_wp2
    go_roundg j
    case measure=>omega
    case rel=>
     refine⟨by congr 1,by omega,?_,hBel.trans hb5⟩
     have e1:(ps.drop j).reverse.flatten=(ps.drop (j+1)).reverse.flatten++s:=by
      obtain⟨hj,he⟩:=List.getElem?_eq_some_iff.1 HS.out
      rw[List.drop_eq_getElem_cons hj,he]
      simp
     rw[e1,Lib.byteCells_append]
     exact .inr h5
theorem word_rows:∀(els:List (List AV)) (l:List UInt32),els.mapM wordOf=some l→els=u32s l
 | [],l,h=>by cases h;rfl
 | r::els,l,h=>by
  rw[List.mapM_cons]at h
  obtain⟨x,hx,h1⟩:=bind_some h
  obtain⟨y,hy,h2⟩:=bind_some h1
  cases h2
  rw[word_rows els y hy]
  unfold wordOf at hx
  split at hx
  ·split at hx
   ·cases hx
    rename_i n hn
    have:(w32 n.toNat).toNat=n.toNat:=zag (by omega)
    simp only[u32s,List.map_cons,this,u32]
    rw[Int.toNat_of_nonneg hn.1]
   ·cases hx
  ·cases hx
theorem text_ok(hm:Tryz.prog.follows .mixedOrders=true):∀xs r,prim68 xs=some r→PCall Tryz.prog (nu 68) xs (·=r):=by
 intro xs r h
 unfold prim68 at h
 split at h
 ·split at h
  ·rename_i els hl
   cases hw:els.mapM wordOf with
   | none=>rw[hw]at h;cases h
   | some l=>
    rw[hw]at h
    cases h
    have he:=word_rows els l hw
    subst he
    rw[zhk]at hl
    refine⟨enters_of Tryz.func128 (by kernel_rfl) rfl,fun w S cargs hsz hC hS=>?_⟩
    refine(text_calls hm l hl (by simpa using hsz) hC hS).mono ?_
    rintro e w' ⟨rfl,hb⟩
    exact⟨_,_,rfl,rfl,hb,.s _⟩
  ·cases h
 ·cases h
#print axioms text_ok
end Go.Proofs.YtjeddlbpajjjmaaGreatDoor
end
section
set_option linter.unusedVariables false
namespace Go.Proofs
open Go.Shelf Go.RowKit
variable{P:Program}{ρ:Ren}
structure JL (P:Program) (ρ:Ren):Prop extends Lays.n169 P ρ,Lays.n241 P ρ,Builder.Extra P ρ where
 f156:P.funcs[ρ.f 156]? = some (Body.n156 ρ)
 f165:P.funcs[ρ.f 165]? = some (Body.n165 ρ)
 f166:P.funcs[ρ.f 166]? = some (Body.n166 ρ)
 t4:P.underlying (ρ.t 4)=some (TypeDesc.bool)
 a4:∀w,(isAgg (ρ.t 4)).run P w=.ok false w
 z4:∀w,(Go.sizeOf (ρ.t 4)).run P w=.ok 1 w
 v4:∀w,(zeroValue (ρ.t 4)).run P w=.ok (Value.bool false) w
 t20:P.underlying (ρ.t 20)=some (TypeDesc.interface #[])
 a20:∀w,(isAgg (ρ.t 20)).run P w=.ok false w
 z20:∀w,(Go.sizeOf (ρ.t 20)).run P w=.ok 1 w
 v20:∀w,(zeroValue (ρ.t 20)).run P w=.ok (Value.nilIface) w
 t31:P.underlying (ρ.t 31)=some (TypeDesc.slice (ρ.t 9))
 a31:∀w,(isAgg (ρ.t 31)).run P w=.ok false w
 z31:∀w,(Go.sizeOf (ρ.t 31)).run P w=.ok 1 w
 v31:∀w,(zeroValue (ρ.t 31)).run P w=.ok (Value.slice none 0 0) w
 t75:P.underlying (ρ.t 75)=some (TypeDesc.interface #[("Error",ρ.t 80)])
 a75:∀w,(isAgg (ρ.t 75)).run P w=.ok false w
 z75:∀w,(Go.sizeOf (ρ.t 75)).run P w=.ok 1 w
 v75:∀w,(zeroValue (ρ.t 75)).run P w=.ok (Value.nilIface) w
 t76:P.underlying (ρ.t 76)=some (TypeDesc.tuple #[ρ.t 3,ρ.t 75])
 a76:∀w,(isAgg (ρ.t 76)).run P w=.ok false w
 z76:∀w,(Go.sizeOf (ρ.t 76)).run P w=.ok 1 w
 v76:∀w,(zeroValue (ρ.t 76)).run P w=.ok (Value.tuple #[Value.int IntKind.i64 0,Value.nilIface]) w
 t164:P.underlying (ρ.t 164)=some (TypeDesc.unsafePointer)
 a164:∀w,(isAgg (ρ.t 164)).run P w=.ok false w
 z164:∀w,(Go.sizeOf (ρ.t 164)).run P w=.ok 1 w
 v164:∀w,(zeroValue (ρ.t 164)).run P w=.ok (Value.pointer none) w
 e240:∀args w,(callFunc (ρ.f 240) args).run P w=.ok (.enter (ρ.f 240) args) w
 c240:∀(B b:Nat) (bs:List Value) (w:World),Lib.IsBuilder (ρ.t 72) (ρ.t 5) B b bs w →
  Calls P (ρ.f 240) #[.pointer (some ⟨b,0,none⟩)] w fun e w'=>e=.returned (.tuple #[])∧(Lib.BuilderAt (ρ.t 72) (ρ.t 5) B b (.pointer (some ⟨b,0,none⟩)) bs w'∧Below B w w')
 c240f:∀(b:Nat) (w:World),w.cell? ⟨b,0,none⟩=some (.pointer none)→w.shape? b=some ((ρ.t 72),2)→w.frozen? ⟨b,0,none⟩=false →
  Calls P (ρ.f 240) #[.pointer (some ⟨b,0,none⟩)] w fun e w'=>e=.returned (.tuple #[])∧w'=w.setCell ⟨b,0,none⟩ (.pointer (some ⟨b,0,none⟩))
theorem Jl.hid{p:Prop}(h:p):Hid p:=h
set_option maxHeartbeats 2000000 in
set_option maxRecDepth 100000 in
theorem Jl.Builder_WriteString(L:JL P ρ)(B b:Nat)(bs:List Value)(s:ByteArray)(w:World)(h:Lib.IsBuilder (ρ.t 72) (ρ.t 5) B b bs w)(hlen:bs.length+s.size≤140737488355328)(hBw:B≤w.heap.size) :
  Calls P (ρ.f 166) #[.pointer (some ⟨b,0,none⟩),.string s] w fun e w'=>e=.returned (.tuple #[.int .i64 s.size,.nilIface])∧(Lib.BuilderAt (ρ.t 72) (ρ.t 5) B b (.pointer (some ⟨b,0,none⟩)) (bs++Lib.strCells s) w'∧Below B w w'):=by
 obtain⟨i0,hi,hz0,hz1,hz2⟩:=info_parts L.infoByte
 have mixed:=L.mixed
 have t72:=L.t72;have a72:=L.a72;have z72:=L.z72;have v72:=L.v72;have u72:=run_underlying L.t72
 have t70:=L.t70;have a70:=L.a70;have z70:=L.z70;have v70:=L.v70;have u70:=run_underlying L.t70
 have t37:=L.t37;have a37:=L.a37;have z37:=L.z37;have v37:=L.v37;have u37:=run_underlying L.t37
 have t3:=L.t3;have a3:=L.a3;have z3:=L.z3;have v3:=L.v3;have u3:=run_underlying L.t3
 have t9:=L.t9;have a9:=L.a9;have z9:=L.z9;have v9:=L.v9;have u9:=run_underlying L.t9
 have t4:=L.t4;have a4:=L.a4;have z4:=L.z4;have v4:=L.v4;have u4:=run_underlying L.t4
 have t164:=L.t164;have a164:=L.a164;have z164:=L.z164;have v164:=L.v164;have u164:=run_underlying L.t164
 have t5:=L.t5;have a5:=L.a5;have z5:=L.z5;have v5:=L.v5;have u5:=run_underlying L.t5
 have e240:∀args w,(callFunc (ρ.f 240) args).run P w=.ok (.enter (ρ.f 240) args) w:=L.e240
 go_enter L.f166,Body.n166_ntmps ρ
 go_wp2_with (go_at_fn (ρ.f 240);refine(L.c240 B b bs _ h).mono ?_)
 rintro e w1 ⟨rfl,h1,hb1⟩
 obtain⟨hB,v,hbk,hown,hne⟩:=h1
 have c0:w1.cell? ⟨b,0,none⟩=some (.pointer (some ⟨b,0,none⟩)):=by rw[Lib.cell_of_heap hbk];rfl
 have c1:w1.cell? ⟨b,1,none⟩=some v:=by rw[Lib.cell_of_heap hbk];rfl
 go_wp2_with (at_builtin;refine Lib.wpList_append_own_string _ rfl _ _ (ρ.t 37) (ρ.t 9) rfl B (ρ.t 5) i0 L.t37 L.t9 hi hz0 hz1 hz2 _ _ _ rfl hown s rfl ?c3 ?c4 ?c5 ?_)
 case c3=>unfold maxLen;omega
 case c4=>omega
 case c5=>have:=hb1.size;omega
 intro v' w2 hown' hgrow _
 have hlt:b<w1.heap.size:=by
  rcases Nat.lt_or_ge b w1.heap.size with h' | h'
  ·exact h'
  ·simp[Array.getElem?_eq_none h']at hbk
 have hb2:w2.heap[b]? = some (.cells #[.pointer (some ⟨b,0,none⟩),v] (ρ.t 72) (0,0)):=by
  rw[hgrow.block b hlt (fun e=>hne e.symm)]
  exact hbk
 have d0:w2.cell? ⟨b,0,none⟩=some (.pointer (some ⟨b,0,none⟩)):=by rw[Lib.cell_of_heap hb2];rfl
 have d1:w2.cell? ⟨b,1,none⟩=some v:=by rw[Lib.cell_of_heap hb2];rfl
 have f1:w2.frozen? ⟨b,1,none⟩=false:=Lib.frozen_of_heap hb2 1
 obtain⟨ao,n',cap,rfl⟩:∃ao n' cap,v'=.slice ao n' cap:=by
  rcases hown'.2 with ⟨hv,_⟩ | ⟨g,cap,cur,hv,_⟩
  ·exact⟨_,_,_,hv⟩
  ·exact⟨_,_,_,hv⟩
 go_wp2
 go_ret2
 refine⟨rfl,?_,?_⟩
 ·exact Lib.BuilderAt.put (T:=(ρ.t 72)) (e:=(ρ.t 5)) hB hb2 (bs':=bs++Lib.strCells s) (by simpa[Lib.strCells_length]using hown') L.neB5
 ·exact(hb1.grown hgrow (by have:=hb1.size;omega) (fun k hk=>(hown.lt k hk).1)).setCell (p:=⟨b,1,none⟩) hB _
set_option maxHeartbeats 2000000 in
set_option maxRecDepth 1000000 in
theorem Jl.Builder_Grow_fresh(L:JL P ρ)(B b n:Nat)(w:World)(hB:B≤b)(hbk:w.heap[b]? = some (.cells #[.pointer none,.slice none 0 0] (ρ.t 72) (0,0)))(hBw:B≤w.heap.size)(hn:n≤281474976710656) :
  Calls P (ρ.f 165) #[.pointer (some ⟨b,0,none⟩),.int .i64 n] w fun e w'=>e=.returned (.tuple #[])∧(Lib.BuilderAt (ρ.t 72) (ρ.t 5) B b (.pointer (some ⟨b,0,none⟩)) [] w'∧Below B w w'):=by
 have hbk1:(w.setCell ⟨b,0,none⟩ (.pointer (some ⟨b,0,none⟩))).heap[b]? = some (.cells #[.pointer (some ⟨b,0,none⟩),.slice none 0 0] (ρ.t 72) (0,0)):=by
  simp[World.setCell,Array.getElem?_modify,hbk]
 have c1:(w.setCell ⟨b,0,none⟩ (.pointer (some ⟨b,0,none⟩))).cell? ⟨b,1,none⟩=some (.slice none 0 0):=by rw[Lib.cell_of_heap hbk1];rfl
 have hb1:Below B w (w.setCell ⟨b,0,none⟩ (.pointer (some ⟨b,0,none⟩))):=(Below.refl B w).setCell (p:=⟨b,0,none⟩) hB _
 have mixed:=L.mixed
 have t72:=L.t72;have a72:=L.a72;have z72:=L.z72;have v72:=L.v72;have u72:=run_underlying L.t72
 have t70:=L.t70;have a70:=L.a70;have z70:=L.z70;have v70:=L.v70;have u70:=run_underlying L.t70
 have t37:=L.t37;have a37:=L.a37;have z37:=L.z37;have v37:=L.v37;have u37:=run_underlying L.t37
 have t3:=L.t3;have a3:=L.a3;have z3:=L.z3;have v3:=L.v3;have u3:=run_underlying L.t3
 have t9:=L.t9;have a9:=L.a9;have z9:=L.z9;have v9:=L.v9;have u9:=run_underlying L.t9
 have t4:=L.t4;have a4:=L.a4;have z4:=L.z4;have v4:=L.v4;have u4:=run_underlying L.t4
 have t164:=L.t164;have a164:=L.a164;have z164:=L.z164;have v164:=L.v164;have u164:=run_underlying L.t164
 have t5:=L.t5;have a5:=L.a5;have z5:=L.z5;have v5:=L.v5;have u5:=run_underlying L.t5
 have e240:∀args w,(callFunc (ρ.f 240) args).run P w=.ok (.enter (ρ.f 240) args) w:=L.e240
 have e241:∀args w,(callFunc (ρ.f 241) args).run P w=.ok (.enter (ρ.f 241) args) w:=enters_of L.f241 (by kernel_rfl) rfl
 go_enter L.f165,Body.n165_ntmps ρ
 have hU:Lib.BuilderAt (ρ.t 72) (ρ.t 5) B b (.pointer (some ⟨b,0,none⟩)) [] (w.setCell ⟨b,0,none⟩ (.pointer (some ⟨b,0,none⟩))):=⟨hB,.slice none 0 0,hbk1,World.ownsRow_nil _ _ _ _,by simp[Value.ownBlock]⟩
 have c1':(w.setCell ⟨b,0,none⟩ (.pointer (some ⟨b,0,none⟩))).drew.cell? ⟨b,1,none⟩=some (.slice none 0 0):=c1
 go_wp2_with (go_at_fn (ρ.f 240);refine(L.c240f b w (by rw[Lib.cell_of_heap hbk];rfl) (by simp[World.shape?,hbk]) (Lib.frozen_of_heap hbk 0)).mono ?_;rintro e w' ⟨rfl,rfl⟩)
 go_region_o
 all_goals go_wp2_with (go_at_fn (ρ.f 241);refine(Any.Builder_grow_fresh L.ton241 L.toExtra B b n (w.setCell ⟨b,0,none⟩ (.pointer (some ⟨b,0,none⟩))).drew hB hbk1 (by simpa[World.setCell,World.drew,-World.drew_eq]using hBw) hn).mono ?_;rintro e w' ⟨rfl,h1,h2⟩)
 all_goals first
  | (go_end0;exact⟨rfl,h1,hb1.drew.trans h2⟩)
  | (go_end0;exact⟨rfl,hU.drew,hb1.drew⟩)
theorem Jl.strings_Join_none(L:JL P ρ)(a:Option Addr)(c:Nat)(sep:ByteArray)(w:World) :
  Calls P (ρ.f 156) #[.slice a 0 c,.string sep] w fun e w'=>e=.returned (.string ⟨#[]⟩)∧w'=w:=by
 have mixed:=L.mixed
 have t72:=L.t72;have a72:=L.a72;have z72:=L.z72;have v72:=L.v72;have u72:=run_underlying L.t72
 have t70:=L.t70;have a70:=L.a70;have z70:=L.z70;have v70:=L.v70;have u70:=run_underlying L.t70
 have t37:=L.t37;have a37:=L.a37;have z37:=L.z37;have v37:=L.v37;have u37:=run_underlying L.t37
 have t127:=L.t127;have a127:=L.a127;have z127:=L.z127;have v127:=L.v127;have u127:=run_underlying L.t127
 have t3:=L.t3;have a3:=L.a3;have z3:=L.z3;have v3:=L.v3;have u3:=run_underlying L.t3
 have t9:=L.t9;have a9:=L.a9;have z9:=L.z9;have v9:=L.v9;have u9:=run_underlying L.t9
 have t4:=L.t4;have a4:=L.a4;have z4:=L.z4;have v4:=L.v4;have u4:=run_underlying L.t4
 have t164:=L.t164;have a164:=L.a164;have z164:=L.z164;have v164:=L.v164;have u164:=run_underlying L.t164
 have t31:=L.t31;have a31:=L.a31;have z31:=L.z31;have v31:=L.v31;have u31:=run_underlying L.t31
 have t5:=L.t5;have a5:=L.a5;have z5:=L.z5;have v5:=L.v5;have u5:=run_underlying L.t5
 have e240:∀args w,(callFunc (ρ.f 240) args).run P w=.ok (.enter (ρ.f 240) args) w:=L.e240
 have e241:∀args w,(callFunc (ρ.f 241) args).run P w=.ok (.enter (ρ.f 241) args) w:=enters_of L.f241 (by kernel_rfl) rfl
 have e165:∀args w,(callFunc (ρ.f 165) args).run P w=.ok (.enter (ρ.f 165) args) w:=enters_of L.f165 (by kernel_rfl) rfl
 have e166:∀args w,(callFunc (ρ.f 166) args).run P w=.ok (.enter (ρ.f 166) args) w:=enters_of L.f166 (by kernel_rfl) rfl
 have e169:∀args w,(callFunc (ρ.f 169) args).run P w=.ok (.enter (ρ.f 169) args) w:=enters_of L.f169 (by kernel_rfl) rfl
 go_enter L.f156,Body.n156_ntmps ρ
 go_wp2
 go_ret
 exact⟨rfl,rfl⟩
theorem Jl.strings_Join_one(L:JL P ρ)(bk o c:Nat)(x sep:ByteArray)(w:World)(hc:w.cell? ⟨bk,o,none⟩=some (.string x)) :
  Calls P (ρ.f 156) #[.slice (some ⟨bk,o,none⟩) 1 c,.string sep] w fun e w'=>e=.returned (.string x)∧w'=w:=by
 have mixed:=L.mixed
 have t72:=L.t72;have a72:=L.a72;have z72:=L.z72;have v72:=L.v72;have u72:=run_underlying L.t72
 have t70:=L.t70;have a70:=L.a70;have z70:=L.z70;have v70:=L.v70;have u70:=run_underlying L.t70
 have t37:=L.t37;have a37:=L.a37;have z37:=L.z37;have v37:=L.v37;have u37:=run_underlying L.t37
 have t127:=L.t127;have a127:=L.a127;have z127:=L.z127;have v127:=L.v127;have u127:=run_underlying L.t127
 have t3:=L.t3;have a3:=L.a3;have z3:=L.z3;have v3:=L.v3;have u3:=run_underlying L.t3
 have t9:=L.t9;have a9:=L.a9;have z9:=L.z9;have v9:=L.v9;have u9:=run_underlying L.t9
 have t4:=L.t4;have a4:=L.a4;have z4:=L.z4;have v4:=L.v4;have u4:=run_underlying L.t4
 have t164:=L.t164;have a164:=L.a164;have z164:=L.z164;have v164:=L.v164;have u164:=run_underlying L.t164
 have t31:=L.t31;have a31:=L.a31;have z31:=L.z31;have v31:=L.v31;have u31:=run_underlying L.t31
 have t5:=L.t5;have a5:=L.a5;have z5:=L.z5;have v5:=L.v5;have u5:=run_underlying L.t5
 have e240:∀args w,(callFunc (ρ.f 240) args).run P w=.ok (.enter (ρ.f 240) args) w:=L.e240
 have e241:∀args w,(callFunc (ρ.f 241) args).run P w=.ok (.enter (ρ.f 241) args) w:=enters_of L.f241 (by kernel_rfl) rfl
 have e165:∀args w,(callFunc (ρ.f 165) args).run P w=.ok (.enter (ρ.f 165) args) w:=enters_of L.f165 (by kernel_rfl) rfl
 have e166:∀args w,(callFunc (ρ.f 166) args).run P w=.ok (.enter (ρ.f 166) args) w:=enters_of L.f166 (by kernel_rfl) rfl
 have e169:∀args w,(callFunc (ρ.f 169) args).run P w=.ok (.enter (ρ.f 169) args) w:=enters_of L.f169 (by kernel_rfl) rfl
 go_enter L.f156,Body.n156_ntmps ρ
 go_wp2
 go_ret
 exact⟨rfl,rfl⟩
set_option maxHeartbeats 4000000 in
set_option maxRecDepth 100000 in
theorem Jl.strings_Join_many(L:JL P ρ)(bk o c:Nat)(xs:List ByteArray)(sep:ByteArray)(w:World)
  (hcells:∀(j:Nat) x,xs[j]? = some x→w.cell? ⟨bk,o+j,none⟩=some (.string x))
  (hbk:bk<w.heap.size) (h2:2≤xs.length) (hN:xs.length≤140737488355328) (hcap:xs.length≤c)
  (hlen:(Lib.join (xs.map (·.data.toList)) sep.data.toList).length≤140737488355328) :
  Calls P (ρ.f 156) #[.slice (some ⟨bk,o,none⟩) xs.length c,.string sep] w fun e w'=>e=.returned (.string ⟨(Lib.join (xs.map (·.data.toList)) sep.data.toList).toArray⟩)∧Below w.heap.size w w':=by
 have HC:=Jl.hid hcells
 clear hcells
 -- the lengths
 obtain⟨x0,r,hxs⟩:∃x0 r,xs=x0::r:=by
  cases xs with
  | nil=>simp at h2
  | cons a t=>exact⟨a,t,rfl⟩
 have hjl:sep.size*(xs.length-1)+Lib.lens (xs.map (·.data.toList))≤140737488355328:=by
  have:=Lib.join_length x0.data.toList (r.map (·.data.toList)) sep.data.toList
  rw[hxs]at hlen ⊢
  simp only[List.map_cons]at hlen ⊢
  rw[this,List.length_map]at hlen
  rw[Lib.size_eq,List.length_cons,Nat.add_sub_cancel]
  exact hlen
 have hmul:sep.size*(xs.length-1)≤140737488355328:=by omega
 generalize hM:sep.size*(xs.length-1)=M at hjl hmul
 have hcast:((xs.length:Int)-1)=((xs.length-1:Nat):Int):=by omega
 have hlt:sep.size<9223372036854775807/(xs.length-1):=by
  have:sep.size+1≤9223372036854775807/(xs.length-1):=by
   rw[Nat.le_div_iff_mul_le (by omega),Nat.add_mul,hM]
   omega
  omega
 have hdv:¬ (9223372036854775807/((xs.length:Int)-1)≤(sep.size:Int)):=by
  have e:(9223372036854775807:Int)/((xs.length-1:Nat):Int)=((9223372036854775807/(xs.length-1):Nat):Int):=IntWalk.up_div (x:=9223372036854775807) rfl rfl
  rw[hcast,e]
  generalize 9223372036854775807/(xs.length-1)=q at hlt
  omega
 have hprod:wrap64 ((sep.size:Int)*((xs.length:Int)-1))=(M:Int):=by
  have e:(sep.size:Int)*((xs.length-1:Nat):Int)=((sep.size*(xs.length-1):Nat):Int):=IntWalk.up_mul rfl rfl
  rw[hcast,e,hM]
  exact IntWalk.wrap64_in _ ⟨by omega,by omega⟩
 have hM0:sep.size=0→M=0:=fun h=>by rw[←hM,h,Nat.zero_mul]
 clear hlt hcast
 have hne0:((xs.length:Int) == 0)=false:=beq_eq_false_iff_ne.2 (by omega)
 have hne1:((xs.length:Int) == 1)=false:=beq_eq_false_iff_ne.2 (by omega)
 have Hxs:=Jl.hid hxs
 have Hlen:=Jl.hid hlen
 clear hxs hlen
 have mixed:=L.mixed
 have t72:=L.t72;have a72:=L.a72;have z72:=L.z72;have v72:=L.v72;have u72:=run_underlying L.t72
 have t70:=L.t70;have a70:=L.a70;have z70:=L.z70;have v70:=L.v70;have u70:=run_underlying L.t70
 have t37:=L.t37;have a37:=L.a37;have z37:=L.z37;have v37:=L.v37;have u37:=run_underlying L.t37
 have t127:=L.t127;have a127:=L.a127;have z127:=L.z127;have v127:=L.v127;have u127:=run_underlying L.t127
 have t3:=L.t3;have a3:=L.a3;have z3:=L.z3;have v3:=L.v3;have u3:=run_underlying L.t3
 have t9:=L.t9;have a9:=L.a9;have z9:=L.z9;have v9:=L.v9;have u9:=run_underlying L.t9
 have t4:=L.t4;have a4:=L.a4;have z4:=L.z4;have v4:=L.v4;have u4:=run_underlying L.t4
 have t164:=L.t164;have a164:=L.a164;have z164:=L.z164;have v164:=L.v164;have u164:=run_underlying L.t164
 have t31:=L.t31;have a31:=L.a31;have z31:=L.z31;have v31:=L.v31;have u31:=run_underlying L.t31
 have t5:=L.t5;have a5:=L.a5;have z5:=L.z5;have v5:=L.v5;have u5:=run_underlying L.t5
 have e240:∀args w,(callFunc (ρ.f 240) args).run P w=.ok (.enter (ρ.f 240) args) w:=L.e240
 have e241:∀args w,(callFunc (ρ.f 241) args).run P w=.ok (.enter (ρ.f 241) args) w:=enters_of L.f241 (by kernel_rfl) rfl
 have e165:∀args w,(callFunc (ρ.f 165) args).run P w=.ok (.enter (ρ.f 165) args) w:=enters_of L.f165 (by kernel_rfl) rfl
 have e166:∀args w,(callFunc (ρ.f 166) args).run P w=.ok (.enter (ρ.f 166) args) w:=enters_of L.f166 (by kernel_rfl) rfl
 have e169:∀args w,(callFunc (ρ.f 169) args).run P w=.ok (.enter (ρ.f 169) args) w:=enters_of L.f169 (by kernel_rfl) rfl
 go_enter L.f156,Body.n156_ntmps ρ
 go_wp2_with fail
 all_goals (
  go_loop [5,41] (fun n i=>∃k:Nat,k≤xs.length∧i=.int .i64 k∧n=.int .i64 ((M+Lib.lens ((xs.map (·.data.toList)).take k):Nat):Int)) (fun _ i=>xs.length-(intOf i).toNat)
  case atStart=>exact⟨0,Nat.zero_le _,rfl,by first | (simp[Lib.lens];done) | (have:=hM0 (by omega);simp[Lib.lens,this])⟩
  case round=>
   obtain⟨k,hk,rfl,rfl⟩:=hrel
   by_cases hkn:k<xs.length
   ·obtain⟨x,hx⟩:∃x,xs[k]? = some x:=⟨xs[k],List.getElem?_eq_getElem hkn⟩
    have hc:=HC.out k x hx
    have hstep:=Lib.lens_take_succ (xs.map (·.data.toList)) k x.data.toList (by simp[hx])
    have hbound:Lib.lens ((xs.map (·.data.toList)).take (k+1))≤Lib.lens (xs.map (·.data.toList)):=Lib.lens_take_le _ _
    rw[←Lib.size_eq]at hstep
    generalize hA1:Lib.lens ((xs.map (·.data.toList)).take (k+1))=A1 at hstep hbound
    generalize Lib.lens ((xs.map (·.data.toList)).take k)=A0 at hstep
    have HA1:=Jl.hid hA1
    clear hA1
    go_wp2
    exact⟨⟨k+1,by omega,by go_num,by rw[HA1.out];refine congrArg _ ?_;omega⟩,by simp[intOf];omega⟩
   ·have hke:k=xs.length:=by omega
    subst hke
    have hall:(xs.map (·.data.toList)).take xs.length=xs.map (·.data.toList):=List.take_of_length_le (by simp)
    rw[hall]
    generalize hT:Lib.lens (xs.map (·.data.toList))=T at hjl
    have HT:=Jl.hid hT
    clear hT hall
    go_wp2_with fail
    have hMT:((M:Int)+(T:Int))=((M+T:Nat):Int):=by omega
    rw[hMT]
    refine(Jl.Builder_Grow_fresh L w.heap.size w.heap.size (M+T) _ (Nat.le_refl _) (heap_alloc_new w _) (by simp) (by omega)).mono ?_
    rintro e w1 ⟨rfl,h1,hb1⟩
    have hb1':Below w.heap.size w w1:=((Below.refl w.heap.size w).alloc (Nat.le_refl _) _).trans hb1
    -- the first element
    have hx0:xs[0]? = some x0:=by rw[Hxs.out];rfl
    have hc0:w1.cell? ⟨bk,o,none⟩=some (.string x0):=by
     rw[hb1'.cell (p:=⟨bk,o,none⟩) hbk]
     exact HC.out 0 x0 hx0
    have H1:=Jl.hid (Or.inr h1:Lib.IsBuilder (ρ.t 72) (ρ.t 5) w.heap.size w.heap.size [] w1)
    have Hb1:=Jl.hid hb1'
    have hBw1:w.heap.size≤w1.heap.size:=hb1'.size
    clear h1 hb1 hb1' hMT
    -- what the builder holds behind k rounds of the second loop;and that it is never longer than the whole
    have hwhole:Lib.join (xs.map (·.data.toList)) sep.data.toList=x0.data.toList++Lib.joinTail sep.data.toList (r.map (·.data.toList)):=by
     rw[Hxs.out,List.map_cons,Lib.join_cons]
    have hCle:∀k,(x0.data.toList++Lib.joinTail sep.data.toList ((r.map (·.data.toList)).take k)).length≤140737488355328:=fun k=>by
     have h1:=Hlen.out
     rw[hwhole,List.length_append]at h1
     have h2:=Lib.joinTail_take_le sep.data.toList (r.map (·.data.toList)) k
     rw[List.length_append]
     omega
    have HCle:=Jl.hid hCle
    have Hwhole:=Jl.hid hwhole
    clear hCle hwhole
    go_wp2_with fail
    refine(Jl.Builder_WriteString L w.heap.size w.heap.size [] x0 w1 H1.out (by have:=HCle.out 0;simp[Lib.joinTail]at this ⊢;omega) hBw1).mono ?_
    rintro e w2 ⟨rfl,h2',hb2⟩
    have hstart:([]:List Value)++Lib.strCells x0=Lib.byteCells (x0.data.toList++Lib.joinTail sep.data.toList ((r.map (·.data.toList)).take 0)):=by
     simp[Lib.joinTail,Lib.strCells_eq]
    rw[hstart]at h2'
    have H2:=Jl.hid (Or.inr h2':Lib.IsBuilder (ρ.t 72) (ρ.t 5) w.heap.size w.heap.size _ w2)
    have Hb2:=Jl.hid (Hb1.out.trans hb2)
    clear h2' hb2 hstart
    have hrl:r.length=xs.length-1:=by rw[Hxs.out];simp
    go_wp2_with fail
    go_loopw [65] (fun i wr=>∃k:Nat,k≤r.length∧i=.int .i64 k∧Hid (Lib.IsBuilder (ρ.t 72) (ρ.t 5) w.heap.size w.heap.size (Lib.byteCells (x0.data.toList++Lib.joinTail sep.data.toList ((r.map (·.data.toList)).take k))) wr)∧Hid (Below w.heap.size w wr)) (fun i _=>r.length-(intOf i).toNat)
    case atStart=>exact⟨0,Nat.zero_le _,rfl,H2,Hb2⟩
    case round=>
     obtain⟨k,hk',rfl,HB,HW⟩:=hrel
     by_cases hkr:k<r.length
     ·obtain⟨y,hy⟩:∃y,r[k]? = some y:=⟨r[k],List.getElem?_eq_getElem hkr⟩
      have hxy:xs[k+1]? = some y:=by rw[Hxs.out];simpa using hy
      have hcy:wr.cell? ⟨bk,o+1+k,none⟩=some (.string y):=by
       rw[HW.out.cell (p:=⟨bk,o+1+k,none⟩) hbk,show o+1+k=o+(k+1) by omega]
       exact HC.out (k+1) y hxy
      have hBw:w.heap.size≤wr.heap.size:=HW.out.size
      have hnext:Lib.byteCells (x0.data.toList++Lib.joinTail sep.data.toList ((r.map (·.data.toList)).take k))++Lib.strCells sep++Lib.strCells y=Lib.byteCells (x0.data.toList++Lib.joinTail sep.data.toList ((r.map (·.data.toList)).take (k+1))):=by
       rw[Lib.joinTail_take_succ sep.data.toList (r.map (·.data.toList)) k y.data.toList (by simp[hy]),Lib.strCells_eq,Lib.strCells_eq,←Lib.byteCells_append,←Lib.byteCells_append,List.append_assoc,List.append_assoc,List.append_assoc]
      have hl1:=HCle.out (k+1)
      rw[Lib.joinTail_take_succ sep.data.toList (r.map (·.data.toList)) k y.data.toList (by simp[hy])]at hl1
      simp only[List.length_append,←Lib.size_eq]at hl1
      have hl0:(Lib.byteCells (x0.data.toList++Lib.joinTail sep.data.toList ((r.map (·.data.toList)).take k))).length=x0.size+(Lib.joinTail sep.data.toList ((r.map (·.data.toList)).take k)).length:=by
       rw[Lib.byteCells_length,List.length_append,←Lib.size_eq]
      generalize (Lib.joinTail sep.data.toList ((r.map (·.data.toList)).take k)).length=J at hl0 hl1
      have Hn:=Jl.hid hnext
      clear hnext hy hxy
      go_wp2_with fail
      refine(Jl.Builder_WriteString L w.heap.size w.heap.size _ sep wr HB.out (by rw[hl0];omega) hBw).mono ?_
      rintro e w3 ⟨rfl,h3,hb3⟩
      have hBw3:w.heap.size≤w3.heap.size:=Nat.le_trans hBw hb3.size
      have H3:=Jl.hid h3
      have Hb3:=Jl.hid hb3
      clear h3 hb3
      go_wp2_with fail
      refine(Jl.Builder_WriteString L w.heap.size w.heap.size _ y w3 (Or.inr H3.out) (by rw[List.length_append,hl0,Lib.strCells_length];omega) hBw3).mono ?_
      rintro e w4 ⟨rfl,h4,hb4⟩
      rw[Hn.out]at h4
      have H4:=Jl.hid (Or.inr h4:Lib.IsBuilder (ρ.t 72) (ρ.t 5) w.heap.size w.heap.size _ w4)
      have Hb4:=Jl.hid ((HW.out.trans Hb3.out).trans hb4)
      clear h4 hb4
      go_wp2
      exact⟨⟨k+1,by omega,by go_num,H4,Hb4⟩,by simp[intOf];omega⟩
     ·have hke:k=r.length:=by omega
      subst hke
      have hfull:(r.map (·.data.toList)).take r.length=r.map (·.data.toList):=List.take_of_length_le (by simp)
      have hB':=HB.out
      rw[hfull,←Hwhole.out]at hB'
      have hBw:w.heap.size≤wr.heap.size:=HW.out.size
      go_wp2_with fail
      refine(Any.Builder_String_any L.ton169 L.toExtra w.heap.size w.heap.size _ wr hB' hBw).mono ?_
      rintro e w5 ⟨rfl,hb5⟩
      have Hb5:=Jl.hid (HW.out.trans hb5)
      clear hb5 hB'
      go_wp2
      go_ret
      exact⟨rfl,Hb5.out⟩)
theorem Jl.strings_Join(L:JL P ρ)(bk o c:Nat)(xs:List ByteArray)(sep:ByteArray)(w:World)
  (hcells:∀(j:Nat) x,xs[j]? = some x→w.cell? ⟨bk,o+j,none⟩=some (.string x))
  (hbk:bk<w.heap.size) (hN:xs.length≤140737488355328) (hcap:xs.length≤c)
  (hlen:(Lib.join (xs.map (·.data.toList)) sep.data.toList).length≤140737488355328) :
  Calls P (ρ.f 156) #[.slice (some ⟨bk,o,none⟩) xs.length c,.string sep] w fun e w'=>e=.returned (.string ⟨(Lib.join (xs.map (·.data.toList)) sep.data.toList).toArray⟩)∧Below w.heap.size w w':=by
 match xs,hcells,hN,hcap,hlen with
 | [],_,_,_,_=>exact(Jl.strings_Join_none L _ c sep w).mono fun e w' ⟨he,hw⟩=>⟨he,hw▸Below.refl _ _⟩
 | [x],hcells,_,_,_=>
  refine(Jl.strings_Join_one L bk o c x sep w (hcells 0 x rfl)).mono fun e w' ⟨he,hw⟩=>⟨?_,hw▸Below.refl _ _⟩
  rw[he,List.map_cons,List.map_nil,Lib.join_one,Lib.mk_data]
 | x::y::r,hcells,hN,hcap,hlen=>exact Jl.strings_Join_many L bk o c (x::y::r) sep w hcells hbk (by simp) hN hcap hlen
end Go.Proofs
end
section
namespace Go.Proofs
open Go.Shelf Go.RowKit Go.Ab
variable{P:Program}{ρ:Ren}
theorem sl_inv{w:World}{S:Nat→Nat→Prop}{v:Value}{els:List (List AV)}{f:Fl}(h:CP w S v (.sl els f)) :
  (els=[]∧∃a,v=.slice a 0 0)∨∃(blk off z cap:Nat) (u:Nat→Nat→Value),v=.slice (some ⟨blk,off,none⟩) els.length cap∧els.length≤cap∧cap≤maxLen ∧
   (∀(i:Nat) (r:List AV),els[i]? = some r→r.length=z) ∧
   (∀i j,i<els.length→j<z→S blk (off+i*z+j)∧w.cell? ⟨blk,off+i*z+j,none⟩=some (u i j)) ∧
   (∀(i:Nat) (r:List AV) (j:Nat) (c:AV),els[i]? = some r→r[j]? = some c→CP w S (u i j) c):=by
 cases h with
 | slnil f hf=>exact .inl ⟨rfl,_,rfl⟩
 | slz a f hf=>exact .inl ⟨rfl,_,rfl⟩
 | sl blk off z cap els f u hf hfull hcap hmax hz hS hc=>exact .inr ⟨blk,off,z,cap,u,rfl,hcap,hmax,hz,fun i j hi hj=>⟨(hS i j hi hj).1,(hS i j hi hj).2.1⟩,hc⟩
theorem s_inv{w:World}{S:Nat→Nat→Prop}{v:Value}{l:List UInt8}(h:CP w S v (.s l)):v=.string ⟨l.toArray⟩:=by
 cases h with
 | s=>rfl
theorem two_args{cargs:Array Value}(h:cargs.size=2):∃a b,cargs=#[a,b]:=by
 obtain⟨l⟩:=cargs
 match l,h with
 | [a,b],_=>exact⟨a,b,rfl⟩
theorem one_arg{cargs:Array Value}(h:cargs.size=1):∃a,cargs=#[a]:=by
 obtain⟨l⟩:=cargs
 match l,h with
 | [a],_=>exact⟨a,rfl⟩
theorem inter_len(sep:List UInt8)(hs:sep.length≤100):∀ts:List (List UInt8),(∀t∈ts,t.length≤10000)→(Lib.join ts sep).length≤20000*ts.length
 | [],_=>by simp[Lib.join,List.intercalate]
 | x::r,h=>by
  have key:∀r:List (List UInt8),(∀t∈r,t.length≤10000)→Lib.lens r≤10000*r.length:=by
   intro r
   induction r with
   | nil=>intro _;simp[Lib.lens]
   | cons y r ih=>
    intro h
    have h1:=ih fun t ht=>h t (List.mem_cons_of_mem _ ht)
    have h2:=h y List.mem_cons_self
    simp only[Lib.lens,List.map_cons,List.sum_cons,List.length_cons]at h1 ⊢
    omega
  rw[Lib.join_length]
  have h1:=key (x::r) h
  have h2:=Nat.mul_le_mul_right r.length hs
  simp only[List.length_cons]at h1 ⊢
  omega
theorem join_pcall(L:JL P ρ):∀xs r,prim183 xs=some r→PCall P (ρ.f 156) xs (·=r):=by
 intro xs r h
 unfold prim183 at h
 split at h
 ·split at h
  ·rename_i els sep hl
   cases ht:els.mapM textOf with
   | none=>rw[ht]at h;cases h
   | some ts=>
    rw[ht]at h
    cases h
    obtain⟨he,hb⟩:=zjc ht
    refine⟨enters_of L.f156 (by kernel_rfl) rfl,fun w S cargs hsz hC hS=>?_⟩
    obtain⟨v0,v1,rfl⟩:=two_args hsz
    have c0:=hC 0 _ _ rfl rfl
    have c1:=s_inv (hC 1 _ _ rfl rfl)
    subst c1
    have htl:ts.length≤1000:=by rw[he,zcv]at hl;exact hl.1
    have done:∀{Q:World→Prop},(∀w',Q w'→Below w.heap.size w w')→Calls P (ρ.f 156) #[v0,.string ⟨sep.toArray⟩] w (fun e w'=>e=.returned (.string ⟨(List.intercalate sep ts).toArray⟩)∧Q w') →
      Calls P (ρ.f 156) #[v0,.string ⟨sep.toArray⟩] w fun e w'=>∃v r,e=.returned v∧r=AV.s (List.intercalate sep ts)∧Below w.heap.size w w'∧CP w' (fun k o=>S k o∨(w.heap.size≤k∧k<w'.heap.size)) v r:=by
     intro Q hQ hc
     refine hc.mono ?_
     rintro e w' ⟨rfl,hb⟩
     exact⟨_,_,rfl,rfl,hQ _ hb,.s _⟩
    rcases sl_inv c0 with ⟨h0,a,rfl⟩ | ⟨blk,off,z,cap,u,rfl,hcap,hmax,hz,hcell,hcp⟩
    ·have h1:ts=[]:=by
      rw[he]at h0
      exact List.eq_nil_of_length_eq_zero (by rw[←zcv ts,h0];rfl)
     subst h1
     refine done (Q:=fun w'=>w'=w) (fun w' h=>h▸Below.refl _ _) ?_
     exact Jl.strings_Join_none L a 0 ⟨sep.toArray⟩ w
    ·have hel:els.length=ts.length:=by rw[he,zcv]
     have hcells:∀(j:Nat) x,(ts.map fun t=>(⟨t.toArray⟩:ByteArray))[j]? = some x→S blk (off+j)∧w.cell? ⟨blk,off+j,none⟩=some (.string x):=by
      intro j x hx
      rw[List.getElem?_map]at hx
      cases ht2:ts[j]? with
      | none=>rw[ht2]at hx;cases hx
      | some t=>
       rw[ht2]at hx
       cases hx
       have hj:els[j]? = some [.s t]:=by rw[he];simp[rowsT,ht2]
       have hz1:1=z:=hz j _ hj
       subst hz1
       have hjl:j<els.length:=(List.getElem?_eq_some_iff.1 hj).1
       obtain⟨h1,h2⟩:=hcell j 0 hjl Nat.one_pos
       have h3:=s_inv (hcp j _ 0 (.s t) hj rfl)
       rw[h3]at h2
       simp only[Nat.mul_one,Nat.add_zero]at h1 h2
       exact⟨h1,h2⟩
     cases hts:ts with
     | nil=>
      subst hts
      rw[show els.length=0 from hel]at done ⊢
      refine done (Q:=fun w'=>w'=w) (fun w' h=>h▸Below.refl _ _) ?_
      exact Jl.strings_Join_none L _ cap ⟨sep.toArray⟩ w
     | cons t0 tr=>
      rw[←hts]
      have hblk:blk<w.heap.size:=hS _ _ (hcells 0 ⟨t0.toArray⟩ (by rw[hts];rfl)).1
      have hm:(ts.map fun t=>(⟨t.toArray⟩:ByteArray)).map (·.data.toList)=ts:=by rw[List.map_map];simp[Function.comp_def]
      have hj:=Jl.strings_Join L blk off cap (ts.map fun t=>(⟨t.toArray⟩:ByteArray)) ⟨sep.toArray⟩ w (fun j x hx=>(hcells j x hx).2) hblk (by rw[List.length_map];omega) (by rw[List.length_map];omega)
       (by rw[hm];have:=inter_len sep hl.2 ts hb;show (Lib.join ts sep).length≤_;omega)
      rw[hm,List.length_map,←hel]at hj
      exact done (fun _ h=>h) hj
  ·cases h
 ·cases h
end Go.Proofs
end
section
namespace Go.Proofs
open Go.Shelf Go.RowKit
set_option maxRecDepth 100000
def Tryz.jren:Ren:=⟨fun | 156=>81 | 165=>129 | 166=>130 | 169=>131 | 240=>164 | 241=>165 | 277=>197 | n=>n,fun | 0=>0 | 1=>1 | 2=>2 | 3=>3 | 4=>4 | 5=>5 | 6=>6 | 7=>7 | 8=>8 | 9=>9 | 10=>10 | 11=>11 | 12=>12 | 13=>13 | 14=>14 | 15=>15 | 16=>16 | 17=>17 | 18=>18 | 19=>19 | 20=>20 | 21=>21 | 23=>229 | 27=>304 | 28=>23 | 31=>153 | 37=>202 | 40=>303 | 41=>287 | 46=>194 | 48=>255 | 51=>115 | 52=>215 | 53=>145 | 55=>302 | 63=>290 | 64=>297 | 67=>155 | 70=>201 | 71=>203 | 72=>204 | 73=>205 | 74=>206 | 75=>207 | 76=>208 | 77=>209 | 80=>210 | 81=>310 | 105=>288 | 106=>289 | 112=>234 | 114=>127 | 115=>261 | 116=>262 | 117=>263 | 118=>264 | 119=>298 | 122=>260 | 123=>265 | 124=>266 | 127=>230 | 131=>60 | 137=>299 | 138=>300 | 139=>301 | 146=>251 | 164=>267 | 165=>268 | 166=>269 | n=>n,fun n=>n⟩
theorem Tryz.joinLaid:JL Tryz.prog Tryz.jren:={
 mixed:=by kernel_rfl,
 f169:=Tryz.func131.trans (congrArg some (by kernel_rfl)),
 t0:=Tryz.underlying0,
 a0:=Tryz.isAgg0,
 z0:=Tryz.sizeOf0,
 v0:=Tryz.zeroValue0,
 t3:=Tryz.underlying3,
 a3:=Tryz.isAgg3,
 z3:=Tryz.sizeOf3,
 v3:=Tryz.zeroValue3,
 t9:=Tryz.underlying9,
 a9:=Tryz.isAgg9,
 z9:=Tryz.sizeOf9,
 v9:=Tryz.zeroValue9,
 t37:=Tryz.underlying202,
 a37:=Tryz.isAgg202,
 z37:=Tryz.sizeOf202,
 v37:=Tryz.zeroValue202,
 t70:=Tryz.underlying201,
 a70:=Tryz.isAgg201,
 z70:=Tryz.sizeOf201,
 v70:=Tryz.zeroValue201,
 t72:=Tryz.underlying204,
 a72:=Tryz.isAgg204,
 z72:=Tryz.sizeOf204,
 v72:=Tryz.zeroValue204,
 t127:=Tryz.underlying230,
 a127:=Tryz.isAgg230,
 z127:=Tryz.sizeOf230,
 v127:=Tryz.zeroValue230,
 f241:=Tryz.func165.trans (congrArg some (by kernel_rfl)),
 f277:=Tryz.func197.trans (congrArg some (by kernel_rfl)),
 sizeBuilder:=by kernel_rfl,
 liesBuilder:=by kernel_rfl,
 t5:=Tryz.underlying5,
 a5:=Tryz.isAgg5,
 z5:=Tryz.sizeOf5,
 v5:=Tryz.zeroValue5,
 infoByte:=by kernel_rfl,
 cellsByte:=by kernel_rfl,
 sizeByte:=by kernel_rfl,
 neB5:=by decide,
 f156:=Tryz.func81.trans (congrArg some (by kernel_rfl)),
 f165:=Tryz.func129.trans (congrArg some (by kernel_rfl)),
 f166:=Tryz.func130.trans (congrArg some (by kernel_rfl)),
 t4:=Tryz.underlying4,
 a4:=Tryz.isAgg4,
 z4:=Tryz.sizeOf4,
 v4:=Tryz.zeroValue4,
 t20:=Tryz.underlying20,
 a20:=Tryz.isAgg20,
 z20:=Tryz.sizeOf20,
 v20:=Tryz.zeroValue20,
 t31:=Tryz.underlying153,
 a31:=Tryz.isAgg153,
 z31:=Tryz.sizeOf153,
 v31:=Tryz.zeroValue153,
 t75:=Tryz.underlying207,
 a75:=Tryz.isAgg207,
 z75:=Tryz.sizeOf207,
 v75:=Tryz.zeroValue207,
 t76:=Tryz.underlying208,
 a76:=Tryz.isAgg208,
 z76:=Tryz.sizeOf208,
 v76:=Tryz.zeroValue208,
 t164:=Tryz.underlying267,
 a164:=Tryz.isAgg267,
 z164:=Tryz.sizeOf267,
 v164:=Tryz.zeroValue267,
 e240:=enters_of Tryz.func164 (by kernel_rfl) rfl,
 c240:=fun B b bs w h=>Tryz.bCheck B b bs w h,
 c240f:=fun b w h0 h1 h2=>Tryz.bCheck_fresh b w h0 h1 h2 }
end Go.Proofs
namespace Go.Proofs.YtjeddlbpajjjmaaGreatDoor
open Go.Ab
theorem join_ok:∀xs r,prim183 xs=some r→PCall Tryz.prog (nu 183) xs (·=r):=by
 have e:nu 183=Tryz.jren.f 156:=by kernel_rfl
 rw[e]
 exact join_pcall Tryz.joinLaid
end Go.Proofs.YtjeddlbpajjjmaaGreatDoor
end
namespace Go.Ab
section
open Go.ChangeShapes Go.WideShapes Go.ChangeAt Go.RowKit
theorem zji{H:Type}{enc:TypeId×Value→H}{P:Program}{f:Func}{s:ChangeSpec}{apart fresh handsOn again:Bool}{W W':World}{args:Array Value}{v:Value}{ds gs:List (DataW H)}{before pa pv:List MemPlace}
  (hW:DataW.Whole enc P f.params.toList s.vars apart W args.toList ds gs before)
  (hres:∀(b:Nat) (sp:Nat→Bool) (hd:Bool),DataW.TrodAll enc P W' b sp hd f.resultTypes.toList (v.resultList f.resultTypes.size) (s.fn H (ds++gs)).results [])
  (hargs:∀sp:Nat→Bool,(∀p∈before,sp p.block=true)→DataW.TrodAll enc P W' 0 sp true f.params.toList args.toList (s.fn H (ds++gs)).args pa)
  (hvars:∀sp:Nat→Bool,(∀p∈before,sp p.block=true)→DataW.TrodVars enc P W' sp s.vars (s.fn H (ds++gs)).vars pv)
  (hps:before=pa++pv) (hw:Below W.heap.size W W')
  (hok:∀(j:Nat) (t:TypeId) (r:Value),f.resultTypes[j]? = some t→(v.resultList f.resultTypes.size)[j]? = some r→Value.okWide P W' .any 0 t r) :
  s.post enc P f apart fresh handsOn again W args v W':=by
 have hold:∀p∈before,(fun b=>decide (b<W.heap.size)) p.block=true:=fun p hp=>by simpa using hW.lt p hp
 have hlt:∀p∈before,p.block<W.heap.size:=fun p hp=>hW.lt p hp
 refine⟨ds,gs,before,[],pa,pv,hW,hres _ _ _,hargs _ hold,hvars _ hold,World.keptBut_mono (fun p hp=>⟨hp,?_⟩) (hw.frame (·∈before)),fun _=>?_⟩
 ·rw[hps,List.mem_append]at hp
  exact Or.inr hp
 ·obtain⟨_,_,_,_,_,hz,hn⟩:=hW
  refine⟨hok,_,_,([]++pa)++pv,⟨[]++pa,pv,trodAll_append (hargs _ (fun _ _=>rfl)) (hres _ _ _),hvars _ (fun _ _=>rfl),rfl,?_,?_⟩,?_⟩
  ·intro b off hp
   have hp':MemPlace.cell b off∈before:=by rw[hps];simpa using hp
   rw[hw.frozen (p:=⟨b,off,none⟩) (hlt _ hp')]
   exact hz b off hp'
  ·intro ha
   have:=hn ha
   rw[hps]at this
   simpa using this
  ·intro p hp _
   rw[hps]
   simpa using hp
end
section
open Go.ChangeShapes Go.WideShapes Go.ChangeAt Go.RowKit
inductive Ty where
 | int (k:IntKind)
 | bool
 | str
 | sl (r:Ty)
 | nil
 | cons (a:Ty) (r:Ty)
def Ty.z:Ty→Nat
 | .nil=>0
 | .cons a r=>a.z+r.z
 | _=>1
def Ok:Ty→List AV→Prop
 | .int k,cs=>∃n,cs=[.i k n]∧(Lit.int k n).wf=true
 | .bool,cs=>∃b,cs=[.b b]
 | .str,cs=>∃l,cs=[.s l]∧l.length≤maxLen
 | .sl r,cs=>∃els f,cs=[.sl els f]∧els.length≤maxLen∧(f=.nl∧els=[]∨f=.so)∧∀row∈els,Ok r row
 | .nil,cs=>cs=[]
 | .cons a r,cs=>∃c1 c2,cs=c1++c2∧Ok a c1∧Ok r c2
theorem Ok.len:∀{ty:Ty} {cs:List AV},Ok ty cs→cs.length=ty.z
 | .int _,_,⟨_,h,_⟩=>by rw[h];rfl
 | .bool,_,⟨_,h⟩=>by rw[h];rfl
 | .str,_,⟨_,h,_⟩=>by rw[h];rfl
 | .sl _,_,⟨_,_,h,_⟩=>by rw[h];rfl
 | .nil,_,h=>by rw[show _=[] from h];rfl
 | .cons _ _,_,⟨_,_,h,h1,h2⟩=>by rw[h,List.length_append,h1.len,h2.len];rfl
def RowC(w:World)(S:Nat→Nat→Prop)(cs:List Value)(xs:List AV):Prop:=
 xs.length=cs.length∧∀(j:Nat) (v:Value) (c:AV),cs[j]? = some v→xs[j]? = some c→CP w S v c∧v.oneCell'=true
section
variable{H:Type}{enc:TypeId×Value→H}{P:Program}{w:World}{base:Nat}{held:Bool}{S:Nat→Nat→Prop}
theorem RowC.nil:RowC w S [] []:=⟨rfl,fun j v c h=>by simp at h⟩
theorem RowC.one{v:Value}{c:AV}(h:CP w S v c)(h1:v.oneCell'=true):RowC w S [v] [c]:=by
 refine⟨rfl,fun j v' c' hv hc=>?_⟩
 cases j with
 | zero=>simp at hv hc;subst hv;subst hc;exact⟨h,h1⟩
 | succ j=>simp at hv
theorem RowC.append{cs cs':List Value}{xs xs':List AV}(h:RowC w S cs xs)(h':RowC w S cs' xs'):RowC w S (cs++cs') (xs++xs'):=by
 refine⟨by rw[List.length_append,List.length_append,h.1,h'.1],fun j v c hv hc=>?_⟩
 by_cases hj:j<cs.length
 ·rw[List.getElem?_append_left hj]at hv
  rw[List.getElem?_append_left (by rw[h.1];exact hj)]at hc
  exact h.2 j v c hv hc
 ·rw[List.getElem?_append_right (by omega)]at hv
  rw[List.getElem?_append_right (by rw[h.1];omega),h.1]at hc
  exact h'.2 _ v c hv hc
def fieldsTy(P:Program)(g:TypeId→Option Ty)(tot:Nat):Nat→List Field→Option Ty
 | off,[]=>if off=tot then some .nil else none
 | off,f::fs=>(g f.type).bind fun a=>if f.offset=off∧a.z=P.cellsOf f.type then (fieldsTy P g tot (off+a.z) fs).map (.cons a) else none
def repTy:Nat→Ty→Ty
 | 0,_=>.nil
 | n+1,a=>.cons a (repTy n a)
def tyOf(P:Program):Nat→TypeId→Option Ty
 | 0,_=>none
 | n+1,t=>
  match P.underlying t with
  | some .bool=>some .bool
  | some (.int k)=>some (.int k)
  | some .string=>some .str
  | some (.slice e)=>(tyOf P n e).bind fun r=>if r.z=P.cellsOf e∧0<r.z then some (.sl r) else none
  | some (.struct fs)=>fieldsTy P (tyOf P n) (P.cellsOf t) 0 fs.toList
  | some (.array k e)=>(tyOf P n e).bind fun a=>if a.z=P.cellsOf e∧k*a.z=P.cellsOf t then some (repTy k a) else none
  | _=>none
theorem zr6{α:Type}{Q:Nat→α→Prop}:∀(n:Nat),(∀i,i<n→∃x,Q i x)→∃l:List α,l.length=n∧∀i x,l[i]? = some x→Q i x
 | 0,_=>⟨[],rfl,fun i x h=>by simp at h⟩
 | n+1,h=>by
  obtain⟨l,hl,hq⟩:=zr6 n fun i hi=>h i (by omega)
  obtain⟨x,hx⟩:=h n (by omega)
  refine⟨l++[x],by simp[hl],fun i y hy=>?_⟩
  by_cases hi:i<n
  ·rw[List.getElem?_append_left (by omega)]at hy
   exact hq i y hy
  ·rw[List.getElem?_append_right (by omega)]at hy
   have:i-l.length=0:=by
    have:=(List.getElem?_eq_some_iff.1 hy).1
    simp at this
    omega
   rw[this]at hy
   simp at hy
   subst hy
   have e:i=n:=by omega
   rw[e]
   exact hx
def Places(S:Nat→Nat→Prop)(ps:List MemPlace):Prop:=∀k o,MemPlace.cell k o∈ps→S k o
theorem zg4{n:Nat}{g:TypeId→Option Ty}{cs:List Value}
  (ih:∀t cs x ty,DataW.trod enc P w base (fun _=>true) held n t cs=some x→g t=some ty→Places S x.2→∃xs,Ok ty xs∧RowC w S cs xs) :
  ∀(fs:List Field) (off:Nat) (ty:Ty) (ys:List (DataW H×List MemPlace)),
   ys.length=fs.length→(∀(i:Nat) (f:Field),fs[i]? = some f→DataW.trod enc P w base (fun _=>true) held n f.type ((cs.drop f.offset).take (P.cellsOf f.type))=ys[i]?) →
   fieldsTy P g cs.length off fs=some ty→Places S (ys.flatMap (·.2))→∃xs,Ok ty xs∧RowC w S (cs.drop off) xs
 | [],off,ty,ys,hl,hm,ht,hp=>by
  simp only[fieldsTy]at ht
  split at ht<;>cases ht
  rename_i ho
  exact⟨[],rfl,by rw[ho,List.drop_length];exact RowC.nil⟩
 | f::fs,off,ty,[],hl,hm,ht,hp=>by simp at hl
 | f::fs,off,ty,y::ys1,hl,hm,ht,hp=>by
  simp only[fieldsTy]at ht
  obtain⟨a,ha,ht1⟩:=bind_some ht
  split at ht1
  ·rename_i hc
   obtain⟨ho,hz⟩:=hc
   obtain⟨r,hr,rfl⟩:=map_some ht1
   have hy:=hm 0 f rfl
   rw[ho,←hz]at hy
   simp only[List.getElem?_cons_zero]at hy
   obtain⟨xs1,ho1,hr1⟩:=ih _ _ _ _ hy ha fun k o h=>hp k o (by simp[h])
   obtain⟨xs2,ho2,hr2⟩:=zg4 ih fs _ r ys1 (by simpa using hl) (fun i f' hf=>by simpa using hm (i+1) f' (by simpa using hf)) hr fun k o h=>hp k o (by
    rw[List.flatMap_cons,List.mem_append]
    exact .inr h)
   refine⟨xs1++xs2,⟨xs1,xs2,rfl,ho1,ho2⟩,?_⟩
   have e:cs.drop off=(cs.drop off).take a.z++cs.drop (off+a.z):=by rw[←List.drop_drop,List.take_append_drop]
   rw[e]
   exact hr1.append hr2
  ·cases ht1
theorem zim{n:Nat}{e:TypeId}{r:Ty}(ih:∀cs x,DataW.trod enc P w base (fun _=>true) held n e cs=some x→Places S x.2→∃xs,Ok r xs∧RowC w S cs xs) :
  ∀(k:Nat) (cs:List Value) (ys:List (DataW H×List MemPlace)),ys.length=k→cs.length=k*r.z →
   (∀(i:Nat),i<k→DataW.trod enc P w base (fun _=>true) held n e ((cs.drop (i*r.z)).take r.z)=ys[i]?)→Places S (ys.flatMap (·.2))→∃xs,Ok (repTy k r) xs∧RowC w S cs xs
 | 0,cs,ys,hl,hc,hm,hp=>by
  rw[Nat.zero_mul,List.length_eq_zero_iff]at hc
  subst hc
  exact⟨[],rfl,RowC.nil⟩
 | k+1,cs,[],hl,hc,hm,hp=>by simp at hl
 | k+1,cs,y::ys,hl,hc,hm,hp=>by
  have hy:=hm 0 (by omega)
  rw[Nat.zero_mul,List.drop_zero]at hy
  simp only[List.getElem?_cons_zero]at hy
  obtain⟨xs1,ho1,hr1⟩:=ih _ _ hy fun k o h=>hp k o (by simp[h])
  obtain⟨xs2,ho2,hr2⟩:=zim ih k (cs.drop r.z) ys (by simpa using hl) (by rw[List.length_drop,hc,Nat.succ_mul];omega) (fun i hi=>by
   have:=hm (i+1) (by omega)
   rw[Nat.succ_mul,Nat.add_comm (i*r.z),←List.drop_drop]at this
   simpa using this) fun k o h=>hp k o (by
    rw[List.flatMap_cons,List.mem_append]
    exact .inr h)
  refine⟨xs1++xs2,⟨xs1,xs2,rfl,ho1,ho2⟩,?_⟩
  have e:cs=cs.take r.z++cs.drop r.z:=(List.take_append_drop ..).symm
  rw[e]
  exact hr1.append hr2
theorem zn9{a:Addr}{m z:Nat}{cs:List Value}(h:w.cells? base (a.add m) z=some cs)(j:Nat)(hj:j<z):w.cell? ((a.add m).add j)=cs[j]? := (World.cells?_some h).2.2 j hj
theorem zr7{a:Addr}{v:Value}(h:w.cell? a=some v):a.spot=none:=by
 unfold World.cell? at h
 split at h
 ·split at h
  ·cases h
  ·rename_i hs;simpa using hs
 ·cases h
theorem ze9:∀(n m:Nat) (t:TypeId) (cs:List Value) (x:DataW H×List MemPlace) (ty:Ty),
  DataW.trod enc P w base (fun _=>true) held n t cs=some x→tyOf P m t=some ty→Places S x.2→∃xs,Ok ty xs∧RowC w S cs xs
 | 0,_,_,_,_,_,h,_,_=>by simp[DataW.trod]at h
 | n+1,0,_,_,_,_,_,ht,_=>by simp[tyOf]at ht
 | n+1,m+1,t,cs,x,ty,h,ht,hp=>by
  simp only[tyOf]at ht
  split at ht
  ·rename_i hu
   cases ht
   obtain⟨b,rfl,rfl⟩:=DataW.trod_bool hu h
   exact⟨[.b b],⟨b,rfl⟩,RowC.one (.b b) rfl⟩
  ·rename_i k hu
   cases ht
   obtain⟨z,rfl,rfl,hw⟩:=DataW.trod_int hu h
   exact⟨[.i k z],⟨z,rfl,hw⟩,RowC.one (.i k z) rfl⟩
  ·rename_i hu
   cases ht
   obtain⟨s,rfl,rfl,hs⟩:=DataW.trod_string hu h
   exact⟨[.s s.data.toList],⟨_,rfl,by simpa using hs⟩,RowC.one (.s s.data.toList) rfl⟩
  ·rename_i e hu
   obtain⟨r,hr,ht1⟩:=bind_some ht
   split at ht1
   ·rename_i hz
    cases ht1
    obtain⟨hz,hzp⟩:=hz
    rcases DataW.trod_slice hu h with ⟨rfl,rfl⟩ | ⟨a,len,cap,elems,rest,n',hn',rfl,rfl,hb,hl,hmx,hlen,hel,hsp,hns⟩
    ·exact⟨[.sl [] .nl],⟨[],.nl,rfl,Nat.zero_le _,.inl ⟨rfl,rfl⟩,fun row h=>by simp at h⟩,RowC.one (.slnil _ (.inl rfl)) rfl⟩
    ·cases hn'
     obtain⟨hrl,hrest⟩:=hsp rfl
     have hall:∀i,i<cap→∃y cs',y∈elems++rest∧w.cells? base (a.add (i*P.cellsOf e)) (P.cellsOf e)=some cs'∧DataW.trod enc P w base (fun _=>true) held n e cs'=some y:=by
      intro i hi
      by_cases hil:i<len
      ·have h1:=hel i hil
       rw[List.getElem?_eq_getElem (by omega)]at h1
       obtain⟨cs',h2,h3⟩:=bind_some h1
       exact⟨_,cs',List.mem_append_left _ (List.getElem_mem (by omega)),h2,h3⟩
      ·have h1:=hrest (i-len) (by omega)
       rw[List.getElem?_eq_getElem (by omega),show len+(i-len)=i by omega]at h1
       obtain⟨cs',h2,h3⟩:=bind_some h1
       exact⟨_,cs',List.mem_append_right _ (List.getElem_mem (by omega)),h2,h3⟩
     by_cases hcap:cap=0
     ·have hl0:len=0:=by omega
      subst hcap
      subst hl0
      exact⟨[.sl [] .so],⟨[],.so,rfl,Nat.zero_le _,.inr rfl,fun row h=>by simp at h⟩,RowC.one (.slz a _ (.inl rfl)) rfl⟩
     ·have hspot:a.spot=none:=by
       obtain⟨y,cs',_,h2,_⟩:=hall 0 (by omega)
       have h3:=zn9 h2 0 (by omega)
       have h4:=(World.cells?_some h2).2.1
       rw[List.getElem?_eq_getElem (by omega)]at h3
       have h5:=zr7 h3
       simpa[Addr.add]using h5
      obtain⟨blk,off,sp⟩:=a
      simp only at hspot
      subst hspot
      have hrows:∀i,i<len→∃xs,Ok r xs∧∃cs',w.cells? base ((⟨blk,off,none⟩:Addr).add (i*P.cellsOf e)) (P.cellsOf e)=some cs'∧RowC w S cs' xs:=by
       intro i hi
       obtain⟨y,cs',hy,h2,h3⟩:=hall i (by omega)
       obtain⟨xs,ho,hrc⟩:=ze9 n m e cs' y r h3 hr fun k o hk=>hp k o (by
        rw[List.mem_append]
        exact .inr (List.mem_flatMap.2 ⟨y,hy,hk⟩))
       exact⟨xs,ho,cs',h2,hrc⟩
      obtain⟨els,hels,hq⟩:=zr6 len hrows
      refine⟨[.sl els .so],⟨els,.so,rfl,by omega,.inr rfl,fun row hrow=>?_⟩,RowC.one ?_ rfl⟩
      ·obtain⟨i,hi⟩:=List.getElem?_of_mem hrow
       exact(hq i row hi).1
      ·have hcell:∀i j,i<els.length→j<r.z→∃v,w.cell? ⟨blk,off+i*r.z+j,none⟩=some v∧v.oneCell'=true∧∀row c,els[i]? = some row→row[j]? = some c→CP w S v c:=by
        intro i j hi hj
        obtain⟨ho,cs',h2,hrc⟩:=hq i _ (List.getElem?_eq_getElem hi)
        have h3:=zn9 h2 j (by omega)
        have h4:=(World.cells?_some h2).2.1
        rw[zbd,zbd,←hz,List.getElem?_eq_getElem (by omega)]at h3
        have hlr:=ho.len
        have h5:=hrc.2 j _ _ (List.getElem?_eq_getElem (by omega)) (List.getElem?_eq_getElem (by omega))
        refine⟨_,h3,h5.2,fun row c hrow hc=>?_⟩
        rw[List.getElem?_eq_getElem hi]at hrow
        cases hrow
        rw[List.getElem?_eq_getElem (by omega)]at hc
        cases hc
        exact h5.1
       have hS:∀i j,i<els.length→j<r.z→S blk (off+i*r.z+j):=by
        intro i j hi hj
        refine hp _ _ ?_
        rw[List.mem_append]
        left
        unfold MemPlace.row
        rw[List.mem_map]
        refine⟨i*r.z+j,?_,by rw[Nat.add_assoc]⟩
        rw[List.mem_range,←hz]
        have h1:(i+1)*r.z≤(elems.length+rest.length)*r.z:=Nat.mul_le_mul_right _ (by omega)
        rw[Nat.add_mul,Nat.one_mul]at h1
        omega
       have:=CP.sl (w:=w) (S:=S) blk off r.z cap els .so (fun i j=>(w.cell? ⟨blk,off+i*r.z+j,none⟩).getD undef) (by simp) (by simp) (by omega) hmx
        (fun i row hrow=>(hq i row hrow).1.len) (fun i j hi hj=>?_) (fun i row j c hrow hc=>?_)
       ·rw[hels]at this
        exact this
       ·obtain⟨v,h1,h2,_⟩:=hcell i j hi hj
        exact⟨hS i j hi hj,by rw[h1];rfl,by rw[h1];exact h2⟩
       ·have hi:=(List.getElem?_eq_some_iff.1 hrow).1
        have hj:=(List.getElem?_eq_some_iff.1 hc).1
        rw[(hq i row hrow).1.len]at hj
        obtain⟨v,h1,_,h3⟩:=hcell i j hi hj
        show CP w S ((w.cell? ⟨blk,off+i*r.z+j,none⟩).getD undef) c
        rw[h1]
        exact h3 row c hrow hc
   ·cases ht1
  ·rename_i fs hu
   obtain⟨xs,n',hn',rfl,hcl,hxl,hx⟩:=DataW.trod_struct hu h
   cases hn'
   rw[←hcl]at ht
   have:=zg4 (S:=S) (g:=tyOf P m) (cs:=cs) (n:=n) (fun t cs x ty h1 h2 h3=>ze9 n m t cs x ty h1 h2 h3) fs.toList 0 ty xs (by rw[hxl];simp) (fun i f hf=>hx i f (by simpa using hf)) ht hp
   simpa using this
  ·rename_i k e hu
   obtain⟨r,hr,ht1⟩:=bind_some ht
   split at ht1
   ·rename_i hz
    cases ht1
    obtain⟨hz,hzt⟩:=hz
    obtain⟨xs,n',hn',rfl,hcl,hxl,hx⟩:=DataW.trod_array hu h
    cases hn'
    rw[←hz]at hx
    exact zim (S:=S) (n:=n) (e:=e) (r:=r) (fun cs x h1 h3=>ze9 n m e cs x r h1 hr h3) k cs xs hxl (by omega) hx hp
   ·cases ht1
  ·cases ht
end
end
section
open Go.ChangeShapes Go.WideShapes Go.ChangeAt Go.RowKit
def isAgg(P:Program)(t:TypeId):Bool:=match P.underlying t with | some (.struct _)=>true | some (.array _ _)=>true | _=>false
def tysOf(P:Program)(m:Nat):List TypeId→Option (List (Bool×Ty))
 | []=>some []
 | t::ts=>(tyOf P m t).bind fun a=>(tysOf P m ts).map fun r=>(isAgg P t,a)::r
def OkArg:Bool×Ty→AV→Prop
 | (true,ty),x=>∃cs,x=.agg cs∧Ok ty cs
 | (false,ty),x=>Ok ty [x]
def OkArgs:List (Bool×Ty)→List AV→Prop
 | [],xs=>xs=[]
 | a::r,xs=>∃x ys,xs=x::ys∧OkArg a x∧OkArgs r ys
section
variable{H:Type}{enc:TypeId×Value→H}{P:Program}{w:World}{S:Nat→Nat→Prop}
theorem zvq{m:Nat}{t:TypeId}{v:Value}{d:DataW H}{p:List MemPlace}{ty:Ty}{base:Nat}(hA:DataW.Trod enc P w 0 (fun _=>true) true t v d p)(hT:tyOf P m t=some ty)
  (hval:Value.okWide P w .any base t v) (hp:Places S p):∃x,OkArg (isAgg P t,ty) x∧CP w S v x:=by
 obtain⟨fuel,hf⟩:=hA
 obtain⟨xs,ho,hrc⟩:=ze9 (S:=S) fuel m t _ _ ty hf hT hp
 have hlen:=ho.len
 cases hu:P.underlying t with
 | none=>cases m<;>simp[tyOf,hu]at hT
 | some desc=>
  have one:∀(hag:isAgg P t=false) (hz:ty.z=1) (hv:v.cells=#[v]),∃x,OkArg (isAgg P t,ty) x∧CP w S v x:=by
   intro hag hz hv
   rw[hag]
   match xs,hlen with
   | [x],_=>
    refine⟨x,ho,?_⟩
    have:=hrc.2 0 v x (by rw[hv];rfl) rfl
    exact this.1
   | [],h=>simp[hz]at h
   | _::_::_,h=>simp[hz]at h
  cases m with
  | zero=>simp[tyOf]at hT
  | succ m=>
  cases desc<;>simp only[tyOf,hu]at hT<;>try (cases hT;done)
  case struct fs=>
   have hag:isAgg P t=true:=by simp[isAgg,hu]
   rw[hag]
   unfold Value.okWide at hval
   rw[hu]at hval
   obtain⟨cs,rfl,hcs,_⟩:=hval
   refine⟨.agg xs,⟨xs,rfl,ho⟩,.agg cs xs ?_ ?_ ?_⟩
   ·have:=hrc.1
    simpa[Value.cells]using this.symm
   ·intro j u hu
    have hl:=hrc.1
    have hj:j<cs.size:=(Array.getElem?_eq_some_iff.1 hu).1
    have hj':j<xs.length:=by rw[hl];simpa[Value.cells]using hj
    exact(hrc.2 j u _ (by simpa[Value.cells]using hu) (List.getElem?_eq_getElem hj')).2
   ·intro j u c hu hc
    exact(hrc.2 j u c (by simpa[Value.cells]using hu) hc).1
  case array k e=>
   have hag:isAgg P t=true:=by simp[isAgg,hu]
   rw[hag]
   unfold Value.okWide at hval
   rw[hu]at hval
   obtain⟨cs,rfl,hcs,_⟩:=hval
   refine⟨.agg xs,⟨xs,rfl,ho⟩,.agg cs xs ?_ ?_ ?_⟩
   ·have:=hrc.1
    simpa[Value.cells]using this.symm
   ·intro j u hu
    have hl:=hrc.1
    have hj:j<cs.size:=(Array.getElem?_eq_some_iff.1 hu).1
    have hj':j<xs.length:=by rw[hl];simpa[Value.cells]using hj
    exact(hrc.2 j u _ (by simpa[Value.cells]using hu) (List.getElem?_eq_getElem hj')).2
   ·intro j u c hu hc
    exact(hrc.2 j u c (by simpa[Value.cells]using hu) hc).1
  case bool=>
   cases hT
   unfold Value.okWide Cell.okWide Cell.ok at hval
   rw[hu]at hval
   refine one (by simp[isAgg,hu]) rfl ?_
   cases v<;>first | rfl | (exact hval.elim)
  case int k=>
   cases hT
   unfold Value.okWide Cell.okWide Cell.ok at hval
   rw[hu]at hval
   refine one (by simp[isAgg,hu]) rfl ?_
   cases v<;>first | rfl | (exact hval.elim)
  case string=>
   cases hT
   unfold Value.okWide Cell.okWide Cell.ok at hval
   rw[hu]at hval
   refine one (by simp[isAgg,hu]) rfl ?_
   cases v<;>first | rfl | (exact hval.elim)
  case slice e=>
   obtain⟨r,hr,ht1⟩:=bind_some hT
   split at ht1<;>cases ht1
   unfold Value.okWide Cell.okWide Cell.ok at hval
   rw[hu]at hval
   refine one (by simp[isAgg,hu]) rfl ?_
   cases v<;>first | rfl | (exact hval.elim)
theorem zks{m base:Nat}:∀(ts:List TypeId) (vs:List Value) (ds:List (DataW H)) (p:List MemPlace) (tys:List (Bool×Ty)),DataW.TrodAll enc P w 0 (fun _=>true) true ts vs ds p→tysOf P m ts=some tys →
  (∀(j:Nat) t v,ts[j]? = some t→vs[j]? = some v→Value.okWide P w .any base t v)→Places S p →
  ∃xs,OkArgs tys xs∧vs.length=xs.length∧∀(j:Nat) (v:Value) (c:AV),vs[j]? = some v→xs[j]? = some c→CP w S v c
 | [],vs,ds,p,tys,hA,hT,hval,hp=>by
  obtain⟨rfl,_,_⟩:=trodAll_nil hA
  cases hT
  exact⟨[],rfl,rfl,fun j v c h=>by simp at h⟩
 | t::ts,vs,ds,p,tys,hA,hT,hval,hp=>by
  obtain⟨v,vs1,d,ds1,a,b,rfl,rfl,rfl,h1,h2⟩:=trodAll_cons hA
  obtain⟨ty,hty,hT1⟩:=bind_some hT
  obtain⟨r,hr,rfl⟩:=map_some hT1
  obtain⟨x,hx,hC⟩:=zvq (S:=S) h1 hty (hval 0 t v rfl rfl) fun k o h=>hp k o (List.mem_append_left _ h)
  obtain⟨xs,ho,hl,hc⟩:=zks (m:=m) (base:=base) ts vs1 ds1 b r h2 hr (fun j t v ht hv=>hval (j+1) t v (by simpa using ht) (by simpa using hv)) fun k o h=>hp k o (List.mem_append_right _ h)
  refine⟨x::xs,⟨x,xs,rfl,hx,ho⟩,by simp[hl],fun j u c hu hcc=>?_⟩
  cases j with
  | zero=>simp at hu hcc;subst hu;subst hcc;exact hC
  | succ j=>exact hc j u c (by simpa using hu) (by simpa using hcc)
theorem zoa(hl:laidOutB P=true){W W':World}(hb:Below W.heap.size W W'){sp:Nat→Bool}:∀(ts:List TypeId) (vs:List Value) (ds:List (DataW H)) (p:List MemPlace),
  (ts.all fun t=>P.readableRec t&&decide (t<P.types.size))=true→DataW.TrodAll enc P W 0 (fun _=>true) true ts vs ds p→(∀x∈p,x.block<W.heap.size)→(∀x∈p,sp x.block=true)→DataW.TrodAll enc P W' 0 sp true ts vs ds p
 | [],_,_,_,_,hA,_,_=>by
  obtain⟨rfl,rfl,rfl⟩:=trodAll_nil hA
  exact rfl
 | t::ts,vs,ds,p,hr,hA,hlt,hsp=>by
  obtain⟨v,vs1,d,ds1,a,b,rfl,rfl,rfl,h1,h2⟩:=trodAll_cons hA
  rw[List.all_cons,Bool.and_eq_true,Bool.and_eq_true,decide_eq_true_eq]at hr
  exact⟨a,b,WideElems.Trod_stays hl hr.1.1 hr.1.2 h1 (fun x hx=>hb.same (hlt x (List.mem_append_left _ hx))) (fun x hx=>hsp x (List.mem_append_left _ hx)),
   zoa hl hb ts vs1 ds1 b hr.2 h2 (fun x hx=>hlt x (List.mem_append_right _ hx)) (fun x hx=>hsp x (List.mem_append_right _ hx)),rfl⟩
theorem zr8:∀(ts:List TypeId) (vs:List Value) (ds:List (DataW H)) (p:List MemPlace),DataW.TrodAll enc P w 0 (fun _=>true) true ts vs ds p→ds.length=ts.length
 | [],_,_,_,hA=>by
  obtain⟨rfl,rfl,rfl⟩:=trodAll_nil hA
  rfl
 | t::ts,vs,ds,p,hA=>by
  obtain⟨v,vs1,d,ds1,a,b,rfl,rfl,rfl,h1,h2⟩:=trodAll_cons hA
  simp[zr8 ts vs1 ds1 b h2]
theorem zvr{f:FuncId}{fn:Func}{s:ChangeSpec}{m tb:Nat}{tys:List (Bool×Ty)}{fresh handsOn again:Bool}(hvars:s.vars=[])(hT:tysOf P m fn.params.toList=some tys)(hl:laidOutB P=true)
  (hread:(fn.params.toList.all fun t=>P.readableRec t&&decide (t<P.types.size))=true) (hr:fn.resultTypes=#[tb]) (hb:P.underlying tb=some .bool)
  (hfn:∀ds:List (DataW H),ds.length=fn.params.toList.length→s.fn H ds={ results:=[.lit (.bool true)],args:=ds })
  (hcall:∀xs,OkArgs tys xs→PCall P f xs (·=.b true)) {W:World} {args:Array Value} {ds gs:List (DataW H)} {before:List MemPlace} {base:Nat}
  (hval:∀(j:Nat) t v,fn.params[j]? = some t→args[j]? = some v→Value.okWide P W .any base t v) (hW:DataW.Whole enc P fn.params.toList s.vars false W args.toList ds gs before) :
  Calls P f args W fun e W'=>∃v,e=.returned v∧s.post enc P fn false fresh handsOn again W args v W':=by
 have hW':=hW
 obtain⟨p,q,hA,hV,rfl,hfz,hnd⟩:=hW
 rw[hvars]at hV
 obtain⟨rfl,rfl⟩:=trodVars_none hV
 have hlt:∀x∈p,x.block<W.heap.size:=fun x hx=>hW'.lt x (List.mem_append_left _ hx)
 obtain⟨xs,ho,hlen,hC⟩:=zks (S:=fun k o=>MemPlace.cell k o∈p) _ _ _ _ _ hA hT (fun j t v ht hv=>hval j t v (by simpa using ht) (by simpa using hv)) (fun k o h=>h)
 have hc:=(hcall xs ho).2 W (fun k o=>MemPlace.cell k o∈p) args (by simpa using hlen) (fun j v c hv hc=>hC j v c (by simpa using hv) hc) (fun k o h=>hlt _ h)
 refine hc.mono fun e W' ⟨v,r,he,hrr,hbel,hCr⟩=>?_
 subst he hrr
 have hv:v=.bool true:=by cases hCr;rfl
 subst hv
 have hlf:=hfn ds (zr8 _ _ _ _ hA)
 refine⟨_,rfl,zji (pa:=p) (pv:=[]) hW' (fun b sp hd=>?_) (fun sp hsp=>?_) (fun sp _=>?_) rfl hbel (ok_one hr rfl (okWide_bool_mk hb _))⟩
 ·rw[List.append_nil,hlf,hr]
  exact trodAll_mk1 (shut_bool hb _)
 ·rw[List.append_nil,hlf]
  exact zoa hl hbel _ _ _ _ hread hA hlt fun x hx=>hsp x (List.mem_append_left _ hx)
 ·rw[List.append_nil,hlf,hvars]
  exact rfl
end
end
theorem zjt:∀(els:List (List AV)),(∀row∈els,Ok (.int .u32) row)→∃l:List UInt32,els=u32s l
 | [],_=>⟨[],rfl⟩
 | r::els,h=>by
  obtain⟨l,rfl⟩:=zjt els fun row hr=>h row (List.mem_cons_of_mem _ hr)
  obtain⟨n,rfl,hw⟩:=h r List.mem_cons_self
  have h1:0≤n∧n<4294967296:=by
   simp[Lit.wf,IntKind.min,IntKind.max,IntKind.signed,IntKind.bits]at hw
   omega
  refine⟨w32 n.toNat::l,?_⟩
  have:(w32 n.toNat).toNat=n.toNat:=zag (by omega)
  simp only[u32s,List.map_cons,this,u32]
  rw[Int.toNat_of_nonneg h1.1]
theorem zv1{P:Program}{ν:Nat→FuncId}{T:Tbl}(hT:TOk P ν T)(hm:P.follows .mixedOrders=true){u:Nat}{af:AFx}{xs ys:List AV}{r:AV}(hu:T u=some af)(hl:af.lent=none)(h:callF T u ys=some r)(hx:xs.map wkA=ys):PCall P (ν u) xs (·=r):=by
 subst hx
 have h1:=zhj hT hm hu hl h
 exact PCall.wk (ex:=false) h1
abbrev Fz:=Bool×List UInt32×List UInt32
abbrev celF(x:Fz):List AV:=[.b x.1,.sl (u32s x.2.1) .an,.sl (u32s x.2.2) .an]
abbrev efz(x:Fz):AV:=.agg (celF x)
def fv(x:Fz):Rat:=mkRat (wv x.1 x.2.1) (val x.2.2)
def fz(q:Rat):Fz:=(decide (q.num<0),ofN q.num.natAbs,ofN q.den)
@[simp] theorem zbo(q:Rat):fv (fz q)=q:=by
 unfold fv fz
 rw[zfo,zaf,Rat.mkRat_self]
def fsz(x:Fz):Nat:=max x.2.1.length x.2.2.length
theorem zeh(x:Fz):x.2.1.length≤fsz x:=Nat.le_max_left ..
theorem zez(x:Fz):x.2.2.length≤fsz x:=Nat.le_max_right ..
def sz(q:Rat):Nat:=max (ofN q.num.natAbs).length (ofN q.den).length
theorem zfp(q:Rat):(ofN q.num.natAbs).length≤sz q:=Nat.le_max_left ..
theorem zfq(q:Rat):(ofN q.den).length≤sz q:=Nat.le_max_right ..
theorem zh2{n:Nat}(h:n≠0):1≤(ofN n).length:=by
 have:ofN n≠[]:=fun e=>h (zbb.1 e)
 exact List.length_pos_iff.2 this
theorem zyk(q:Rat):1≤sz q:=Nat.le_trans (zh2 q.den_nz) (zfq q)
theorem zyl{z:Int}{d:Nat}(h:d≠0):(mkRat z d).num.natAbs=z.natAbs/Nat.gcd z.natAbs d:=by
 rw[Rat.num_mkRat,if_neg h,Int.natAbs_ediv_of_dvd (Int.ofNat_dvd_left.2 (Nat.gcd_dvd_right ..)),Int.natAbs_natCast,Nat.gcd_comm]
theorem zym{z:Int}{d:Nat}(h:d≠0):(mkRat z d).den=d/Nat.gcd z.natAbs d:=by
 rw[Rat.den_mkRat,if_neg h,Nat.gcd_comm]
theorem zyn{z:Int}{d:Nat}(h:d≠0):sgI (mkRat z d).num=sgI z:=by
 rw[Rat.num_mkRat,if_neg h]
 have hg:0<Nat.gcd d z.natAbs:=Nat.gcd_pos_of_pos_left _ (Nat.pos_of_ne_zero h)
 obtain⟨k,hk⟩:((Nat.gcd d z.natAbs:Nat):Int) ∣ z:=Int.ofNat_dvd_left.2 (Nat.gcd_dvd_right ..)
 generalize Nat.gcd d z.natAbs=g at *
 have hg':(0:Int)<g:=by omega
 subst hk
 rw[Int.mul_ediv_cancel_left _ (by omega)]
 unfold sgI
 rcases Int.lt_trichotomy k 0 with h1 | h1 | h1
 ·have:=Int.mul_neg_of_pos_of_neg hg' h1
  rw[if_pos h1,if_pos this]
 ·subst h1;simp
 ·have:=Int.mul_pos hg' h1
  rw[if_neg (by omega),if_neg (by omega),if_neg (by omega),if_neg (by omega)]
theorem zu5(z:Int):decide (z<0)=decide (sgI z<0):=by
 unfold sgI
 split
 ·simp[*]
 ·split<;>simp[*]
theorem z6a{z:Int}{d:Nat}(h:d≠0):decide ((mkRat z d).num<0)=decide (z<0):=by
 rw[zu5,zu5 z,zyn h]
theorem zad9(n:Bool)(x:Nat){d:Nat}(h:d≠0):fz (mkRat (sg n x) d)=(n&&decide (x≠0),ofN (x/Nat.gcd x d),ofN (d/Nat.gcd x d)):=by
 unfold fz
 rw[z6a h,zyl h,zym h,zo3,zo4]
theorem zdv:ofN 1=[1]:=by
 rw[zhz (by decide),show 1/4294967296=0 from rfl,zka]
 rfl
theorem zh3:sz 0=1:=by
 unfold sz
 rw[Rat.zero_num,Rat.zero_den,zdv]
 simp
theorem zi9:sz 1=1:=by
 unfold sz
 rw[Rat.one_num,Rat.one_den,show (1:Int).natAbs=1 from rfl,zdv]
 rfl
theorem za0(q:Rat):fsz (fz q)=sz q:=rfl
theorem z09{z:Int}{d L:Nat}(hz:(ofN z.natAbs).length≤L)(hd:(ofN d).length≤L)(h1:1≤L):sz (mkRat z d)≤L:=by
 unfold sz
 by_cases h:d=0
 ·subst h
  rw[Rat.mkRat_zero,Rat.zero_num,Rat.zero_den,zdv]
  simp
  omega
 ·rw[zyl h,zym h]
  exact Nat.max_le.2 ⟨Nat.le_trans (zbc (Nat.div_le_self _ _)) hz,Nat.le_trans (zbc (Nat.div_le_self _ _)) hd⟩
theorem zbs{x:Fz}{L:Nat}(h:fsz x≤L)(h1:1≤L):sz (fv x)≤L:=
 z09 (Nat.le_trans (zbv _ _) (Nat.le_trans (zeh x) h)) (Nat.le_trans (zad _) (Nat.le_trans (zez x) h)) h1
theorem zbt{x y L M:Nat}(hx:(ofN x).length≤L)(hy:(ofN y).length≤M):(ofN (x*y)).length≤L+M:=by
 have:=zaz (x:=(x:Int)) (y:=(y:Int)) (L:=L) (M:=M) (by simpa using hx) (by simpa using hy)
 simpa[Int.natAbs_mul]using this
theorem zja(p q:Rat):sz (p+q)≤sz p+sz q+1:=by
 rw[Rat.add_def']
 have h1:=zfp p;have h2:=zfq p;have h3:=zfp q;have h4:=zfq q;have h5:=zyk p
 refine z09 ?_ (Nat.le_trans (zbt h2 h4) (by omega)) (by omega)
 refine zdu ?_ ?_
 ·exact zaz h1 (by simpa using h4)
 ·rw[Nat.add_comm]
  exact zaz h3 (by simpa using h2)
theorem zgj(p q:Rat):sz (p*q)≤sz p+sz q:=by
 rw[Rat.mul_def']
 have h1:=zfp p;have h2:=zfq p;have h3:=zfp q;have h4:=zfq q;have h5:=zyk p
 exact z09 (zaz h1 h3) (zbt h2 h4) (by omega)
theorem zo5(p:Rat):sz (-p)=sz p:=by
 unfold sz
 rw[Rat.neg_num,Rat.neg_den,Int.natAbs_neg]
theorem zo6(p q:Rat):sz (p-q)≤sz p+sz q+1:=by
 rw[Rat.sub_eq_add_neg]
 have:=zja p (-q)
 rwa [zo5]at this
theorem zyo(p:Rat):sz p⁻¹≤sz p:=by
 unfold sz
 rw[Rat.num_inv,Rat.den_inv]
 by_cases h:p.num=0
 ·simp[h,zdv]
  have:=zh2 p.den_nz
  omega
 ·rw[if_neg h,Int.natAbs_mul,Int.natAbs_sign_of_ne_zero h,Nat.one_mul,Int.natAbs_natCast,Nat.max_comm]
  exact Nat.le_refl _
theorem zu6(p q:Rat):sz (p/q)≤sz p+sz q:=by
 rw[Rat.div_def]
 exact Nat.le_trans (zgj _ _) (Nat.add_le_add_left (zyo q) _)
def sgQ(q:Rat):Int:=sgI q.num
theorem zyp{z:Int}{d:Nat}(h:d≠0):sgQ (mkRat z d)=sgI z:=zyn h
theorem zxo{z:Int}:sgI z=0↔z=0:=by
 unfold sgI
 split
 ·constructor<;>intro h<;>omega
 ·split<;>constructor<;>intro h<;>omega
theorem z1a{z:Int}:0<sgI z↔0<z:=by
 unfold sgI
 split
 ·constructor<;>intro h<;>omega
 ·split<;>constructor<;>intro h<;>omega
theorem z1b{z:Int}:sgI z<0↔z<0:=by
 unfold sgI
 split
 ·constructor<;>intro h<;>omega
 ·split<;>constructor<;>intro h<;>omega
theorem zfr{q:Rat}:sgQ q=0↔q=0:=by
 unfold sgQ
 rw[zxo,Rat.num_eq_zero]
theorem zf9{q:Rat}:0<sgQ q↔0<q:=by
 unfold sgQ
 rw[z1a,Rat.lt_iff]
 simp
theorem zu7{q:Rat}:sgQ q<0↔q<0:=by
 unfold sgQ
 rw[z1b,Rat.lt_iff]
 simp
def rowF(l:List Fz):List (List AV):=l.map celF
@[simp] theorem zh4(l:List Fz):(rowF l).length=l.length:=by simp[rowF]
@[simp] theorem zbi(l:List Fz):wkL (rowF l)=rowF l:=by rw[zbx];simp[rowF,wkR,wkA]
@[simp] theorem z9i(l:List Fz)(i:Nat)(h:i<(rowF l).length):(rowF l)[i]=celF (l[i]'(by simpa using h)):=by simp[rowF]
theorem zh5(l:List Fz)(x:Fz):rowF l++[celF x]=rowF (l++[x]):=by simp[rowF]
theorem zxp(l:List Fz)(i:Nat)(x:Fz):(rowF l).set i (celF x)=rowF (l.set i x):=by simp[rowF,List.map_set]
@[simp] theorem z6b(l:List Fz)(n:Nat):(rowF l).take n=rowF (l.take n):=by simp[rowF]
@[simp] theorem zeg:rowF []=[]:=rfl
def matF(m:List (List Fz)):List (List AV):=m.map fun r=>[.sl (rowF r) .an]
@[simp] theorem z1c(l:List (List Fz)):(matF l).length=l.length:=by simp[matF]
@[simp] theorem z1d(l:List (List Fz)):wkL (matF l)=matF l:=by rw[zbx];simp[matF,wkR,wkA]
@[simp] theorem z9j(l:List (List Fz))(i:Nat)(h:i<(matF l).length):(matF l)[i]=[.sl (rowF (l[i]'(by simpa using h))) .an]:=by simp[matF]
theorem zu8(l:List (List Fz))(r:List Fz):matF l++[[.sl (rowF r) .an]]=matF (l++[r]):=by simp[matF]
@[simp] theorem z6c(l:List (List Fz))(n:Nat):(matF l).take n=matF (l.take n):=by simp[matF]
@[simp] theorem zo7:matF []=[]:=rfl
abbrev tyF:Ty:=.cons .bool (.cons (.sl (.int .u32)) (.cons (.sl (.int .u32)) .nil))
theorem zhl{cs:List AV}(h:Ok tyF cs):∃x:Fz,wkR cs=celF x:=by
 obtain⟨c1,c2,rfl,⟨b,rfl⟩,c3,c4,rfl,⟨els,f,rfl,_,_,he⟩,c5,c6,rfl,⟨els2,f2,rfl,_,_,he2⟩,rfl⟩:=h
 obtain⟨l,rfl⟩:=zjt els he
 obtain⟨l2,rfl⟩:=zjt els2 he2
 refine⟨(b,l,l2),?_⟩
 simp[wkA,wkR]
theorem zlh:∀(els:List (List AV)),(∀r∈els,Ok tyF r)→∃l:List Fz,wkL els=rowF l
 | [],_=>⟨[],rfl⟩
 | r::els,h=>by
  obtain⟨l,hl⟩:=zlh els fun r hr=>h r (List.mem_cons_of_mem _ hr)
  obtain⟨x,hx⟩:=zhl (h r List.mem_cons_self)
  refine⟨x::l,?_⟩
  simp only[wkL,hx,hl]
  rfl
theorem zcr{cs:List AV}(h:Ok (.sl tyF) cs):∃l:List Fz,wkR cs=[.sl (rowF l) .an]:=by
 obtain⟨els,f,rfl,_,_,he⟩:=h
 obtain⟨l,hl⟩:=zlh els he
 exact⟨l,by simp[wkR,wkA,hl]⟩
theorem zli:∀(els:List (List AV)),(∀r∈els,Ok (.sl tyF) r)→∃m:List (List Fz),wkL els=matF m
 | [],_=>⟨[],rfl⟩
 | r::els,h=>by
  obtain⟨m,hm⟩:=zli els fun r hr=>h r (List.mem_cons_of_mem _ hr)
  obtain⟨l,hl⟩:=zcr (h r List.mem_cons_self)
  refine⟨l::m,?_⟩
  simp only[wkL,hl,hm]
  rfl
theorem zpv{P:Program}{ν:Nat→FuncId}{l l':List (Nat×AFx)}(hT:TOk P ν fun u=>l'.lookup u)(hp:Part l l')(hm:P.follows .mixedOrders=true){u:Nat}{af:AFx}{xs ys:List AV}{r:AV}
  (hu:l'.lookup u=some af) (hl:af.lent=none) (h:callF (fun u=>l.lookup u) u ys=some r) (hx:xs.map wkA=ys):PCall P (ν u) xs (·=r):=
 zv1 hT hm hu hl (hp.call (by rw[hu];rfl) h) hx
end Go.Ab
section
namespace Go.Proofs.YtjeddlbpajjjmaaGreatDoor
open Go Go.Ab Go.RowKit
def signS:ByteArray:=⟨#[43,45,42,47,94,40,41,91,93,44,59,61]⟩
theorem signS_lt:∀(p:Nat) (h:p<signS.size),(signS[p]'h).toNat<128:=by decide
theorem sign_at(c:Nat)(hc:c<256):signB.contains (UInt8.ofNat c)=decide (∃p,∃h:p<signS.size,(signS[p]'h).toNat=c):=by
 rw[Bool.eq_iff_iff,decide_eq_true_iff]
 have:∀c,c<256→(signB.contains (UInt8.ofNat c)=true↔∃p,∃h:p<signS.size,(signS[p]'h).toNat=c):=by decide +kernel
 exact this c hc
set_option maxHeartbeats 1000000 in
set_option maxRecDepth 100000 in
theorem sign_calls(c:Nat)(hc:c<256)(w:World):Calls Tryz.prog 223 #[.int .u8 (c:Int)] w fun e w'=>e=.returned (.bool (signB.contains (UInt8.ofNat c)))∧Below w.heap.size w w':=by
 rw[sign_at c hc]
 go_enter Tryz.func223,Tryz.ntmps223
 go_wp2
 go_loopw [] (fun wr=>∃pos:Nat,wr.heap[w.heap.size]? = some (.stringIter signS pos)∧Below w.heap.size w wr∧∀j,j<pos→∀h:j<signS.size,(signS[j]'h).toNat≠c) (fun wr=>signS.size-wr.iterPos w.heap.size)
 case atStart=>
  refine⟨0,World.iter_heap w signS 0,?_,fun j hj=>absurd hj (Nat.not_lt_zero _)⟩
  exact(Below.refl _ w).alloc (Nat.le_refl _) _
 case round=>
  obtain⟨pos,hit,hbw,hne⟩:=hrel
  by_cases hp:pos<signS.size
  ·have hnx:∀ty,(Instr.next (.pointer (some ⟨w.heap.size,0,none⟩)) true ty).run Tryz.prog wr=_:=fun ty=>Lib.run_next_ascii_at wr w.heap.size signS pos ty hit hp (signS_lt pos hp)
   have hit2:=Lib.iterAt_heap wr w.heap.size signS pos (pos+1) hit
   have hbw2:=Lib.below_iterAt hbw (k:=w.heap.size) (Nat.le_refl _) signS (pos+1)
   obtain⟨x,hx⟩:∃x:Nat,(signS[pos]'hp).toNat=x:=⟨_,rfl⟩
   have hx1:=signS_lt pos hp
   rw[hx]at hnx hx1
   have hwr:IntKind.u8.wrap (x:Int)=(x:Int):=by rw[IntKind.wrap_u8];omega
   by_cases hxc:x=c
   ·subst hxc
    go_wp2
    go_ret
    exact⟨by rw[decide_eq_true ⟨pos,hp,hx⟩];rfl,hbw2⟩
   ·have hxc':¬ (x:Int)=(c:Int):=by omega
    go_wp2
    go_roundw
    case rel=>
     refine⟨pos+1,hit2,hbw2,fun j hj h=>?_⟩
     rcases Nat.lt_or_ge j pos with h1 | h1
     ·exact hne j h1 h
     ·obtain rfl:j=pos:=by omega
      rw[hx]
      exact hxc
    case measure=>
     simp only[World.iterPos,hit2,hit]
     omega
  ·have hnx:∀ty,(Instr.next (.pointer (some ⟨w.heap.size,0,none⟩)) true ty).run Tryz.prog wr=_:=fun ty=>Lib.run_next_end_at wr w.heap.size signS pos ty hit hp
   go_wp2
   go_ret
   have hno:¬ ∃p,∃h:p<signS.size,(signS[p]'h).toNat=c:=by
    rintro⟨p,h,hpc⟩
    exact hne p (by omega) h hpc
   exact⟨by rw[decide_eq_false hno];rfl,hbw⟩
theorem sign_ok:∀xs r,prim187 xs=some r→PCall Tryz.prog (nu 187) xs (·=r):=by
 have e:nu 187=223:=by kernel_rfl
 rw[e]
 intro xs r h
 unfold prim187 at h
 split at h
 ·rename_i n
  split at h
  ·rename_i hn
   cases h
   refine⟨enters_of Tryz.func223 (by kernel_rfl) rfl,fun w S cargs hsz hC hS=>?_⟩
   obtain⟨v0,rfl⟩:=one_arg hsz
   have c0:v0=.int .u8 n:=by
    have:=hC 0 _ _ rfl rfl
    cases this
    rfl
   subst c0
   obtain⟨c,rfl⟩:∃c:Nat,n=c:=⟨n.toNat,by omega⟩
   refine(sign_calls c (by omega) w).mono ?_
   rintro e w' ⟨rfl,hb⟩
   refine⟨_,_,rfl,?_,hb,.b _⟩
   rw[Int.toNat_natCast]
   rfl
  ·cases h
 ·cases h
abbrev tyW:Ty:=.cons (.int .i64) (.cons .str (.cons (.int .i64) .nil))
end Go.Proofs.YtjeddlbpajjjmaaGreatDoor
end
section
namespace Go.Ab
end Go.Ab
end
namespace Go.Ab
section
variable{T:Tbl}
theorem zh9(G:Nat):∀y:Nat×Nat,(y.1<18446744073709551616∧y.2<18446744073709551616∧Nat.gcd y.1 y.2=G) →
  loopN T 0 0 (.norm false [0]) l198_0 ⟨[(0,u64 y.1),(1,u64 y.2)],[],2⟩=some (.n,⟨[(0,u64 G)],[],2⟩):=by
 refine za8 (fun y:Nat×Nat=>⟨[(0,u64 y.1),(1,u64 y.2)],[],2⟩) _ (fun y=>y.2) _ ?_
 rintro⟨x,y⟩ ⟨hx,hy,hG⟩
 simp only at hx hy hG ⊢
 by_cases h:y=0
 ·right
  subst h
  rw[Nat.gcd_zero_right]at hG
  subst hG
  constructor<;>simp -implicitDefEqProofs[l198_0]
 ·left
  have hm:=Nat.mod_lt x (Nat.pos_of_ne_zero h)
  refine⟨(y,x%y),⟨hy,by simp only;omega,by simp only;rw[←hG,Nat.gcd_comm y,←Nat.gcd_rec,Nat.gcd_comm]⟩,hm,?_,trivial⟩
  simp -implicitDefEqProofs[l198_0,h]
end
section
variable{T:Tbl}[CCommon T]
theorem zlj(x y:Nat)(hx:x<18446744073709551616)(hy:y<18446744073709551616):callF T 198 [u64 x,u64 y]=some (u64 (Nat.gcd x y)):=by
 have h:=zh9 (T:=T) (Nat.gcd x y) (x,y) ⟨hx,hy,rfl⟩
 simp only at h
 rw[f198 _ rfl,b198]
 simp -implicitDefEqProofs[h]
theorem zpw(a:List UInt32):callF T 200 [.sl (u32s (ofN (val a))) .an]=some (.b (decide (val a=1))):=by
 rw[f200 _ rfl,b200]
 generalize val a=n
 by_cases h0:n=0
 ·subst h0
  simp -implicitDefEqProofs
 ·rw[zhz h0]
  by_cases h1:n/4294967296=0
  ·have e:ofN (n/4294967296)=[]:=zbb.2 h1
   have e2:n%4294967296=n:=Nat.mod_eq_of_lt (by omega)
   simp -implicitDefEqProofs[e,u32s,zdr,e2]
  ·have h2:¬ ofN (n/4294967296)=[]:=fun e=>h1 (zbb.1 e)
   have h3:¬ n=1:=by rintro rfl;simp at h1
   have h4:¬ ((ofN (n/4294967296)).length:Int)+1=1:=by
    have:=List.length_pos_iff.2 h2
    omega
   simp -implicitDefEqProofs[u32s,h3,h4]
end
section
variable{T:Tbl}[CNat T][CProd T][CTwos T][CQuot T][CQuotD T][CCommon T]
theorem zv7(G:Nat):∀y:List UInt32×List UInt32,(y.1.length≤90000∧y.2.length≤90000∧(∃n,y.1=ofN n)∧(∃n,y.2=ofN n)∧Nat.gcd (val y.1) (val y.2)=G) →
  ∃r,(∃a b:List UInt32,r=(Ex.n,(⟨[(0,.sl (u32s a) .an),(1,.sl (u32s b) .an)],[],2⟩:St))∧a.length≤90000∧b.length≤2∧(∃n,a=ofN n)∧(∃n,b=ofN n)∧Nat.gcd (val a) (val b)=G) ∧
   loopN T 0 0 (.norm false [0,1]) l199_0 ⟨[(0,.sl (u32s y.1) .an),(1,.sl (u32s y.2) .an)],[],2⟩=some r:=by
 refine zbj (fun y:List UInt32×List UInt32=>⟨[(0,.sl (u32s y.1) .an),(1,.sl (u32s y.2) .an)],[],2⟩) _ (fun y=>val y.2) _ ?_
 rintro⟨a,b⟩ ⟨ha,hb,hk,hn,hG⟩
 simp only at ha hb hk hn hG ⊢
 by_cases h:2<b.length
 ·left
  have h':(2:Int)<b.length:=by omega
  have hv:val b≠0:=by
   obtain⟨n,rfl⟩:=hn
   rw[zaf]
   rintro rfl
   simp at h
  have hd:=zfl (T:=T) a b ha hb
  rw[if_neg hv]at hd
  have hm:=Nat.mod_lt (val a) (Nat.pos_of_ne_zero hv)
  refine⟨(b,ofN (val a%val b)),⟨hb,?_,hn,⟨_,rfl⟩,?_⟩,?_,?_⟩
  ·have:=zbc (Nat.le_of_lt hm)
   have:=zad b
   simp only;omega
  ·simp only
   rw[zaf,←hG,Nat.gcd_comm (val b),←Nat.gcd_rec,Nat.gcd_comm]
  ·simp only[zaf]
   exact hm
  ·clear hG hm hn hv hk
   simp -implicitDefEqProofs[l199_0,h',hd]
 ·right
  have h':¬ (2:Int)<b.length:=by omega
  refine⟨_,⟨a,b,rfl,ha,by omega,hk,hn,hG⟩,?_,?_⟩<;>clear hG<;>simp -implicitDefEqProofs[l199_0,h']
theorem zm9(a b:List UInt32)(ha:a.length≤90000)(hb:b.length≤90000):callF T 199 [.sl (u32s a) .an,.sl (u32s b) .an]=some (.sl (u32s (ofN (Nat.gcd (val a) (val b)))) .an):=by
 have h1:=zbn (T:=T) a (by omega)
 have h2:=zbn (T:=T) b (by omega)
 have la:=zad a
 have lb:=zad b
 obtain⟨G,hG⟩:∃G,G=Nat.gcd (val a) (val b):=⟨_,rfl⟩
 obtain⟨_,⟨x,y,rfl,hx,hy,⟨m,rfl⟩,⟨n,rfl⟩,hg⟩,hr⟩:=zv7 (T:=T) G (ofN (val a),ofN (val b)) ⟨by simp only;omega,by simp only;omega,⟨_,rfl⟩,⟨_,rfl⟩,by simp only[zaf];exact hG.symm⟩
 simp only at hr
 rw[zaf,zaf]at hg
 rw[f199 _ rfl,b199,←hG]
 clear hG
 by_cases h0:n=0
 ·subst h0
  rw[Nat.gcd_zero_right]at hg
  subst hg
  simp -implicitDefEqProofs[h1,h2,hr]
 ·have hv:val (ofN n)≠0:=by rw[zaf];exact h0
  have hd:=zfl (T:=T) (ofN m) (ofN n) hx (by omega)
  rw[if_neg hv,zaf,zaf]at hd
  have hn64:n<18446744073709551616:=by
   have:=za5 (ofN n)
   rw[zaf]at this
   exact Nat.lt_of_lt_of_le this (Nat.pow_le_pow_right (by decide) hy)
  have hm:=Nat.mod_lt m (Nat.pos_of_ne_zero h0)
  have s1:=zls (T:=T) (ofN n) (by omega)
  rw[zaf,if_pos hn64]at s1
  have s2:=zls (T:=T) (ofN (m%n)) (by have:=zbc (Nat.le_of_lt hm);omega)
  rw[zaf,if_pos (by omega)]at s2
  have s3:=zlj (T:=T) n (m%n) hn64 (by omega)
  have e:Nat.gcd n (m%n)=G:=by rw[←hg,Nat.gcd_comm n,←Nat.gcd_rec,Nat.gcd_comm]
  rw[e]at s3
  have s4:=zgg (T:=T) G (by
   rw[←hg]
   exact Nat.lt_of_le_of_lt (Nat.gcd_le_right _ (Nat.pos_of_ne_zero h0)) hn64)
  have hl:¬ ofN n=[]:=fun e=>h0 (zbb.1 e)
  simp -implicitDefEqProofs[h1,h2,hr,hd,s1,s2,s3,s4,hl,h0]
theorem zia(a b:List UInt32)(ha:a.length≤90000)(hb:b.length≤90000):callF T 201 [.sl (u32s a) .an,.sl (u32s b) .an] =
  some (.tup [.sl (u32s (ofN (val a/Nat.gcd (val a) (val b)))) .an,.sl (u32s (ofN (val b/Nat.gcd (val a) (val b)))) .an]):=by
 have hg:=zm9 (T:=T) a b ha hb
 have ho:=zpw (T:=T) (ofN (Nat.gcd (val a) (val b)))
 rw[zaf]at ho
 have ll:(ofN (Nat.gcd (val a) (val b))).length≤90000:=by
  by_cases h:val a=0
  ·rw[h,Nat.gcd_zero_left]
   have:=zad b
   omega
  ·have:=zbc (Nat.gcd_le_left (val b) (Nat.pos_of_ne_zero h))
   have:=zad a
   omega
 have d1:=zfl (T:=T) a (ofN (Nat.gcd (val a) (val b))) ha ll
 have d2:=zfl (T:=T) b (ofN (Nat.gcd (val a) (val b))) hb ll
 have n1:=zbn (T:=T) a (by omega)
 have n2:=zbn (T:=T) b (by omega)
 rw[zaf]at d1 d2
 rw[f201 _ rfl,b201]
 by_cases h0:Nat.gcd (val a) (val b)=0
 ·rw[h0]at hg ⊢
  simp only[zka]at hg
  simp -implicitDefEqProofs[hg]
 ·rw[if_neg h0]at d1 d2
  have hl:¬ ofN (Nat.gcd (val a) (val b))=[]:=fun e=>h0 (zbb.1 e)
  by_cases h1:Nat.gcd (val a) (val b)=1
  ·rw[h1]at hg ho hl ⊢
   simp -implicitDefEqProofs[hg,ho,n1,n2,hl]
  ·generalize Nat.gcd (val a) (val b)=g at *
   simp -implicitDefEqProofs[hg,ho,d1,d2,hl,h0,h1]
end
section
variable{T:Tbl}[CWhole T]
theorem za7(n:Bool)(k:Nat):callF T 55 [.b n,.sl (u32s (ofN k)) .an]=some (ez (sg n k)):=by
 rw[f55 _ rfl,b55,zxn]
 have h:(0<(ofN k).length)=(k≠0):=by
  rw[eq_iff_iff,List.length_pos_iff]
  exact not_congr zbb
 cases n<;>simp -implicitDefEqProofs[h]
end
section
variable{T:Tbl}[CNat T][CWhole T]
theorem zf7(n:Bool)(a:List UInt32)(ha:a.length≤1000000):callF T 38 [wh n a]=some (ez (wv n a)):=by
 have h:=zbn (T:=T) a (by omega)
 have hs:=za7 (T:=T) n (val a)
 rw[f38 _ rfl,b38]
 simp -implicitDefEqProofs[h,hs,wv]
end
section
variable{T:Tbl}[CNat T][CWhole T]
theorem zmc(n:Bool)(a:List UInt32)(ha:a.length≤1000000):callF T 40 [wh n a]=some (ez (-wv n a)):=by
 have h:=zbn (T:=T) a (by omega)
 have hs:=za7 (T:=T) (!n) (val a)
 rw[z59]at hs
 rw[f40 _ rfl,b40]
 simp -implicitDefEqProofs[h,hs,wv]
end
section
variable{T:Tbl}[CNat T][CWhole T]
theorem zi5(n m:Bool)(a b:List UInt32)(ha:a.length≤90000)(hb:b.length≤90000):callF T 23 [wh n a,wh m b]=some (ez (wv n a+wv m b)):=by
 rw[f23 _ rfl,b23]
 by_cases h:n=m
 ·subst h
  have hn:=zww (T:=T) [a,b] (by simp) (by simp;omega)
  have hs:=za7 (T:=T) n (val a+val b)
  rw[zno]at hs
  have e:lls [a,b]=[[.sl (u32s a) .an],[.sl (u32s b) .an]]:=rfl
  have e2:sumL [a,b]=val a+val b:=by simp[sumL]
  rw[e,e2]at hn
  simp -implicitDefEqProofs[hn,hs,wv]
 ·have hg:=z0d (T:=T) a b (by omega) (by omega)
  by_cases hlt:val a<val b
  ·have hs:=za7 (T:=T) m (val b-val a)
   rw[zu2 h hlt]at hs
   simp -implicitDefEqProofs[h,hg,hlt,zdo,hs,wv]
  ·have hs:=za7 (T:=T) n (val a-val b)
   rw[zu3 h hlt]at hs
   simp -implicitDefEqProofs[h,hg,hlt,zdo,hs,wv]
end
section
variable{T:Tbl}[CNat T][CWhole T]
theorem zi6(n m:Bool)(a b:List UInt32)(ha:a.length≤90000)(hb:b.length≤90000):callF T 25 [wh n a,wh m b]=some (ez (wv n a-wv m b)):=by
 obtain⟨z,hz⟩:∃z,z=-wv m b:=⟨_,rfl⟩
 have h1:=zmc (T:=T) m b (by omega)
 have hl:=zbv m b
 rw[←zh1,←hz]at hl
 have h2:=zi5 (T:=T) n (decide (z<0)) a (ofN z.natAbs) (by omega) (by omega)
 have e:wv n a-wv m b=wv n a+z:=by omega
 rw[zfo,←e]at h2
 rw[←hz]at h1
 rw[f25 _ rfl,b25]
 simp -implicitDefEqProofs[h1,h2]
end
section
variable{T:Tbl}[CProd T][CWhole T]
theorem zmd(n m:Bool)(a b:List UInt32)(ha:a.length≤100000)(hb:b.length≤100000):callF T 27 [wh n a,wh m b]=some (ez (wv n a*wv m b)):=by
 have h1:=zed (T:=T) a b ha hb
 have hs:=za7 (T:=T) (n != m) (val a*val b)
 rw[zu4]at hs
 rw[f27 _ rfl,b27]
 simp -implicitDefEqProofs[h1,hs,wv]
end
section
variable{T:Tbl}[CNat T][CWhole T]
theorem zef(n:Bool)(a:List UInt32)(ha:a.length≤1000000):callF T 37 [wh n a]=some (.i .i64 (sgI (wv n a))):=by
 have h1:=zfk (T:=T) a (by omega)
 rw[f37 _ rfl,b37]
 unfold wv
 rw[zyj]
 by_cases h:val a=0
 ·simp -implicitDefEqProofs[h1,h]
 ·cases n<;>simp -implicitDefEqProofs[h1,h]
end
section
variable{T:Tbl}[CNat T][CWhole T]
theorem zq5(n m:Bool)(a b:List UInt32)(ha:a.length≤90000)(hb:b.length≤90000):callF T 36 [wh n a,wh m b]=some (.i .i64 (sgI (wv n a-wv m b))):=by
 have h1:=zi6 (T:=T) n m a b ha hb
 have hl:=zdu (x:=wv n a) (y:=-wv m b) (L:=90000) (by have:=zbv n a;omega) (by rw[zh1];have:=zbv m b;omega)
 rw[←Int.sub_eq_add_neg]at hl
 have h2:=zef (T:=T) (decide (wv n a-wv m b<0)) (ofN (wv n a-wv m b).natAbs) (show (ofN (wv n a-wv m b).natAbs).length≤1000000 by omega)
 rw[zfo]at h2
 rw[f36 _ rfl,b36]
 simp -implicitDefEqProofs[h1,h2]
end
section
variable{T:Tbl}[CNat T][CWhole T]
theorem zxi(k:Int)(h1:-9223372036854775808≤k)(h2:k<9223372036854775808):callF T 41 [.i .i64 k]=some (ez k):=by
 rw[f41 _ rfl,b41]
 by_cases h:k<0
 ·have hn:=zgg (T:=T) k.natAbs (by omega)
  have hs:=za7 (T:=T) true k.natAbs
  have e:sg true k.natAbs=k:=by simp[sg];omega
  have e2:sub64 0 (k%18446744073709551616).toNat=k.natAbs:=by unfold sub64;omega
  rw[e]at hs
  simp -implicitDefEqProofs[h,e2,hn,hs]
 ·have hn:=zgg (T:=T) k.natAbs (by omega)
  have hs:=za7 (T:=T) false k.natAbs
  have e:sg false k.natAbs=k:=by simp[sg];omega
  have e2:(k%18446744073709551616).toNat=k.natAbs:=by omega
  rw[e]at hs
  simp -implicitDefEqProofs[h,e2,hn,hs]
end
section
variable{T:Tbl}[CNat T][CText T][CWhole T]
theorem zq6(n:Bool)(a:List UInt32)(ha:a.length≤1000):callF T 34 [wh n a]=some (.s (textZ (wv n a))):=by
 have h1:callF T 68 [.sl (u32s a) .an]=some (.s (textN (val a))):=by rw[p68,zmf a ha]
 have h2:=zef (T:=T) n a (by omega)
 have h3:=zey ha
 have h4:1+(textN (val a)).length≤9223372036854775807:=by omega
 rw[f34 _ rfl,b34]
 unfold textZ
 rw[zyi]
 by_cases h:wv n a<0
 ·have h5:sgI (wv n a)=-1:=by unfold sgI;rw[if_pos h]
  simp -implicitDefEqProofs[h1,h2,h,h5,h4]
 ·have h5:¬ sgI (wv n a)<0:=by unfold sgI;rw[if_neg h];split<;>omega
  simp -implicitDefEqProofs[h1,h2,h,h5]
end
section
variable{T:Tbl}[CNat T][CProd T][CTwos T][CQuot T][CQuotD T][CWhole T][CCommon T][CFrac T]
theorem znb(p q:Int)(hp:(ofN p.natAbs).length≤90000)(hq:(ofN q.natAbs).length≤90000):callF T 23 [ez p,ez q]=some (ez (p+q)):=by
 have:=zi5 (T:=T) (decide (p<0)) (decide (q<0)) _ _ hp hq
 rwa [zfo,zfo]at this
theorem znc(p q:Int)(hp:(ofN p.natAbs).length≤90000)(hq:(ofN q.natAbs).length≤90000):callF T 25 [ez p,ez q]=some (ez (p-q)):=by
 have:=zi6 (T:=T) (decide (p<0)) (decide (q<0)) _ _ hp hq
 rwa [zfo,zfo]at this
theorem znd(p q:Int)(hp:(ofN p.natAbs).length≤90000)(hq:(ofN q.natAbs).length≤90000):callF T 36 [ez p,ez q]=some (.i .i64 (sgI (p-q))):=by
 have:=zq5 (T:=T) (decide (p<0)) (decide (q<0)) _ _ hp hq
 rwa [zfo,zfo]at this
theorem zpx(p:Int)(hp:(ofN p.natAbs).length≤1000000):callF T 40 [ez p]=some (ez (-p)):=by
 have:=zmc (T:=T) (decide (p<0)) _ hp
 rwa [zfo]at this
theorem zpy{x d:Nat}(h:d≠0):decide (x/Nat.gcd x d≠0)=decide (x≠0):=by
 have hg:0<Nat.gcd x d:=Nat.gcd_pos_of_pos_right _ (Nat.pos_of_ne_zero h)
 obtain⟨k,hk⟩:=Nat.gcd_dvd_left x d
 generalize Nat.gcd x d=g at *
 subst hk
 rw[Nat.mul_div_cancel_left _ hg,decide_eq_decide]
 have:g≠0:=by omega
 exact⟨fun h1 h2=>h1 ((Nat.mul_eq_zero.1 h2).resolve_left this),fun h1 h2=>h1 (by rw[h2,Nat.mul_zero])⟩
theorem zcb(n:Bool)(a d:List UInt32)(ha:a.length≤90000)(hd:d.length≤90000)(h:val d≠0) :
  callF T 202 [wh n a,.sl (u32s d) .an]=some (efz (fz (mkRat (wv n a) (val d)))):=by
 have e:=zad9 n (val a) h
 change fz (mkRat (wv n a) (val d))=_ at e
 have hc:=zia (T:=T) a d ha hd
 have hl:(ofN (val a/Nat.gcd (val a) (val d))).length≤1000000:=by
  have:=zbc (Nat.div_le_self (val a) (Nat.gcd (val a) (val d)))
  have:=zad a
  omega
 have hn:=zf7 (T:=T) n _ hl
 have e2:wv n (ofN (val a/Nat.gcd (val a) (val d)))=sg n (val a/Nat.gcd (val a) (val d)):=by unfold wv;rw[zaf]
 rw[e2,zxn,zpy h]at hn
 rw[e,f202 _ rfl,b202]
 generalize ofN (val a/Nat.gcd (val a) (val d))=A at *
 generalize ofN (val d/Nat.gcd (val a) (val d))=D at *
 clear e e2
 simp -implicitDefEqProofs[hc,hn]
theorem za3(x:Fz)(hx:fsz x≤100000):∃y:Fz,val y.2.2≠0∧fv y=fv x∧fsz y≤max 1 (fsz x)∧callF T 203 [efz x]=some (.tup [wh y.1 y.2.1,.sl (u32s y.2.2) .an]):=by
 obtain⟨n,a,d⟩:=x
 have h1:=zeh (n,a,d)
 have h2:=zez (n,a,d)
 simp only at h1 h2
 have hz:=zfk (T:=T) d (by omega)
 by_cases h:val d=0
 ·refine⟨(false,[],[1]),by simp,?_,?_,?_⟩
  ·unfold fv
   simp only[h,Rat.mkRat_zero]
   rfl
  ·show 1≤_
   omega
  ·have ho:=zgg (T:=T) 1 (by decide)
   rw[zdv]at ho
   rw[f203 _ rfl,b203]
   simp -implicitDefEqProofs[hz,h,ho]
 ·refine⟨(n,a,d),h,rfl,by omega,?_⟩
  rw[f203 _ rfl,b203]
  simp -implicitDefEqProofs[hz,h]
theorem zcz(k:Int)(h1:-9223372036854775808≤k)(h2:k<9223372036854775808):callF T 205 [.i .i64 k]=some (efz (fz (k:Rat))):=by
 have hw:=zxi (T:=T) k h1 h2
 have ho:=zgg (T:=T) 1 (by decide)
 have e:fz (k:Rat)=(decide (k<0),ofN k.natAbs,ofN 1):=rfl
 rw[e,f205 _ rfl,b205]
 simp -implicitDefEqProofs[hw,ho]
theorem zgp:callF T 205 [.i .i64 0]=some (efz (fz 0)):=zcz 0 (by decide) (by decide)
theorem zju:callF T 205 [.i .i64 1]=some (efz (fz 1)):=zcz 1 (by decide) (by decide)
theorem zis(x:Fz)(hx:fsz x≤90000):callF T 207 [efz x]=some (efz (fz (fv x))):=by
 obtain⟨⟨n,a,d⟩,h1,h2,h3,hp⟩:=za3 (T:=T) x (by omega)
 simp only at h1 hp
 have la:=zeh (n,a,d)
 have ld:=zez (n,a,d)
 simp only at la ld
 have hc:=zcb (T:=T) n a d (by omega) (by omega) h1
 rw[←h2]
 change _=some (efz (fz (mkRat (wv n a) (val d))))
 rw[f207 _ rfl,b207]
 generalize fz (mkRat (wv n a) (val d))=R at *
 clear h1 h2 h3
 simp -implicitDefEqProofs[hp,hc]
theorem zcc(x:Fz)(hx:fsz x≤10000):callF T 207 [efz x]=some (efz (fz (fv x))):=zis (T:=T) x (Nat.le_trans hx (by decide))
theorem zpz(x:Fz)(hx:fsz x≤90000):callF T 209 [efz x]=some (.i .i64 (sgQ (fv x))):=by
 obtain⟨⟨n,a,d⟩,h1,h2,h3,hp⟩:=za3 (T:=T) x (by omega)
 simp only at h1 hp
 have la:=zeh (n,a,d)
 simp only at la
 have hc:=zef (T:=T) n a (by omega)
 rw[←h2]
 unfold fv
 rw[zyp h1,f209 _ rfl,b209]
 clear h1 h2 h3
 simp -implicitDefEqProofs[hp,hc]
theorem zc7(x:Fz)(hx:fsz x≤10000):callF T 209 [efz x]=some (.i .i64 (sgQ (fv x))):=zpz (T:=T) x (Nat.le_trans hx (by decide))
theorem zbr(n:Bool)(a d:List UInt32)(ha:a.length≤90000)(hd:d.length≤90000):callF T 210 [wh n a,.sl (u32s d) .an]=some (ez (wv n a*(val d:Int))):=by
 have hm:=zmd (T:=T) n false a d (by omega) (by omega)
 rw[show wv false d=(val d:Int) from rfl]at hm
 generalize wv n a*(val d:Int)=z at *
 rw[f210 _ rfl,b210]
 simp -implicitDefEqProofs[hm]
theorem zlk(x x':Fz)(hx:fsz x≤30000)(hx':fsz x'≤30000):callF T 211 [efz x,efz x']=some (.i .i64 (sgQ (fv x-fv x'))):=by
 obtain⟨⟨n,a,d⟩,h1,h2,h3,hp⟩:=za3 (T:=T) x (by omega)
 obtain⟨⟨m,b,e⟩,h1',h2',h3',hp'⟩:=za3 (T:=T) x' (by omega)
 simp only at h1 hp h1' hp'
 have la:=zeh (n,a,d)
 have ld:=zez (n,a,d)
 have lb:=zeh (m,b,e)
 have le:=zez (m,b,e)
 simp only at la ld lb le
 have c1:=zbr (T:=T) n a e (by omega) (by omega)
 have c2:=zbr (T:=T) m b d (by omega) (by omega)
 have l1:(ofN (wv n a*(val e:Int)).natAbs).length≤60000:=by
  have:=zaz (x:=wv n a) (y:=(val e:Int)) (L:=30000) (M:=30000) (Nat.le_trans (zbv n a) (by omega)) (Nat.le_trans (zbv false e) (by omega))
  omega
 have l2:(ofN (wv m b*(val d:Int)).natAbs).length≤60000:=by
  have:=zaz (x:=wv m b) (y:=(val d:Int)) (L:=30000) (M:=30000) (Nat.le_trans (zbv m b) (by omega)) (Nat.le_trans (zbv false d) (by omega))
  omega
 have e1:sgQ (fv x-fv x')=sgI (wv n a*(val e:Int)-wv m b*(val d:Int)):=by
  rw[←h2,←h2',Rat.sub_eq_add_neg]
  unfold fv
  rw[Rat.neg_mkRat,Rat.mkRat_add_mkRat _ _ h1 h1',zyp (Nat.mul_ne_zero h1 h1'),Int.neg_mul]
  rfl
 generalize wv n a*(val e:Int)=z1 at *
 generalize wv m b*(val d:Int)=z2 at *
 have c3:=znd (T:=T) z1 z2 (by omega) (by omega)
 rw[e1,f211 _ rfl,b211]
 clear h1 h2 h3 h1' h2' h3' e1
 simp -implicitDefEqProofs[hp,hp',c1,c2,c3]
theorem zjv(x x':Fz)(hx:fsz x≤1000)(hx':fsz x'≤1000):callF T 211 [efz x,efz x']=some (.i .i64 (sgQ (fv x-fv x'))):=zlk (T:=T) x x' (Nat.le_trans hx (by decide)) (Nat.le_trans hx' (by decide))
theorem zp0(x x':Fz)(hx:fsz x≤30000)(hx':fsz x'≤30000):callF T 212 [efz x,efz x']=some (.b (decide (fv x=fv x'))):=by
 have hc:=zlk (T:=T) x x' hx hx'
 have e:(sgQ (fv x-fv x') == 0)=decide (fv x=fv x'):=by
  rw[Bool.eq_iff_iff]
  simp only[beq_iff_eq,decide_eq_true_eq,zfr]
  constructor
  ·intro h
   have:=Rat.sub_add_cancel (a:=fv x) (b:=fv x')
   rw[h,Rat.zero_add]at this
   exact this.symm
  ·intro h
   rw[h,Rat.sub_self]
 rw[f212 _ rfl,b212]
 simp -implicitDefEqProofs[hc,e]
theorem zcs(x x':Fz)(hx:fsz x≤1000)(hx':fsz x'≤1000):callF T 212 [efz x,efz x']=some (.b (decide (fv x=fv x'))):=zp0 (T:=T) x x' (Nat.le_trans hx (by decide)) (Nat.le_trans hx' (by decide))
theorem zs6(x:Fz)(hx:fsz x≤90000):callF T 213 [efz x]=some (efz (fz (-fv x))):=by
 have h1:=zis (T:=T) x hx
 have hl:(ofN (fv x).num.natAbs).length≤1000000:=by
  have:=zbs (x:=x) (L:=90000) hx (by decide)
  have:=zfp (fv x)
  omega
 have h2:callF T 40 [.agg [.b (decide ((fv x).num<0)),.sl (u32s (ofN (fv x).num.natAbs)) .an]]=some (.agg [.b (decide (-(fv x).num<0)),.sl (u32s (ofN (-(fv x).num).natAbs)) .an]):=zpx (T:=T) (fv x).num hl
 generalize fv x=q at *
 have e:fz (-q)=(decide (-q.num<0),ofN (-q.num).natAbs,ofN q.den):=rfl
 have e':fz q=(decide (q.num<0),ofN q.num.natAbs,ofN q.den):=rfl
 rw[e,f213 _ rfl,b213]
 rw[e']at h1
 generalize ofN q.num.natAbs=A at *
 generalize ofN q.den=D at *
 simp -implicitDefEqProofs[h1,h2]
theorem zjw(x:Fz)(hx:fsz x≤10000):callF T 213 [efz x]=some (efz (fz (-fv x))):=zs6 (T:=T) x (Nat.le_trans hx (by decide))
theorem zs7(x x':Fz)(hx:fsz x≤30000)(hx':fsz x'≤30000):callF T 215 [efz x,efz x']=some (efz (fz (fv x+fv x'))):=by
 obtain⟨⟨n,a,d⟩,h1,h2,h3,hp⟩:=za3 (T:=T) x (by omega)
 obtain⟨⟨m,b,e⟩,h1',h2',h3',hp'⟩:=za3 (T:=T) x' (by omega)
 simp only at h1 hp h1' hp'
 have la:=zeh (n,a,d)
 have ld:=zez (n,a,d)
 have lb:=zeh (m,b,e)
 have le:=zez (m,b,e)
 simp only at la ld lb le
 have c1:=zbr (T:=T) n a e (by omega) (by omega)
 have c2:=zbr (T:=T) m b d (by omega) (by omega)
 have c4:=zed (T:=T) d e (by omega) (by omega)
 have l1:(ofN (wv n a*(val e:Int)).natAbs).length≤60000:=by
  have:=zaz (x:=wv n a) (y:=(val e:Int)) (L:=30000) (M:=30000) (Nat.le_trans (zbv n a) (by omega)) (Nat.le_trans (zbv false e) (by omega))
  omega
 have l2:(ofN (wv m b*(val d:Int)).natAbs).length≤60000:=by
  have:=zaz (x:=wv m b) (y:=(val d:Int)) (L:=30000) (M:=30000) (Nat.le_trans (zbv m b) (by omega)) (Nat.le_trans (zbv false d) (by omega))
  omega
 have l3:(ofN (val d*val e)).length≤60000:=by
  have:=zbt (x:=val d) (y:=val e) (L:=30000) (M:=30000) (Nat.le_trans (zad d) (by omega)) (Nat.le_trans (zad e) (by omega))
  omega
 have e1:fv x+fv x'=mkRat (wv n a*(val e:Int)+wv m b*(val d:Int)) (val d*val e):=by
  rw[←h2,←h2']
  exact Rat.mkRat_add_mkRat _ _ h1 h1'
 have hne:=Nat.mul_ne_zero h1 h1'
 generalize wv n a*(val e:Int)=z1 at *
 generalize wv m b*(val d:Int)=z2 at *
 generalize val d*val e=D at *
 have c3:=znb (T:=T) z1 z2 (by omega) (by omega)
 have c5:=zcb (T:=T) (decide (z1+z2<0)) (ofN (z1+z2).natAbs) (ofN D) (by have:=zdu l1 l2;omega) (by omega) (by rw[zaf];exact hne)
 rw[zfo,zaf,←e1]at c5
 generalize fv x+fv x'=q at *
 generalize z1+z2=z at *
 rw[f215 _ rfl,b215]
 clear h1 h2 h3 h1' h2' h3' e1 l1 l2 l3 hne
 simp -implicitDefEqProofs[hp,hp',c1,c2,c3,c4,c5]
theorem zff(x x':Fz)(hx:fsz x≤1000)(hx':fsz x'≤1000):callF T 215 [efz x,efz x']=some (efz (fz (fv x+fv x'))):=zs7 (T:=T) x x' (Nat.le_trans hx (by decide)) (Nat.le_trans hx' (by decide))
theorem zs8(x x':Fz)(hx:fsz x≤30000)(hx':fsz x'≤30000):callF T 216 [efz x,efz x']=some (efz (fz (fv x-fv x'))):=by
 obtain⟨⟨n,a,d⟩,h1,h2,h3,hp⟩:=za3 (T:=T) x (by omega)
 obtain⟨⟨m,b,e⟩,h1',h2',h3',hp'⟩:=za3 (T:=T) x' (by omega)
 simp only at h1 hp h1' hp'
 have la:=zeh (n,a,d)
 have ld:=zez (n,a,d)
 have lb:=zeh (m,b,e)
 have le:=zez (m,b,e)
 simp only at la ld lb le
 have c1:=zbr (T:=T) n a e (by omega) (by omega)
 have c2:=zbr (T:=T) m b d (by omega) (by omega)
 have c4:=zed (T:=T) d e (by omega) (by omega)
 have l1:(ofN (wv n a*(val e:Int)).natAbs).length≤60000:=by
  have:=zaz (x:=wv n a) (y:=(val e:Int)) (L:=30000) (M:=30000) (Nat.le_trans (zbv n a) (by omega)) (Nat.le_trans (zbv false e) (by omega))
  omega
 have l2:(ofN (wv m b*(val d:Int)).natAbs).length≤60000:=by
  have:=zaz (x:=wv m b) (y:=(val d:Int)) (L:=30000) (M:=30000) (Nat.le_trans (zbv m b) (by omega)) (Nat.le_trans (zbv false d) (by omega))
  omega
 have l3:(ofN (val d*val e)).length≤60000:=by
  have:=zbt (x:=val d) (y:=val e) (L:=30000) (M:=30000) (Nat.le_trans (zad d) (by omega)) (Nat.le_trans (zad e) (by omega))
  omega
 have e1:fv x-fv x'=mkRat (wv n a*(val e:Int)-wv m b*(val d:Int)) (val d*val e):=by
  rw[←h2,←h2',Rat.sub_eq_add_neg]
  unfold fv
  rw[Rat.neg_mkRat,Rat.mkRat_add_mkRat _ _ h1 h1',Int.neg_mul]
  rfl
 have hne:=Nat.mul_ne_zero h1 h1'
 generalize wv n a*(val e:Int)=z1 at *
 generalize wv m b*(val d:Int)=z2 at *
 generalize val d*val e=D at *
 have c3:=znc (T:=T) z1 z2 (by omega) (by omega)
 have c5:=zcb (T:=T) (decide (z1-z2<0)) (ofN (z1-z2).natAbs) (ofN D) (by
  have:=zdu (x:=z1) (y:=-z2) (L:=60000) l1 (by rw[Int.natAbs_neg];exact l2)
  rw[←Int.sub_eq_add_neg]at this
  omega) (by omega) (by rw[zaf];exact hne)
 rw[zfo,zaf,←e1]at c5
 generalize fv x-fv x'=q at *
 generalize z1-z2=z at *
 rw[f216 _ rfl,b216]
 clear h1 h2 h3 h1' h2' h3' e1 l1 l2 l3 hne
 simp -implicitDefEqProofs[hp,hp',c1,c2,c3,c4,c5]
theorem zjx(x x':Fz)(hx:fsz x≤1000)(hx':fsz x'≤1000):callF T 216 [efz x,efz x']=some (efz (fz (fv x-fv x'))):=zs8 (T:=T) x x' (Nat.le_trans hx (by decide)) (Nat.le_trans hx' (by decide))
theorem zs9(x x':Fz)(hx:fsz x≤30000)(hx':fsz x'≤30000):callF T 217 [efz x,efz x']=some (efz (fz (fv x*fv x'))):=by
 obtain⟨⟨n,a,d⟩,h1,h2,h3,hp⟩:=za3 (T:=T) x (by omega)
 obtain⟨⟨m,b,e⟩,h1',h2',h3',hp'⟩:=za3 (T:=T) x' (by omega)
 simp only at h1 hp h1' hp'
 have la:=zeh (n,a,d)
 have ld:=zez (n,a,d)
 have lb:=zeh (m,b,e)
 have le:=zez (m,b,e)
 simp only at la ld lb le
 have c3:=zmd (T:=T) n m a b (by omega) (by omega)
 have c4:=zed (T:=T) d e (by omega) (by omega)
 have l1:(ofN (wv n a*wv m b).natAbs).length≤60000:=by
  have:=zaz (x:=wv n a) (y:=wv m b) (L:=30000) (M:=30000) (Nat.le_trans (zbv n a) (by omega)) (Nat.le_trans (zbv m b) (by omega))
  omega
 have l3:(ofN (val d*val e)).length≤60000:=by
  have:=zbt (x:=val d) (y:=val e) (L:=30000) (M:=30000) (Nat.le_trans (zad d) (by omega)) (Nat.le_trans (zad e) (by omega))
  omega
 have e1:fv x*fv x'=mkRat (wv n a*wv m b) (val d*val e):=by
  rw[←h2,←h2']
  exact Rat.mkRat_mul_mkRat _ _ _ _
 have hne:=Nat.mul_ne_zero h1 h1'
 generalize wv n a*wv m b=z at *
 generalize val d*val e=D at *
 have c5:=zcb (T:=T) (decide (z<0)) (ofN z.natAbs) (ofN D) (by omega) (by omega) (by rw[zaf];exact hne)
 rw[zfo,zaf,←e1]at c5
 generalize fv x*fv x'=q at *
 rw[f217 _ rfl,b217]
 clear h1 h2 h3 h1' h2' h3' e1 l1 l3 hne
 simp -implicitDefEqProofs[hp,hp',c3,c4,c5]
theorem zfg(x x':Fz)(hx:fsz x≤1000)(hx':fsz x'≤1000):callF T 217 [efz x,efz x']=some (efz (fz (fv x*fv x'))):=zs9 (T:=T) x x' (Nat.le_trans hx (by decide)) (Nat.le_trans hx' (by decide))
theorem zz4{n m:Bool}{x y:Nat}{d e:Nat}(hy:y≠0) :
  mkRat (sg n x) d/mkRat (sg m y) e=mkRat (sg (decide (sg n x*(e:Int)<0) != m) (sg n x*(e:Int)).natAbs) (d*y):=by
 have h1:sg (decide (sg n x*(e:Int)<0) != m) (sg n x*(e:Int)).natAbs=sg n x*(e:Int)*sg m 1:=by
  have:=zu4 (decide (sg n x*(e:Int)<0)) m (sg n x*(e:Int)).natAbs 1
  rw[Nat.mul_one]at this
  rw[this]
  congr 1
  generalize sg n x*(e:Int)=z
  by_cases h:z<0
  ·simp only[h,decide_true,sg,if_true];omega
  ·simp only[h,decide_false,sg,Bool.false_eq_true,if_false];omega
 rw[h1,Rat.div_def,←Rat.divInt_ofNat,←Rat.divInt_ofNat,←Rat.divInt_ofNat,Rat.inv_divInt,Rat.divInt_mul_divInt]
 cases m
 ·simp only[sg,Bool.false_eq_true,if_false,Int.mul_one,Int.natCast_mul,Int.natCast_one]
 ·simp only[sg,if_true,Int.natCast_one,Int.mul_neg,Int.mul_one,Int.natCast_mul]
  rw[←Rat.neg_divInt_neg,Int.neg_neg]
theorem zta(x x':Fz)(hx:fsz x≤30000)(hx':fsz x'≤30000):callF T 218 [efz x,efz x']=some (.tup [efz (fz (fv x/fv x')),.b (decide (fv x'≠0))]):=by
 obtain⟨⟨n,a,d⟩,h1,h2,h3,hp⟩:=za3 (T:=T) x (by omega)
 obtain⟨⟨m,b,e⟩,h1',h2',h3',hp'⟩:=za3 (T:=T) x' (by omega)
 simp only at h1 hp h1' hp'
 have la:=zeh (n,a,d)
 have ld:=zez (n,a,d)
 have lb:=zeh (m,b,e)
 have le:=zez (m,b,e)
 simp only at la ld lb le
 have cs:=zef (T:=T) m b (by omega)
 rw[show wv m b=sg m (val b) from rfl,zyj]at cs
 by_cases hb:val b=0
 ·have e0:fv x'=0:=by
   rw[←h2']
   unfold fv
   rw[Rat.mkRat_eq_zero h1']
   show sg m (val b)=0
   rw[hb];cases m<;>rfl
  have ho:=zgp (T:=T)
  rw[if_pos hb]at cs
  rw[e0,Rat.div_def,Rat.inv_zero,Rat.mul_zero,f218 _ rfl,b218]
  clear h1 h2 h3 h1' h2' h3' e0
  generalize fz 0=R at *
  simp -implicitDefEqProofs[hp,hp',cs,ho]
 ·rw[if_neg hb]at cs
  have c1:=zbr (T:=T) n a e (by omega) (by omega)
  have c4:=zed (T:=T) d b (by omega) (by omega)
  have l1:(ofN (wv n a*(val e:Int)).natAbs).length≤60000:=by
   have:=zaz (x:=wv n a) (y:=(val e:Int)) (L:=30000) (M:=30000) (Nat.le_trans (zbv n a) (by omega)) (Nat.le_trans (zbv false e) (by omega))
   omega
  have l3:(ofN (val d*val b)).length≤60000:=by
   have:=zbt (x:=val d) (y:=val b) (L:=30000) (M:=30000) (Nat.le_trans (zad d) (by omega)) (Nat.le_trans (zad b) (by omega))
   omega
  have hne0:fv x'≠0:=by
   rw[←h2']
   unfold fv
   rw[Ne,Rat.mkRat_eq_zero h1']
   show ¬ sg m (val b)=0
   cases m<;>simp[sg,hb]
  have e1:fv x/fv x'=mkRat (sg (decide (wv n a*(val e:Int)<0) != m) (wv n a*(val e:Int)).natAbs) (val d*val b):=by
   rw[←h2,←h2']
   exact zz4 hb
  have hne:=Nat.mul_ne_zero h1 hb
  generalize wv n a*(val e:Int)=z at *
  generalize val d*val b=D at *
  have c5:=zcb (T:=T) (decide (z<0) != m) (ofN z.natAbs) (ofN D) (by omega) (by omega) (by rw[zaf];exact hne)
  rw[show wv (decide (z<0) != m) (ofN z.natAbs)=sg (decide (z<0) != m) z.natAbs by unfold wv;rw[zaf],zaf,←e1]at c5
  have hdec:decide (fv x'≠0)=true:=by simpa using hne0
  have hs:((if m=true then (-1:Int) else 1) == 0)=false:=by cases m<;>rfl
  rw[hdec]
  generalize fv x/fv x'=q at *
  rw[f218 _ rfl,b218]
  clear h1 h2 h3 h1' h2' h3' e1 l1 l3 hne hne0 hdec
  have hs2:¬ (if m=true then (-1:Int) else 1)=0:=by cases m<;>decide
  generalize (if m=true then (-1:Int) else 1)=sgn at *
  simp -implicitDefEqProofs[hp,hp',cs,c1,c4,c5,hs,hs2]
theorem zjy(x x':Fz)(hx:fsz x≤1000)(hx':fsz x'≤1000):callF T 218 [efz x,efz x']=some (.tup [efz (fz (fv x/fv x')),.b (decide (fv x'≠0))]):=zta (T:=T) x x' (Nat.le_trans hx (by decide)) (Nat.le_trans hx' (by decide))
end
def nrm(l:List Fz):List Fz:=l.map fun x=>fz (fv x)
def fzs(l:List Rat):List Fz:=l.map fz
theorem zda{m:List Fz}{n:Nat}(h:m.length=n)(x:Fz):wkL (rowF (List.take n m)++[celF x])=rowF (m++[x]):=by
 rw[List.take_of_length_le (by omega),zh5,zbi]
theorem zdp{α β:Type}(l:List α)(f:α→β){i:Nat}(h:i<l.length):(l.take (i+1)).map f=(l.take i).map f++[f (l[i]'h)]:=by
 rw[List.take_succ_eq_append_getElem h,List.map_append];rfl
@[simp] theorem zt6:rowsT []=[]:=rfl
def textQ(q:Rat):List UInt8:=if q.den=1 then textZ q.num else textZ q.num++47::textN q.den
section
variable{T:Tbl}[CNat T][CProd T][CTwos T][CQuot T][CQuotD T][CText T][CWhole T][CCommon T][CFrac T][CJoin T][CRow T]
theorem znj(x:Fz)(hx:fsz x≤900):callF T 251 [efz x]=some (.s (textQ (fv x))):=by
 have h1:=zcc (T:=T) x (by omega)
 have hs:=zbs (x:=x) (L:=900) hx (by decide)
 generalize fv x=q at *
 have l1:=zfp q
 have l2:=zfq q
 have e':fz q=(decide (q.num<0),ofN q.num.natAbs,ofN q.den):=rfl
 have h2:=zq6 (T:=T) (decide (q.num<0)) (ofN q.num.natAbs) (by omega)
 rw[zfo]at h2
 have h3:=zgg (T:=T) 1 (by decide)
 have h4:=zf2 (T:=T) (ofN q.den) (ofN 1) (by omega) (by rw[zdv];decide)
 rw[zaf,zaf]at h4
 have h5:callF T 68 [.sl (u32s (ofN q.den)) .an]=some (.s (textN q.den)):=by
  rw[p68,zmf _ (by omega),zaf]
 have t1:(textN q.den).length≤10000:=by
  have:=zey (a:=ofN q.den) (by omega)
  rwa [zaf]at this
 have t2:(textZ q.num).length≤20000:=by
  have:=zey (a:=ofN q.num.natAbs) (by omega)
  rw[zaf]at this
  unfold textZ
  split
  ·simp;omega
  ·omega
 rw[f251 _ rfl,b251]
 rw[e']at h1
 unfold textQ
 obtain⟨D,hD⟩:∃D,D=ofN q.den:=⟨_,rfl⟩
 rw[←hD]at h1 h4 h5
 obtain⟨A,hA⟩:∃A,A=ofN q.num.natAbs:=⟨_,rfl⟩
 rw[←hA]at h1 h2
 obtain⟨O,hO⟩:∃O,O=ofN 1:=⟨_,rfl⟩
 rw[←hO]at h3 h4
 have c1:¬ 9223372036854775807<(textN q.den).length:=by omega
 by_cases hd:q.den=1
 ·have hc:cmpN q.den 1=0:=by rw[hd];rfl
  rw[hc]at h4
  rw[if_pos hd]
  clear hD hA hO hc e'
  simp -implicitDefEqProofs[h1,h2,h3,h4]
 ·have hc:cmpN q.den 1=1:=by
   unfold cmpN
   have:=q.den_pos
   rw[if_neg (by omega),if_pos (by omega)]
  rw[hc]at h4
  rw[if_neg hd]
  have b1:1+(textN q.den).length≤9223372036854775807:=by omega
  have b2:(textZ q.num).length+((textN q.den).length+1)≤9223372036854775807:=by omega
  have b3:(textN q.den).length+1≤9223372036854775807:=by omega
  clear hD hA hO hc e'
  generalize textN q.den=t at *
  generalize textZ q.num=s at *
  simp -implicitDefEqProofs[h1,h2,h3,h4,h5,b1,b2,b3,binS]
def stZe(n i:Nat):St:=⟨[(3,.bs (.loc 9) 1 3 0 n),(10,.i .i64 n),(11,.i .i64 i)],[(.loc 9,⟨1,.own,3,rowF (List.replicate i (fz 0))++List.replicate (n-i) [.b false,.sl [] .an,.sl [] .an]⟩)],3⟩
theorem zt7(n:Nat)(hn:n≤300):loopN T 0 0 (.norm false [3]) l263_0 (stZe n 0)=some (.n,⟨[(3,.bs (.loc 9) 1 3 0 n)],[(.loc 9,⟨1,.own,3,rowF (List.replicate n (fz 0))⟩)],3⟩):=by
 refine zaq (stZe n) n _ (fun i hi=>?_) ?_
 ·have h0:=zgp (T:=T)
  have hw:=za9 hi (by omega)
  have e:(rowF (List.replicate i (fz 0))++List.replicate (n-i) [AV.b false,.sl [] .an,.sl [] .an]).set i (celF (fz 0))=rowF (List.replicate (i+1) (fz 0))++List.replicate (n-(i+1)) [AV.b false,.sl [] .an,.sl [] .an]:=by
   rw[List.set_append_right _ _ (by simp),zh4,List.length_replicate,Nat.sub_self,show n-i=(n-(i+1))+1 by omega,List.replicate_succ (n:=n-(i+1)),List.set_cons_zero,List.replicate_succ' (n:=i),←zh5,List.append_assoc]
   rfl
  have hl:(rowF (List.replicate i (fz 0))++List.replicate (n-i) [AV.b false,.sl [] .an,.sl [] .an]).length=n:=by simp;omega
  have hk:wkL ((rowF (List.replicate i (fz 0))++List.replicate (n-i) [AV.b false,.sl [] .an,.sl [] .an]).set i (celF (fz 0)))=(rowF (List.replicate i (fz 0))++List.replicate (n-i) [AV.b false,.sl [] .an,.sl [] .an]).set i (celF (fz 0)):=by
   rw[e,zbx,List.map_append,←zbx,zbi]
   simp[wkR,wkA]
  have hg:(rowF (List.replicate i (fz 0))++List.replicate (n-i) [AV.b false,.sl [] .an,.sl [] .an])[i]? = some [AV.b false,.sl [] .an,.sl [] .an]:=by
   rw[List.getElem?_append_right (by simp),zh4,List.length_replicate,Nat.sub_self,List.getElem?_replicate,if_pos (by omega)]
  unfold stZe
  rw[←e]
  clear e
  generalize rowF (List.replicate i (fz 0))++List.replicate (n-i) [AV.b false,.sl [] .an,.sl [] .an]=B at *
  obtain⟨hb,hgE⟩:=List.getElem?_eq_some_iff.1 hg
  generalize fz 0=z at *
  simp -implicitDefEqProofs[l263_0,hi,hw,h0,hl,hk,hg,hgE]
 ·have e:rowF (List.replicate n (fz 0))++List.replicate (n-n) [AV.b false,.sl [] .an,.sl [] .an]=rowF (List.replicate n (fz 0)):=by simp
  unfold stZe
  rw[e]
  constructor<;>simp -implicitDefEqProofs[l263_0]
theorem zlz(n:Nat)(hn:n≤300):callH T 2263 [.i .i64 n] []=some (.bs (.loc 9) 1 3 0 n,[(.loc 9,⟨1,.own,3,rowF (List.replicate n (fz 0))⟩)]):=by
 have h:=zt7 (T:=T) n hn
 rw[show l263_0=l2263_0 from rfl]at h
 unfold stZe at h
 simp only[List.replicate_zero,zeg,List.nil_append,Nat.sub_zero,Int.natCast_zero]at h
 have m1:¬ (n:Int)<0:=by omega
 have m2:¬ (300:Int)<n:=by omega
 have m3:(n:Int)≤4294967296:=by omega
 have hz:wkL (List.replicate n [AV.b false,.sl [] .nl,.sl [] .nl])=List.replicate n [AV.b false,.sl [] .an,.sl [] .an]:=by rw[zbx,List.map_replicate];simp[wkR,wkA]
 rw[f2263 _ _ rfl,b2263]
 simp -implicitDefEqProofs[m1,m2,m3,h,mm2,hz]
def stNm(l:List Fz)(i:Nat):St:=⟨[(3,.bs (.loc 3) 1 3 0 i),(6,.sl (rowF l) .an),(7,.i .i64 l.length),(8,.i .i64 i)],[(.loc 3,⟨1,.own,3,rowF (nrm (l.take i))⟩)],3⟩
def scl(c:Rat)(l:List Fz):List Fz:=l.map fun x=>fz (c*fv x)
def stSl(c:Fz)(l:List Fz)(i:Nat):St:=⟨[(2,.ptr (.loc 2) 1 3 0 0),(5,.bs (.loc 5) 2 3 0 i),(8,.sl (rowF l) .an),(9,.i .i64 l.length),(10,.i .i64 i)],[(.loc 2,⟨1,.str,3,[celF c]⟩),(.loc 5,⟨2,.own,3,rowF (scl (fv c) (l.take i))⟩)],4⟩
theorem zqq(c:Fz)(hc:fsz c≤1000)(l:List Fz)(hl:l.length≤1000)(hw:∀x∈l,fsz x≤1000) :
  loopN T 0 0 (.norm false [5]) l269_0 (stSl c l 0)=some (.n,⟨[(5,.bs (.loc 5) 1 3 0 l.length)],[(.loc 5,⟨1,.own,3,rowF (scl (fv c) l)⟩)],3⟩):=by
 refine zaq (stSl c l) l.length _ (fun i hi=>?_) ?_
 ·have hg:l[i]? = some (l[i]'hi):=List.getElem?_eq_getElem hi
  have hws:=za9 hi (by omega)
  have hn:=zfg (T:=T) c (l[i]'hi) hc (hw _ (List.getElem_mem hi))
  have e:scl (fv c) (l.take (i+1))=scl (fv c) (l.take i)++[fz (fv c*fv (l[i]'hi))]:=zdp l _ hi
  have hml:(scl (fv c) (l.take i)).length=i:=by simp[scl];omega
  have hp:=zda hml (fz (fv c*fv (l[i]'hi)))
  unfold stSl
  rw[e]
  clear e
  generalize scl (fv c) (l.take i)=M at *
  generalize fz (fv c*fv (l[i]'hi))=z at *
  have hb:i≤4294967295:=by omega
  simp -implicitDefEqProofs[l269_0,hi,hg,hws,hn,hp,hml,hb]
 ·unfold stSl
  rw[List.take_of_length_le (Nat.le_refl _)]
  generalize scl (fv c) l=M
  constructor<;>simp -implicitDefEqProofs[l269_0]
theorem zt8(c:Fz)(hc:fsz c≤1000)(l:List Fz)(hl:l.length≤1000)(hw:∀x∈l,fsz x≤1000):callF T 269 [efz c,.sl (rowF l) .an]=some (.sl (rowF (scl (fv c) l)) .an):=by
 have h:=zqq (T:=T) c hc l hl hw
 unfold stSl at h
 have e:scl (fv c) (l.take 0)=[]:=rfl
 rw[e]at h
 simp at h
 have ht:List.take l.length (scl (fv c) l)=scl (fv c) l:=List.take_of_length_le (by simp[scl])
 have hl2:(scl (fv c) l).length=l.length:=by simp[scl]
 rw[f269 _ rfl,b269]
 simp -implicitDefEqProofs[h,ht,hl2]
def dotQ:List Fz→List Fz→Rat
 | x::a,y::b=>fv x*fv y+dotQ a b
 | _,_=>0
def dotK(a b:List Fz)(i:Nat):Rat:=dotQ (a.take i) (b.take i)
theorem zl0:∀(a b:List Fz) (x y:Fz),a.length=b.length→dotQ (a++[x]) (b++[y])=dotQ a b+fv x*fv y
 | [],[],x,y,_=>by simp[dotQ,Rat.add_zero,Rat.zero_add]
 | u::a,v::b,x,y,h=>by
  have ih:=zl0 a b x y (by simpa using h)
  simp only[List.cons_append,dotQ,ih,Rat.add_assoc]
theorem z5t{a b:List Fz}(hab:a.length=b.length){i:Nat}(hi:i<a.length):dotK a b (i+1)=dotK a b i+fv (a[i]'hi)*fv (b[i]'(by omega)):=by
 unfold dotK
 rw[List.take_succ_eq_append_getElem hi,List.take_succ_eq_append_getElem (show i<b.length by omega)]
 exact zl0 _ _ _ _ (by simp;omega)
abbrev nocell:List AV:=[.b false,.sl [] .an,.sl [] .an]
def stDt(a b:List Fz)(i:Nat):St:=⟨[(1,.sl (rowF b) .an),(4,.ptr (.loc 4) 1 3 0 0),(6,.ptr (.loc 6) 2 3 0 0),(16,.sl (rowF a) .an),(17,.i .i64 a.length),(18,.i .i64 i)],
 [(.loc 4,⟨1,.str,3,[nocell]⟩),(.loc 6,⟨2,.str,3,[celF (fz (dotK a b i))]⟩)],4⟩
def stSm(a b:List Fz)(i:Nat):St:=⟨[(0,.sl (rowF a) .an),(1,.sl (rowF b) .an),(12,.i .i64 a.length),(13,.i .i64 i)],[],2⟩
theorem zt9(a b:List Fz)(hab:a.length=b.length)(hl:a.length≤1000)(ha:∀x∈a,fsz x≤1000)(hb:∀x∈b,fsz x≤1000) :
  loopN T 0 0 (.norm false []) l265_0 (stSm a b 0)=if (a.drop 0).map fv=(b.drop 0).map fv then some (.n,⟨[],[],2⟩) else some (.r,⟨[(4,.b false)],[],2⟩):=by
 refine zan (stSm a b) a.length (fun i=>if (a.drop i).map fv=(b.drop i).map fv then some (.n,⟨[],[],2⟩) else some (.r,⟨[(4,.b false)],[],2⟩)) (fun i hi=>?_) ?_
 ·have hga:a[i]? = some (a[i]'hi):=List.getElem?_eq_getElem hi
  have hib:i<b.length:=by omega
  have hgb:b[i]? = some (b[i]'hib):=List.getElem?_eq_getElem hib
  have hws:=za9 hi (by omega)
  have c:=zcs (T:=T) (a[i]'hi) (b[i]'hib) (ha _ (List.getElem_mem hi)) (hb _ (List.getElem_mem hib))
  have hib':(i:Int)<b.length:=by omega
  have key:((a.drop i).map fv=(b.drop i).map fv)↔(fv (a[i]'hi)=fv (b[i]'hib)∧(a.drop (i+1)).map fv=(b.drop (i+1)).map fv):=by
   rw[List.drop_eq_getElem_cons hi,List.drop_eq_getElem_cons hib,List.map_cons,List.map_cons,List.cons.injEq]
  by_cases he:fv (a[i]'hi)=fv (b[i]'hib)
  ·left
   refine⟨?_,by simp only[key,he,true_and]⟩
   unfold stSm
   simp -implicitDefEqProofs[l265_0,hi,hga,hgb,hws,c,he,hib,hib']
  ·right
   rw[if_neg (fun h=>he (key.1 h).1)]
   unfold stSm
   constructor<;>simp -implicitDefEqProofs[l265_0,hi,hga,hgb,hws,c,he,hib,hib']
 ·rw[List.drop_length,if_pos (by rw[hab,List.drop_length])]
  unfold stSm
  constructor<;>simp -implicitDefEqProofs[l265_0]
theorem zj6(a b:List Fz)(hl:a.length≤1000)(ha:∀x∈a,fsz x≤1000)(hb:∀x∈b,fsz x≤1000) :
  callF T 265 [.sl (rowF a) .an,.sl (rowF b) .an]=some (.b (decide (a.map fv=b.map fv))):=by
 rw[f265 _ rfl,b265]
 by_cases hab:a.length=b.length
 ·have h:=zt9 (T:=T) a b hab hl ha hb
  rw[List.drop_zero,List.drop_zero]at h
  unfold stSm at h
  simp at h
  have hab':(b.length:Int)=a.length:=by omega
  by_cases he:a.map fv=b.map fv
  ·rw[if_pos he]at h
   simp -implicitDefEqProofs[hab',h,he]
  ·rw[if_neg he]at h
   simp -implicitDefEqProofs[hab',h,he]
 ·have he:¬ a.map fv=b.map fv:=fun h=>hab (by simpa using congrArg List.length h)
  have hab':¬ (a.length:Int)=b.length:=by omega
  simp -implicitDefEqProofs[hab,hab',he]
def txts(l:List Fz):List (List UInt8):=l.map fun x=>textQ (fv x)
def stTt(l:List Fz)(i:Nat):St:=⟨[(3,.bs (.loc 3) 1 1 0 i),(6,.sl (rowF l) .an),(7,.i .i64 l.length),(8,.i .i64 i)],[(.loc 3,⟨1,.own,1,rowsT (txts (l.take i))⟩)],3⟩
theorem zl1(l:List Fz)(hl:l.length≤1000)(hw:∀x∈l,fsz x≤400) :
  loopN T 0 0 (.norm false [3]) l274_0 (stTt l 0)=some (.n,⟨[(3,.bs (.loc 3) 1 1 0 l.length)],[(.loc 3,⟨1,.own,1,rowsT (txts l)⟩)],3⟩):=by
 refine zaq (stTt l) l.length _ (fun i hi=>?_) ?_
 ·have hg:l[i]? = some (l[i]'hi):=List.getElem?_eq_getElem hi
  have hws:=za9 hi (by omega)
  have hn:=znj (T:=T) (l[i]'hi) (Nat.le_trans (hw _ (List.getElem_mem hi)) (by decide))
  have e:txts (l.take (i+1))=txts (l.take i)++[textQ (fv (l[i]'hi))]:=zdp l _ hi
  have hml:(txts (l.take i)).length=i:=by simp[txts];omega
  have hp:=zrb (txts (l.take i)) (textQ (fv (l[i]'hi)))
  rw[hml]at hp
  unfold stTt
  rw[e]
  clear e
  generalize txts (l.take i)=M at *
  generalize textQ (fv (l[i]'hi))=z at *
  have hb:i≤4294967295:=by omega
  simp -implicitDefEqProofs[l274_0,hi,hg,hws,hn,hp,hml,hb]
 ·unfold stTt
  rw[List.take_of_length_le (Nat.le_refl _)]
  generalize txts l=M
  constructor<;>simp -implicitDefEqProofs[l274_0]
theorem zua{q:Rat}(h:sz q≤400):(textQ q).length≤10000:=by
 have key:∀{a:List UInt32},a.length≤400→(textN (val a)).length≤4000:=by
  intro a ha
  obtain⟨K,hK⟩:∃K,K=3999:=⟨_,rfl⟩
  have h1:=za5 a
  have h2:4294967296^a.length≤(10^10)^a.length:=Nat.pow_le_pow_left (by decide) _
  rw[←Nat.pow_mul]at h2
  have h3:10^(10*a.length)≤10^(K+1):=Nat.pow_le_pow_right (by decide) (by omega)
  have h4:=zmh (k:=K) (Nat.lt_of_lt_of_le h1 (Nat.le_trans h2 h3))
  clear h1 h2 h3
  omega
 have h1:=key (a:=ofN q.num.natAbs) (Nat.le_trans (zfp q) h)
 have h2:=key (a:=ofN q.den) (Nat.le_trans (zfq q) h)
 rw[zaf]at h1 h2
 have h3:(textZ q.num).length≤4001:=by
  unfold textZ
  split
  ·simp;omega
  ·omega
 unfold textQ
 split
 ·omega
 ·simp;omega
theorem zos(l:List Fz)(hl:l.length≤1000)(hw:∀x∈l,fsz x≤400):callF T 274 [.sl (rowF l) .an]=some (.s (List.intercalate [44] (txts l))):=by
 have h:=zl1 (T:=T) l hl hw
 unfold stTt at h
 have e:txts (l.take 0)=[]:=rfl
 rw[e]at h
 simp only[zt6,Int.natCast_zero]at h
 have hj:callF T 183 [.sl (rowsT (txts l)) .an,.s [44]]=some (.s (List.intercalate [44] (txts l))):=by
  rw[p183,zrc _ _ (fun t ht=>?_) (by simp[txts,hl]) (by decide)]
  obtain⟨x,hx,rfl⟩:=List.mem_map.1 ht
  exact zua (Nat.le_trans (zbs (hw x hx) (by decide)) (Nat.le_refl _))
 have ht:List.take l.length (rowsT (txts l))=rowsT (txts l):=List.take_of_length_le (by simp[txts])
 have hl2:(txts l).length=l.length:=by simp[txts]
 rw[f274 _ rfl,b274]
 simp -implicitDefEqProofs[h,ht,hl2,hj]
end
theorem zw4{α:Type}{L acc:List α}(hl:L.length=acc.length){i:Nat}(h:i<L.length) :
  (L.take i++acc.drop i).set i (L[i]'h)=L.take (i+1)++acc.drop (i+1):=by
 rw[List.set_append_right _ _ (by simp;omega),List.length_take,Nat.min_eq_left (by omega),Nat.sub_self,List.drop_eq_getElem_cons (show i<acc.length by omega),List.set_cons_zero,List.take_succ_eq_append_getElem h,List.append_assoc]
 rfl
theorem z0k{α:Type}{L acc:List α}(hl:L.length=acc.length){i:Nat}(h:i<L.length):(L.take i++acc.drop i)[i]? = some (acc[i]'(by omega)):=by
 rw[List.getElem?_append_right (by simp;omega),List.length_take,Nat.min_eq_left (by omega),Nat.sub_self,List.getElem?_drop,Nat.add_zero,List.getElem?_eq_getElem]
theorem zht{l:List Rat}{i:Nat}{q:Rat}(h:l[i]? = some q):(fzs l)[i]? = some (fz q):=by
 unfold fzs
 rw[List.getElem?_map,h]
 rfl
theorem z0l(l:List Rat)(i:Nat)(q:Rat):(fzs l).set i (fz q)=fzs (l.set i q):=by
 unfold fzs
 rw[List.map_set]
@[simp] theorem zap(l:List Rat):(fzs l).length=l.length:=by simp[fzs]
theorem zub(l:List Fz):nrm l=fzs (l.map fv):=by unfold nrm fzs;rw[List.map_map];rfl
@[simp] theorem z5u(l:List Rat):(fzs l).map fv=l:=by unfold fzs;rw[List.map_map];simp[Function.comp_def]
def mixP(c:Rat)(acc:List Rat)(r:List Fz):List Rat:=List.zipWith (fun q x=>q+c*fv x) acc r
def addP(acc:List Rat)(r:List Fz):List Rat:=List.zipWith (fun q x=>q+fv x) acc r
theorem zbz{c:Rat}{acc:List Rat}{r:List Fz}(h:r.length=acc.length):(mixP c acc r).length=acc.length:=by simp[mixP,h]
theorem zuc{acc:List Rat}{r:List Fz}(h:r.length=acc.length):mixP 0 acc r=acc:=by
 unfold mixP
 induction acc generalizing r with
 | nil=>simp
 | cons q acc ih=>
  cases r with
  | nil=>simp at h
  | cons x r=>simp[Rat.zero_mul,Rat.add_zero];simpa[Rat.zero_mul,Rat.add_zero]using ih (by simpa using h)
theorem z0m{c:Rat}{acc:List Rat}{r:List Fz}{S B:Nat}(hc:sz c≤B)(ha:∀q∈acc,sz q≤S)(hr:∀x∈r,fsz x≤B)(hB:1≤B):∀q∈mixP c acc r,sz q≤S+(2*B+1):=by
 intro q hq
 obtain⟨i,hi,rfl⟩:=List.getElem_of_mem hq
 simp only[mixP,List.length_zipWith]at hi
 simp only[mixP,List.getElem_zipWith]
 have h1:=ha _ (List.getElem_mem (show i<acc.length by omega))
 have h2:=zbs (hr _ (List.getElem_mem (show i<r.length by omega))) hB
 have h3:=zgj c (fv (r[i]'(by omega)))
 have h4:=zja (acc[i]'(by omega)) (c*fv (r[i]'(by omega)))
 omega
section
variable{T:Tbl}[CNat T][CProd T][CTwos T][CQuot T][CQuotD T][CText T][CWhole T][CCommon T][CFrac T][CJoin T][CRow T]
def stAi(k j n:Nat)(rest:List (List Fz))(r:List Fz)(L acc:List Rat)(i:Nat):St:=
 ⟨[(4,.bs (.fld (.loc 15) 3) 1 3 0 n),(17,.sl (matF rest) .an),(18,.i .i64 k),(19,.i .i64 j),(28,.sl (rowF r) .an),(29,.i .i64 n),(30,.i .i64 i)],
  [(.fld (.loc 15) 3,⟨1,.own,3,rowF (fzs (L.take i++acc.drop i))⟩)],3⟩
def stAo(n:Nat)(rest:List (List Fz))(acc:List Rat)(j:Nat):St:=
 ⟨[(4,.bs (.fld (.loc 15) 3) 1 3 0 n),(17,.sl (matF rest) .an),(18,.i .i64 rest.length),(19,.i .i64 j)],[(.fld (.loc 15) 3,⟨1,.own,3,rowF (fzs ((rest.take j).foldl addP acc))⟩)],3⟩
end
def mixF(p:List (Fz×List Fz))(acc:List Rat):List Rat:=p.foldl (fun a q=>mixP (fv q.1) a q.2) acc
theorem zgr:∀(p:List (Fz×List Fz)) (acc:List Rat),(∀q∈p,q.2.length=acc.length)→(mixF p acc).length=acc.length
 | [],_,_=>rfl
 | q::p,acc,h=>by
  have h1:=zbz (c:=fv q.1) (h q List.mem_cons_self)
  have:=zgr p (mixP (fv q.1) acc q.2) (fun r hr=>by rw[h1];exact h r (List.mem_cons_of_mem _ hr))
  unfold mixF at this ⊢
  rw[List.foldl_cons,this,h1]
theorem zts{B:Nat}(hB:1≤B):∀(p:List (Fz×List Fz)) (acc:List Rat) (S:Nat),(∀q∈acc,sz q≤S)→(∀q∈p,fsz q.1≤B∧∀x∈q.2,fsz x≤B)→∀q∈mixF p acc,sz q≤S+p.length*(2*B+1)
 | [],acc,S,ha,_=>by simpa[mixF]using ha
 | r::p,acc,S,ha,hw=>by
  intro q hq
  have hr:=hw r List.mem_cons_self
  have:=zts hB p (mixP (fv r.1) acc r.2) (S+(2*B+1)) (z0m (zbs hr.1 hB) ha hr.2 hB) (fun r hr=>hw r (List.mem_cons_of_mem _ hr)) q hq
  rw[List.length_cons,Nat.succ_mul]
  omega
theorem ztt(p:List (Fz×List Fz))(acc:List Rat){k:Nat}(hk:k<p.length):mixF (p.take (k+1)) acc=mixP (fv (p[k]'hk).1) (mixF (p.take k) acc) (p[k]'hk).2:=by
 unfold mixF
 rw[List.take_succ_eq_append_getElem hk,List.foldl_append]
 rfl
section
variable{T:Tbl}[CNat T][CProd T][CTwos T][CQuot T][CQuotD T][CText T][CWhole T][CCommon T][CFrac T][CJoin T][CRow T]
theorem zws(C:List Fz)(k j n i:Nat)(l:List (List Fz))(r M:List Fz)(cf x w y z:Fz)(hi:i<n)(hn:n≤1000)(hck:C[k]? = some cf)(hir:i<r.length)(hg:r[i]? = some x)(c0:callF T 217 [efz cf,efz x]=some (efz w))
  (c1:callF T 215 [efz y,efz w]=some (efz z)) (hge:M[i]? = some y) (hml:M.length=n) :
  evX (orc T) T 0 l271_1 ⟨[(0,.sl (rowF C) .an),(10,.bs (.fld (.loc 40) 9) 1 3 0 n),(11,.i .i64 k),(41,.sl (matF l) .an),(42,.i .i64 j),(43,.i .i64 k),(54,.sl (rowF r) .an),(55,.i .i64 n),(56,.i .i64 i)],[(.fld (.loc 40) 9,⟨1,.own,3,rowF M⟩)],3⟩ =
   some (.n,⟨[(0,.sl (rowF C) .an),(10,.bs (.fld (.loc 40) 9) 1 3 0 n),(11,.i .i64 k),(41,.sl (matF l) .an),(42,.i .i64 j),(43,.i .i64 k),(54,.sl (rowF r) .an),(55,.i .i64 n),(56,.i .i64 (i+1:Nat))],[(.fld (.loc 40) 9,⟨1,.own,3,rowF (M.set i z)⟩)],3⟩):=by
 have hws:=za9 hi (by omega)
 have hi':(i:Int)<n:=by omega
 obtain⟨hkl,hgC⟩:=List.getElem?_eq_some_iff.1 hck
 obtain⟨_,hgE⟩:=List.getElem?_eq_some_iff.1 hge
 obtain⟨_,hgR⟩:=List.getElem?_eq_some_iff.1 hg
 have hkl':(k:Int)<C.length:=by omega
 have hset:=zxp M i z
 simp -implicitDefEqProofs[l271_1,hi,hi',hir,hg,hgR,hws,hck,hkl,hkl',hgC,c0,c1,hge,hgE,hml,hset]
def stMi(C:List Fz)(k j n:Nat)(l:List (List Fz))(r:List Fz)(L acc:List Rat)(i:Nat):St:=
 ⟨[(0,.sl (rowF C) .an),(10,.bs (.fld (.loc 40) 9) 1 3 0 n),(11,.i .i64 k),(41,.sl (matF l) .an),(42,.i .i64 j),(43,.i .i64 k),(54,.sl (rowF r) .an),(55,.i .i64 n),(56,.i .i64 i)],
  [(.fld (.loc 40) 9,⟨1,.own,3,rowF (fzs (L.take i++acc.drop i))⟩)],3⟩
theorem ztu(C:List Fz)(k j:Nat)(l:List (List Fz))(r:List Fz)(cf:Fz)(hck:C[k]? = some cf)(acc:List Rat)(hr:r.length=acc.length)(hn:acc.length≤1000){S B:Nat}
  (ha:∀q∈acc,sz q≤S) (hc:fsz cf≤B) (hw:∀x∈r,fsz x≤B) (hB:1≤B) (hS:S+(2*B+1)≤1000) :
  loopN T 0 4 (.norm false [0,10,41,42,43]) l271_1 (stMi C k j acc.length l r (mixP (fv cf) acc r) acc 0) =
   some (.n,⟨[(0,.sl (rowF C) .an),(10,.bs (.fld (.loc 40) 9) 1 3 0 acc.length),(41,.sl (matF l) .an),(42,.i .i64 j),(43,.i .i64 k)],[(.fld (.loc 40) 9,⟨1,.own,3,rowF (fzs (mixP (fv cf) acc r))⟩)],3⟩):=by
 have hL:=zbz (c:=fv cf) hr
 refine zaq (stMi C k j acc.length l r (mixP (fv cf) acc r) acc) acc.length _ (fun i hi=>?_) ?_
 ·have hir:i<r.length:=by omega
  have s1:=ha _ (List.getElem_mem hi)
  have s2:=hw _ (List.getElem_mem hir)
  have c0:=zfg (T:=T) cf (r[i]'hir) (by omega) (by omega)
  have s3:=zgj (fv cf) (fv (r[i]'hir))
  have s4:=zbs hc hB
  have s5:=zbs s2 hB
  have c1:=zff (T:=T) (fz (acc[i]'hi)) (fz (fv cf*fv (r[i]'hir))) (by rw[za0];omega) (by rw[za0];omega)
  have e1:(mixP (fv cf) acc r)[i]'(by omega)=acc[i]'hi+fv cf*fv (r[i]'hir):=by simp[mixP]
  rw[zbo,zbo,←e1]at c1
  have hu:=congrArg fzs (zw4 hL (show i<(mixP (fv cf) acc r).length by omega))
  rw[←z0l]at hu
  unfold stMi
  rw[←hu]
  exact zws C k j _ i l r _ cf _ _ _ _ hi hn hck hir (List.getElem?_eq_getElem hir) c0 c1 (zht (z0k hL (show i<(mixP (fv cf) acc r).length by omega))) (by simp;omega)
 ·have e:(mixP (fv cf) acc r).take acc.length++acc.drop acc.length=mixP (fv cf) acc r:=by rw[List.take_of_length_le (by omega),List.drop_length,List.append_nil]
  unfold stMi
  rw[e]
  generalize fzs (mixP (fv cf) acc r)=M at *
  constructor<;>simp -implicitDefEqProofs[l271_1]
def stMo(C:List Fz)(n:Nat)(l:List (List Fz))(acc:List Rat)(k:Nat):St:=
 ⟨[(0,.sl (rowF C) .an),(10,.bs (.fld (.loc 40) 9) 1 3 0 n),(41,.sl (matF l) .an),(42,.i .i64 l.length),(43,.i .i64 k)],[(.fld (.loc 40) 9,⟨1,.own,3,rowF (fzs (mixF ((C.zip l).take k) acc))⟩)],3⟩
theorem ztv(C:List Fz)(l:List (List Fz))(hcl:C.length=l.length)(acc:List Rat)(hn:acc.length≤1000)(hk:l.length≤1000){S B:Nat}
  (ha:∀q∈acc,sz q≤S) (hc:∀x∈C,fsz x≤B) (hw:∀r∈l,∀x∈r,fsz x≤B) (hB:1≤B) (hS:S+l.length*(2*B+1)≤1000) (hall:∀r∈l,r.length=acc.length) :
  loopN T 0 2 (.norm false [10]) l271_2 (stMo C acc.length l acc 0)=some (.n,⟨[(10,.bs (.fld (.loc 40) 9) 1 3 0 acc.length)],[(.fld (.loc 40) 9,⟨1,.own,3,rowF (fzs (mixF (C.zip l) acc))⟩)],3⟩):=by
 have hzl:(C.zip l).length=l.length:=by simp[hcl]
 refine zaq (stMo C acc.length l acc) l.length _ (fun k hk=>?_) ?_
 ·have hkc:k<C.length:=by omega
  have hgc:C[k]? = some (C[k]'hkc):=List.getElem?_eq_getElem hkc
  have hg:l[k]? = some (l[k]'hk):=List.getElem?_eq_getElem hk
  have hws:=za9 hk (by omega)
  have hm:=List.getElem_mem hk
  have hmc:=hc _ (List.getElem_mem hkc)
  have hlen:=zgr ((C.zip l).take k) acc (fun q hq=>hall _ (List.of_mem_zip (List.mem_of_mem_take hq)).2)
  have hr:(l[k]'hk).length=acc.length:=hall _ hm
  have hsz:=zts hB ((C.zip l).take k) acc S ha (fun q hq=>⟨hc _ (List.of_mem_zip (List.mem_of_mem_take hq)).1,hw _ (List.of_mem_zip (List.mem_of_mem_take hq)).2⟩)
  rw[List.length_take,Nat.min_eq_left (by omega)]at hsz
  have hj2:(k+1)*(2*B+1)≤l.length*(2*B+1):=Nat.mul_le_mul_right _ hk
  rw[Nat.succ_mul]at hj2
  have hl1:1*(2*B+1)≤l.length*(2*B+1):=Nat.mul_le_mul_right _ (by omega)
  have hsg:=zc7 (T:=T) (C[k]'hkc) (by omega)
  have e:mixF ((C.zip l).take (k+1)) acc=mixP (fv (C[k]'hkc)) (mixF ((C.zip l).take k) acc) (l[k]'hk):=by
   rw[ztt _ _ (by omega)]
   simp
  have hkc':(k:Int)<C.length:=by omega
  unfold stMo
  rw[e]
  by_cases hz:fv (C[k]'hkc)=0
  ·rw[hz,zuc (by rw[hlen,hr])]
   have hq:sgQ (fv (C[k]'hkc))=0:=zfr.2 hz
   rw[hq]at hsg
   clear hq hz hsz e hlen ha hc hw hall
   generalize fzs (mixF ((C.zip l).take k) acc)=M at *
   simp -implicitDefEqProofs[l271_2,hk,hg,hgc,hkc,hkc',hws,hsg]
  ·have hq:¬ sgQ (fv (C[k]'hkc))=0:=fun h=>hz (zfr.1 h)
   have hin:=ztu (T:=T) C k l.length l (l[k]'hk) (C[k]'hkc) hgc (mixF ((C.zip l).take k) acc) (by omega) (by omega) hsz hmc (hw _ hm) hB (by omega)
   unfold stMi at hin
   rw[List.take_zero,List.drop_zero,List.nil_append,hlen]at hin
   clear e hsz hlen hj2 ha hc hw hall hz
   generalize fzs (mixP (fv (C[k]'hkc)) (mixF ((C.zip l).take k) acc) (l[k]'hk))=M' at *
   generalize fzs (mixF ((C.zip l).take k) acc)=M at *
   generalize acc.length=n at *
   simp only[Int.natCast_zero]at hin
   have hr':((l[k]'hk).length:Int)=n:=by omega
   simp -implicitDefEqProofs[l271_2,hk,hg,hgc,hkc,hkc',hws,hsg,hq,hin,hr,hr']
 ·unfold stMo
  rw[List.take_of_length_le (by omega)]
  generalize fzs (mixF (C.zip l) acc)=M at *
  constructor<;>simp -implicitDefEqProofs[l271_2]
def stMc(C:List Fz)(l:List (List Fz))(n i:Nat):St:=⟨[(0,.sl (rowF C) .an),(1,.sl (matF l) .an),(2,.i .i64 n),(28,.sl (matF l) .an),(29,.i .i64 l.length),(30,.i .i64 i)],[],2⟩
theorem ztw(C:List Fz)(l:List (List Fz))(n:Nat)(hk:l.length≤1000)(hall:∀r∈l,r.length=n) :
  loopN T 0 0 (.norm false [0,1,2]) l271_0 (stMc C l n 0)=some (.n,⟨[(0,.sl (rowF C) .an),(1,.sl (matF l) .an),(2,.i .i64 n)],[],2⟩):=by
 refine zaq (stMc C l n) l.length _ (fun i hi=>?_) ?_
 ·have hg:l[i]? = some (l[i]'hi):=List.getElem?_eq_getElem hi
  have hws:=za9 hi (by omega)
  have hr:(l[i]'hi).length=n:=hall _ (List.getElem_mem hi)
  have hr':((l[i]'hi).length:Int)=n:=by omega
  unfold stMc
  simp -implicitDefEqProofs[l271_0,hi,hg,hws,hr,hr']
 ·unfold stMc
  constructor<;>simp -implicitDefEqProofs[l271_0]
theorem ztx(C:List Fz)(l:List (List Fz))(n:Nat)(hcl:C.length=l.length)(hn:n≤300)(hk:l.length≤1000){B:Nat}(hc:∀x∈C,fsz x≤B)(hw:∀r∈l,∀x∈r,fsz x≤B)(hB:1≤B)
  (hS:1+l.length*(2*B+1)≤1000) (hall:∀r∈l,r.length=n) :
  callF T 271 [.sl (rowF C) .an,.sl (matF l) .an,.i .i64 n]=some (.tup [.sl (rowF (fzs (mixF (C.zip l) (List.replicate n 0)))) .an,.b true]):=by
 have hz:=zlz (T:=T) n hn
 have e0:List.replicate n (fz 0)=fzs (List.replicate n 0):=by simp[fzs]
 rw[e0]at hz
 have h0:=ztw (T:=T) C l n hk hall
 have h:=ztv (T:=T) C l hcl (List.replicate n 0) (by simp;omega) hk (S:=1) (by
  intro q hq
  rw[List.eq_of_mem_replicate hq,zh3]
  exact Nat.le_refl _) hc hw hB hS (by simpa using hall)
 have hfl:=zgr (C.zip l) (List.replicate n 0) (fun q hq=>by rw[List.length_replicate];exact hall _ (List.of_mem_zip hq).2)
 unfold stMo at h
 unfold stMc at h0
 have e1:mixF ((C.zip l).take 0) (List.replicate n 0)=List.replicate n 0:=by simp[mixF]
 rw[e1]at h
 rw[List.length_replicate]at h hfl
 have hl2:(fzs (mixF (C.zip l) (List.replicate n 0))).length=n:=by rw[zap];exact hfl
 have ht:List.take n (fzs (mixF (C.zip l) (List.replicate n 0)))=fzs (mixF (C.zip l) (List.replicate n 0)):=List.take_of_length_le (by omega)
 have e2:((C.length:Int) == (l.length:Int))=true:=by simp;omega
 have p2:((C.length:Int)=(l.length:Int))=True:=by simp;omega
 have e3:¬ (n:Int)<0:=by omega
 have e4:¬ (300:Int)<n:=by omega
 rw[f271 _ rfl,b271]
 clear hc hw hS hall hfl e0 e1
 generalize fzs (mixF (C.zip l) (List.replicate n 0))=M at *
 generalize fzs (List.replicate n 0)=N at *
 simp only[Int.natCast_zero]at h h0
 simp -implicitDefEqProofs[hz,h,h0,hl2,ht,e2,p2,e3,e4]
end
abbrev agS(t h:Fz)(y0 y1 f0 f1:List Fz):AV:=
 .agg [.b t.1,.sl (u32s t.2.1) .an,.sl (u32s t.2.2) .an,.b h.1,.sl (u32s h.2.1) .an,.sl (u32s h.2.2) .an,.sl (rowF y0) .an,.sl (rowF y1) .an,.sl (rowF f0) .an,.sl (rowF f1) .an]
def prodQ(l:List Fz):Rat:=l.foldl (fun p x=>p*fv x) 1
theorem zf6(l:List Fz)(x:Fz):prodQ (l++[x])=prodQ l*fv x:=by simp[prodQ,List.foldl_append]
theorem zcu{B:Nat}(hB:1≤B):∀(l:List Fz),(∀x∈l,fsz x≤B)→∀i,sz (prodQ (l.take i))≤1+l.length*B:=by
 intro l hl i
 induction i with
 | zero=>simp[prodQ,zi9]
 | succ i ih=>
  by_cases hi:i<l.length
  ·rw[List.take_succ_eq_append_getElem hi,zf6]
   have h1:=zgj (prodQ (l.take i)) (fv (l[i]'hi))
   have h2:=zbs (hl _ (List.getElem_mem hi)) hB
   have key:∀j,j≤l.length→sz (prodQ (l.take j))≤1+j*B:=by
    intro j
    induction j with
    | zero=>intro _;simp[prodQ,zi9]
    | succ j ihj=>
     intro hj
     rw[List.take_succ_eq_append_getElem (show j<l.length by omega),zf6]
     have h3:=ihj (by omega)
     have h4:=zgj (prodQ (l.take j)) (fv (l[j]'(by omega)))
     have h5:=zbs (hl _ (List.getElem_mem (show j<l.length by omega))) hB
     rw[Nat.succ_mul]
     omega
   have h6:=key i (by omega)
   have h7:(i+1)*B≤l.length*B:=Nat.mul_le_mul_right _ hi
   rw[Nat.succ_mul]at h7
   omega
  ·rw[List.take_of_length_le (by omega)]
   rw[List.take_of_length_le (by omega)]at ih
   exact ih
theorem zgs{k:Int}(h1:-100≤k)(h2:k≤100):sz (k:Rat)≤1:=by
 unfold sz
 rw[Rat.num_intCast,Rat.den_intCast,zdv]
 exact Nat.max_le.2 ⟨zal (by omega),Nat.le_refl _⟩
section
variable{T:Tbl}[CNat T][CProd T][CTwos T][CQuot T][CQuotD T][CText T][CWhole T][CCommon T][CFrac T][CJoin T][CRow T][CSpan T]
theorem zb0(a b:Int)(x:Fz)(hx:fsz x≤900)(ha1:-100≤a)(ha2:a≤100)(hb1:-100≤b)(hb2:b≤100):callF T 336 [.i .i64 a,.i .i64 b,efz x]=some (efz (fz ((a:Rat)+(b:Rat)*fv x))):=by
 have c1:=zcz (T:=T) a (by omega) (by omega)
 have c2:=zcz (T:=T) b (by omega) (by omega)
 have small:∀k:Int,-100≤k→k≤100→sz (k:Rat)≤1:=fun k h1 h2=>zgs h1 h2
 have s1:=small a ha1 ha2
 have s2:=small b hb1 hb2
 have c3:=zfg (T:=T) (fz (b:Rat)) x (by rw[za0];omega) (by omega)
 rw[zbo]at c3
 have s3:=zgj (b:Rat) (fv x)
 have s4:=zbs (L:=900) hx (by decide)
 have c4:=zff (T:=T) (fz (a:Rat)) (fz ((b:Rat)*fv x)) (by rw[za0];omega) (by rw[za0];omega)
 rw[zbo,zbo]at c4
 rw[f336 _ rfl,b336]
 generalize fz (a:Rat)=A at *
 generalize fz ((a:Rat)+(b:Rat)*fv x)=R at *
 generalize fz ((b:Rat)*fv x)=M at *
 generalize fz (b:Rat)=B at *
 simp -implicitDefEqProofs[c1,c2,c3,c4]
def stTm(l:List Fz)(i:Nat):St:=⟨[(2,.ptr (.loc 2) 1 3 0 0),(3,.ptr (.loc 3) 2 3 0 0),(7,.sl (rowF l) .an),(8,.i .i64 l.length),(9,.i .i64 i)],[(.loc 2,⟨1,.str,3,[nocell]⟩),(.loc 3,⟨2,.str,3,[celF (fz (prodQ (l.take i)))]⟩)],4⟩
theorem zqt(l:List Fz){B:Nat}(hl:l.length≤1000)(hB:1≤B)(hw:∀x∈l,fsz x≤B)(hS:1+l.length*B≤1000) :
  loopN T 0 0 (.norm false [2,3]) l337_0 (stTm l 0)=some (.n,⟨[(2,.ptr (.loc 2) 1 3 0 0),(3,.ptr (.loc 3) 2 3 0 0)],[(.loc 2,⟨1,.str,3,[nocell]⟩),(.loc 3,⟨2,.str,3,[celF (fz (prodQ l))]⟩)],4⟩):=by
 refine zaq (stTm l) l.length _ (fun i hi=>?_) ?_
 ·have hg:l[i]? = some (l[i]'hi):=List.getElem?_eq_getElem hi
  have hws:=za9 hi (by omega)
  have h1:1*B≤l.length*B:=Nat.mul_le_mul_right _ (by omega)
  have h2:=hw _ (List.getElem_mem hi)
  have c:=zfg (T:=T) (fz (prodQ (l.take i))) (l[i]'hi) (by rw[za0];have:=zcu hB l hw i;omega) (by omega)
  rw[zbo,←zf6,←List.take_succ_eq_append_getElem hi]at c
  unfold stTm
  generalize fz (prodQ (l.take i))=A at *
  generalize fz (prodQ (l.take (i+1)))=A' at *
  simp -implicitDefEqProofs[l337_0,hi,hg,hws,c]
 ·unfold stTm
  rw[List.take_of_length_le (Nat.le_refl _)]
  generalize fz (prodQ l)=A at *
  constructor<;>simp -implicitDefEqProofs[l337_0]
theorem zb1(l:List Fz){B:Nat}(hl:l.length≤1000)(hB:1≤B)(hw:∀x∈l,fsz x≤B)(hS:1+l.length*B≤1000):callF T 337 [.sl (rowF l) .an]=some (efz (fz (prodQ l))):=by
 have c1:=zju (T:=T)
 have h:=zqt (T:=T) l hl hB hw hS
 have e:prodQ (l.take 0)=1:=by simp[prodQ]
 unfold stTm at h
 rw[e]at h
 rw[f337 _ rfl,b337]
 generalize fz (prodQ l)=A at *
 generalize fz 1=A1 at *
 simp only[Int.natCast_zero]at h
 simp -implicitDefEqProofs[c1,h]
theorem zl7(t h:Fz)(y0 y1 f0 f1:List Fz):callF T 338 [agS t h y0 y1 f0 f1]=some (.sl (matF [y0,y1,f0,f1]) .an):=by
 have e:matF [y0,y1,f0,f1]=[[.sl (rowF y0) .an],[.sl (rowF y1) .an],[.sl (rowF f0) .an],[.sl (rowF f1) .an]]:=rfl
 rw[f338 _ rfl,b338,e]
 simp -implicitDefEqProofs
def rightS(h:Fz)(y0 y1 f0 f1:List Fz):Bool:=decide (0<fv h)&&decide (y0.length≤300)&&decide (y1.length=y0.length)&&decide (f0.length=y0.length)&&decide (f1.length=y0.length)
theorem zl8(t h s:Fz)(y0 y1 f0 f1:List Fz)(ht:fsz t≤300)(hh:fsz h≤300)(hs:fsz s≤300):callF T 335 [agS t h y0 y1 f0 f1,efz s]=some (efz (fz ((fv s-fv t)/fv h))):=by
 have c1:=zjx (T:=T) s t (by omega) (by omega)
 have e1:=zo6 (fv s) (fv t)
 have e2:=zbs (L:=300) ht (by decide)
 have e3:=zbs (L:=300) hs (by decide)
 have c2:=zjy (T:=T) (fz (fv s-fv t)) h (by rw[za0];omega) (by omega)
 rw[zbo]at c2
 rw[f335 _ rfl,b335]
 generalize fz ((fv s-fv t)/fv h)=R at *
 generalize fz (fv s-fv t)=D at *
 generalize decide (fv h≠0)=Z at *
 simp -implicitDefEqProofs[c1,c2]
theorem zi0(t h:Fz)(y0 y1 f0 f1:List Fz)(hh:fsz h≤300):callF T 329 [agS t h y0 y1 f0 f1]=some (.b (rightS h y0 y1 f0 f1)):=by
 have c:=zc7 (T:=T) h (by omega)
 rw[f329 _ rfl,b329]
 unfold rightS
 by_cases h1:0<fv h
 case neg=>
  have e1:¬ 0<sgQ (fv h):=fun x=>h1 (zf9.1 x)
  rw[decide_eq_false h1]
  simp -implicitDefEqProofs[c,e1]
 have e1:0<sgQ (fv h):=zf9.2 h1
 rw[decide_eq_true h1]
 by_cases h2:y0.length≤300
 case neg=>
  have e2:¬ (y0.length:Int)≤300:=by omega
  rw[decide_eq_false h2]
  simp -implicitDefEqProofs[c,e1,e2]
 have e2:(y0.length:Int)≤300:=by omega
 rw[decide_eq_true h2]
 by_cases h3:y1.length=y0.length
 case neg=>
  have e3:((y1.length:Int) == (y0.length:Int))=false:=by simp;omega
  have p3:((y1.length:Int)=(y0.length:Int))=False:=by simp;omega
  rw[decide_eq_false h3]
  simp -implicitDefEqProofs[c,e1,e2,e3,p3]
 have e3:((y1.length:Int) == (y0.length:Int))=true:=by simp;omega
 have p3:((y1.length:Int)=(y0.length:Int))=True:=by simp;omega
 rw[decide_eq_true h3]
 by_cases h4:f0.length=y0.length
 case neg=>
  have e4:((f0.length:Int) == (y0.length:Int))=false:=by simp;omega
  have p4:((f0.length:Int)=(y0.length:Int))=False:=by simp;omega
  rw[decide_eq_false h4]
  simp -implicitDefEqProofs[c,e1,e2,e3,p3,e4,p4]
 have e4:((f0.length:Int) == (y0.length:Int))=true:=by simp;omega
 have p4:((f0.length:Int)=(y0.length:Int))=True:=by simp;omega
 rw[decide_eq_true h4]
 have e5:((f1.length:Int) == (y0.length:Int))=decide (f1.length=y0.length):=by
  rw[Bool.eq_iff_iff]
  simp only[beq_iff_eq,decide_eq_true_eq]
  omega
 clear h1 h2 h3 h4
 generalize decide (f1.length=y0.length)=Z at *
 simp -implicitDefEqProofs[c,e1,e2,e3,p3,e4,p4,e5]
end
theorem zc6(a b:List AV):wkR (a++b)=wkR a++wkR b:=by rw[zjn,zjn,zjn,List.map_append]
abbrev tyS:Ty:=.cons tyF (.cons tyF (.cons (.sl tyF) (.cons (.sl tyF) (.cons (.sl tyF) (.cons (.sl tyF) .nil)))))
class CRow5 (T:Tbl):Prop where
class CRef5 (T:Tbl):Prop where
end Go.Ab
section
namespace Go.Ab
end Go.Ab
end
namespace Go.Ab
section
variable{T:Tbl}
def stDw(Q:List UInt32)(o n s i:Nat):St:=⟨[(0,.bs (.bor 0) 0 1 o n),(1,.i .i64 s),(5,.i .i64 i)],[(.bor 0,⟨0,.own,1,u32s Q⟩)],4⟩
end
section
variable{T:Tbl}[CRef02 T][CRef04 T][CRef05 T][CRef07 T][CRef06 T]
def stLw(Q R:List UInt32)(o n o2 n2 c i:Nat):St:=⟨[(0,.bs (.bor 0) 0 1 o n),(1,.bs (.bor 1) 1 1 o2 n2),(4,u64 c),(5,.i .i64 i)],[(.bor 0,⟨0,.own,1,u32s Q⟩),(.bor 1,⟨1,.own,1,u32s R⟩)],6⟩
def nmX:BId:=.fld (.loc 12) 22
def nmY:BId:=.fld (.loc 14) 22
def nm2(f:Bool):BId×BId:=if f then (nmX,nmY) else (nmY,nmX)
def stGc(f:Bool)(P a S P2 b S2:List UInt32)(m n:Nat):St:=
 ⟨[(5,.bs (nm2 f).1 1 1 P.length a.length),(6,.bs (nm2 f).2 2 1 P2.length b.length),(7,.i .i64 m),(8,.i .i64 n)],[((nm2 f).1,⟨1,.own,1,u32s (P++(a++S))⟩),((nm2 f).2,⟨2,.own,1,u32s (P2++(b++S2))⟩)],4⟩
structure Gc where
 f:Bool
 P:List UInt32
 S:List UInt32
 P2:List UInt32
 S2:List UInt32
 X:Nat
 Y:Nat
end
end Go.Ab
section
namespace Go.Ab
end Go.Ab
end
namespace Go.Ab
section
variable{T:Tbl}[CRef02 T][CRef04 T][CRef05 T][CRef07 T][CRef06 T][CRef08 T][CRef09 T]
theorem zee(x:Fz)(k:Nat):callF T 247 [efz x,.i .i64 k]=some (.b (decide (k<fsz x))):=by
 obtain⟨n,a,d⟩:=x
 unfold fsz
 rw[f247 _ rfl,b247]
 by_cases h1:k<a.length
 ·have h3:k<max a.length d.length:=by omega
  simp -implicitDefEqProofs[h1,h3]
 ·by_cases h2:k<d.length
  ·have h3:k<max a.length d.length:=by omega
   simp -implicitDefEqProofs[h1,h2,h3]
  ·have h3:¬ k<max a.length d.length:=by omega
   simp -implicitDefEqProofs[h1,h2,h3]
end
section
variable{T:Tbl}[CRef02 T][CRef04 T][CRef05 T][CRef07 T][CRef06 T][CRef08 T][CRef09 T][CRef11 T]
def stZ1(n i:Nat):St:=⟨[(0,.i .i64 n),(3,.bs (.loc 3) 1 3 0 i),(4,.i .i64 i)],[(.loc 3,⟨1,.own,3,rowF (List.replicate i (fz 0))⟩)],3⟩
def stN1(l:List Fz)(i:Nat):St:=⟨[(0,.sl (rowF l) .an),(3,.bs (.loc 3) 1 3 0 i),(4,.i .i64 i)],[(.loc 3,⟨1,.own,3,rowF (nrm (l.take i))⟩)],3⟩
def stS1(a b:List Fz)(i:Nat):St:=⟨[(0,.sl (rowF a) .an),(1,.sl (rowF b) .an),(5,.i .i64 i)],[],2⟩
def stA1(p q:List Rat)(i:Nat):St:=⟨[(0,.sl (rowF (fzs p)) .an),(1,.sl (rowF (fzs q)) .an),(5,.bs (.loc 5) 1 3 0 i),(6,.i .i64 i)],[(.loc 5,⟨1,.own,3,rowF (fzs ((addP p (fzs q)).take i))⟩)],3⟩
def stD1(p q:List Rat)(i:Nat):St:=⟨[(0,.sl (rowF (fzs p)) .an),(1,.sl (rowF (fzs q)) .an),(4,.ptr (.loc 4) 1 3 0 0),(5,.ptr (.loc 5) 2 3 0 0),(6,.i .i64 i)],
 [(.loc 4,⟨1,.str,3,[nocell]⟩),(.loc 5,⟨2,.str,3,[celF (fz (dotK (fzs p) (fzs q) i))]⟩)],4⟩
def longB(l:List Fz)(many words:Nat):Bool:=decide (many<l.length) || l.any fun x=>decide (words<fsz x)
def stL1(l:List Fz)(many words:Nat)(i:Nat):St:=⟨[(0,.sl (rowF l) .an),(1,.i .i64 many),(2,.i .i64 words),(7,.i .i64 i)],[],2⟩
theorem zqn(l:List Fz)(many words:Nat)(hl:l.length≤many)(hm:many≤1000) :
  loopN T 0 0 (.norm false [0,1]) l286_0 (stL1 l many words 0)=if (l.drop 0).any (fun x=>decide (words<fsz x))=true then some (.r,⟨[(6,.b true)],[],2⟩) else some (.n,⟨[(0,.sl (rowF l) .an),(1,.i .i64 many)],[],2⟩):=by
 refine zan (stL1 l many words) l.length (fun i=>if (l.drop i).any (fun x=>decide (words<fsz x))=true then some (.r,⟨[(6,.b true)],[],2⟩) else some (.n,⟨[(0,.sl (rowF l) .an),(1,.i .i64 many)],[],2⟩)) (fun i hi=>?_) ?_
 ·have hga:l[i]? = some (l[i]'hi):=List.getElem?_eq_getElem hi
  have hws:=za9 hi (by omega)
  have c:=zee (T:=T) (l[i]'hi) words
  have h3:(i:Int)<many:=by omega
  have h4:i<many:=by omega
  have key:(l.drop i).any (fun x=>decide (words<fsz x))=(decide (words<fsz (l[i]'hi)) || (l.drop (i+1)).any fun x=>decide (words<fsz x)):=by
   rw[List.drop_eq_getElem_cons hi,List.any_cons]
  by_cases he:words<fsz (l[i]'hi)
  ·right
   rw[if_pos (by rw[key,decide_eq_true he,Bool.true_or])]
   rw[decide_eq_true he]at c
   unfold stL1
   clear key he
   constructor<;>simp -implicitDefEqProofs[l286_0,hi,h3,h4,hga,hws,c]
  ·left
   refine⟨?_,by simp only[key,decide_eq_false he,Bool.false_or]⟩
   rw[decide_eq_false he]at c
   unfold stL1
   clear key he
   simp -implicitDefEqProofs[l286_0,hi,h3,h4,hga,hws,c]
 ·rw[List.drop_length,if_neg (by simp)]
  unfold stL1
  constructor<;>simp -implicitDefEqProofs[l286_0]
theorem zqo(l:List Fz)(many words:Nat)(hl:l.length≤many)(hm:many≤1000):callF T 286 [.sl (rowF l) .an,.i .i64 many,.i .i64 words]=some (.b (longB l many words)):=by
 have h:=zqn (T:=T) l many words hl hm
 rw[List.drop_zero]at h
 unfold stL1 at h
 simp only[Int.natCast_zero]at h
 have h1:¬ (many:Int)<l.length:=by omega
 have h2:¬ many<l.length:=by omega
 unfold longB
 rw[f286 _ rfl,b286]
 cases hc:l.any fun x=>decide (words<fsz x) with
 | true=>
  rw[hc,if_pos rfl]at h
  simp -implicitDefEqProofs[h,h2]
 | false=>
  rw[hc,if_neg (by decide)]at h
  simp -implicitDefEqProofs[h,h1,h2]
theorem zqp(l:List Fz)(many words:Nat)(hl:many<l.length)(hm:many≤1000) :
  ∃r,(r=some (.r,(⟨[(6,.b true)],[],2⟩:St))∨r=some (.n,⟨[(0,.sl (rowF l) .an),(1,.i .i64 many)],[],2⟩))∧loopN T 0 0 (.norm false [0,1]) l286_0 (stL1 l many words 0)=r:=by
 obtain⟨G,hG⟩:∃G:Nat→Option (Ex×St),G=fun i=>if ((l.take many).drop i).any (fun x=>decide (words<fsz x))=true then some (.r,⟨[(6,.b true)],[],2⟩) else some (.n,⟨[(0,.sl (rowF l) .an),(1,.i .i64 many)],[],2⟩):=⟨_,rfl⟩
 refine⟨G 0,?_,zan (stL1 l many words) many G (fun i hi=>?_) ?_⟩
 ·rw[hG]
  simp only
  split
  ·exact .inl rfl
  ·exact .inr rfl
 ·have hil:i<l.length:=by omega
  have hil':(i:Int)<l.length:=by omega
  have hga:l[i]? = some (l[i]'hil):=List.getElem?_eq_getElem hil
  have hws:=za9 hi (by omega)
  have c:=zee (T:=T) (l[i]'hil) words
  have key:((l.take many).drop i).any (fun x=>decide (words<fsz x))=(decide (words<fsz (l[i]'hil)) || ((l.take many).drop (i+1)).any fun x=>decide (words<fsz x)):=by
   rw[List.drop_eq_getElem_cons (show i<(l.take many).length by simp;omega),List.any_cons,List.getElem_take]
  by_cases he:words<fsz (l[i]'hil)
  ·right
   rw[hG]
   simp only
   rw[if_pos (by rw[key,decide_eq_true he,Bool.true_or])]
   rw[decide_eq_true he]at c
   unfold stL1
   clear key he hG
   constructor<;>simp -implicitDefEqProofs[l286_0,hi,hil,hil',hga,hws,c]
  ·left
   refine⟨?_,by rw[hG];simp only[key,decide_eq_false he,Bool.false_or]⟩
   rw[decide_eq_false he]at c
   unfold stL1
   clear key he hG
   simp -implicitDefEqProofs[l286_0,hi,hil,hil',hga,hws,c]
 ·rw[hG]
  simp only
  rw[List.drop_of_length_le (by simp;omega),if_neg (by simp)]
  have h1:(many:Int)<l.length:=by omega
  unfold stL1
  constructor<;>simp -implicitDefEqProofs[l286_0,h1,hl]
theorem zni(l:List Fz)(many words:Nat)(hl:many<l.length)(hm:many≤1000):callF T 286 [.sl (rowF l) .an,.i .i64 many,.i .i64 words]=some (.b true):=by
 obtain⟨r,hr,h⟩:=zqp (T:=T) l many words hl hm
 unfold stL1 at h
 simp only[Int.natCast_zero]at h
 have h1:(many:Int)<l.length:=by omega
 rw[f286 _ rfl,b286]
 rcases hr with rfl | rfl
 ·simp -implicitDefEqProofs[h]
 ·simp -implicitDefEqProofs[h,hl]
theorem zbg(l:List Fz)(many words:Nat)(hm:many≤1000):callF T 286 [.sl (rowF l) .an,.i .i64 many,.i .i64 words]=some (.b (longB l many words)):=by
 by_cases h:many<l.length
 ·rw[zni l many words h hm]
  unfold longB
  rw[decide_eq_true h,Bool.true_or]
 ·exact zqo l many words (by omega) hm
theorem za4{l:List Fz}{many words:Nat}(h:longB l many words=false):l.length≤many∧∀x∈l,fsz x≤words:=by
 unfold longB at h
 simp only[Bool.or_eq_false_iff,decide_eq_false_iff_not,List.any_eq_false,decide_eq_true_eq]at h
 exact⟨by omega,fun x hx=>by have:=h.2 x hx;omega⟩
end
def cap300(n:Int):Nat:=(min (max n 0) 300).toNat
section
variable{T:Tbl}[CNat T][CProd T][CTwos T][CQuot T][CQuotD T][CText T][CWhole T][CCommon T][CFrac T][CJoin T][CRow T]
def unitR(n i:Int):List Rat:=if 0≤i∧i<cap300 n then (List.replicate (cap300 n) 0).set i.toNat 1 else List.replicate (cap300 n) 0
end
section
variable{T:Tbl}[CRef02 T][CRef04 T][CRef05 T][CRef07 T][CRef06 T][CRef08 T][CRef09 T][CRef11 T]
def stZ1x(n:Int)(i:Nat):St:=⟨[(0,.i .i64 n),(3,.bs (.loc 3) 1 3 0 i),(4,.i .i64 i)],[(.loc 3,⟨1,.own,3,rowF (List.replicate i (fz 0))⟩)],3⟩
end
theorem zhn{m:List (List Fz)}{n:Nat}(h:m.length=n)(r:List Fz):wkL (matF (List.take n m)++[[.sl (rowF r) .an]])=matF (m++[r]):=by
 rw[List.take_of_length_le (by omega),zu8,z1d]
theorem zfi{α:Type}(l:List α){i:Nat}(h:i<l.length):l.take (i+1)=l.take i++[l[i]'h]:=List.take_succ_eq_append_getElem h
section
variable{T:Tbl}[CRef02 T][CRef04 T][CRef05 T][CRef07 T][CRef06 T][CRef08 T][CRef09 T][CRef11 T][CLaw09 T][CLaw11 T]
theorem zdm(x:Fz):callF T 248 [efz x]=some (efz x):=by
 rw[f248 _ rfl,b248]
 simp -implicitDefEqProofs
def stTo11(l:List Fz)(i:Nat):St:=⟨[(0,.sl (rowF l) .an),(3,.bs (.loc 3) 1 3 0 i),(4,.i .i64 i)],[((.loc 3),⟨1,.own,3,rowF (l.take i)⟩)],3⟩
theorem ztg(l:List Fz)(hl:l.length≤4294967296) :
  loopN T 0 0 (.norm false [3]) l287_0 (stTo11 l 0)=some (.n,⟨[(3,.bs (.loc 3) 1 3 0 (l.length))],[((.loc 3),⟨1,.own,3,rowF (l.take (l.length))⟩)],3⟩):=by
 refine zaq (stTo11 l) (l.length) _ (fun i hi=>?_) ?_
 ·have hws:=za9 hi (by omega)
  have hb:i≤4294967295:=by omega
  have hg:l[i]? = some (l[i]'hi):=List.getElem?_eq_getElem hi
  have hn:=zdm (T:=T) (l[i]'hi)
  have e:=zfi l hi
  have hml:(l.take i).length=i:=by simp;omega
  have hp:=zda hml (l[i]'hi)
  unfold stTo11
  rw[e]
  clear e
  generalize l.take i=M at *
  simp -implicitDefEqProofs[l287_0,hi,hws,hb,hp,hml,hg,hn]
 ·unfold stTo11
  rw[List.take_of_length_le (Nat.le_refl _)]
  constructor<;>simp -implicitDefEqProofs[l287_0]
theorem zdn(l:List Fz)(hl:l.length≤4294967296):callF T 287 [.sl (rowF l) .an]=some (.sl (rowF l) .an):=by
 have h:=ztg (T:=T) l hl
 unfold stTo11 at h
 rw[List.take_zero,List.take_of_length_le (Nat.le_refl _)]at h
 simp only[zeg,Int.natCast_zero]at h
 have ht:List.take l.length l=l:=List.take_of_length_le (Nat.le_refl _)
 rw[f287 _ rfl,b287]
 simp -implicitDefEqProofs[h,ht]
def stOf11(l:List Fz)(i:Nat):St:=⟨[(0,.sl (rowF l) .an),(3,.bs (.loc 3) 1 3 0 i),(4,.i .i64 i)],[((.loc 3),⟨1,.own,3,rowF (l.take i)⟩)],3⟩
end
def widthM:List (List Fz)→Nat
 | []=>0
 | r::_=>r.length
def rightM(m:List (List Fz)):Bool:=m.all fun r=>decide (r.length=widthM m)
def colM(m:List (List Fz))(j:Nat):List Fz:=m.map fun r=>r.getD j (false,[],[])
def turnM(m:List (List Fz))(k:Nat):List (List Fz):=(List.range k).map fun j=>nrm (colM m j)
def scM(r:List Fz)(m:List (List Fz)):List (List Fz):=List.zipWith (fun x row=>scl (fv x) row) r m
def sumM:List (List Fz)→List Rat
 | []=>[]
 | r::m=>m.foldl addP (r.map fv)
def leftQ(r:List Fz)(m:List (List Fz)):List Rat:=sumM (scM r m)
def applyQ(m:List (List Fz))(c:List Fz):List Rat:=m.map fun r=>dotQ r c
section
variable{T:Tbl}[CNat T][CProd T][CTwos T][CQuot T][CQuotD T][CText T][CWhole T][CCommon T][CFrac T][CJoin T][CRow T][CGrid T]
def stGrR(m:List (List Fz))(i:Nat):St:=⟨[(0,.sl (matF m) .an),(5,.sl (matF m) .an),(6,.i .i64 m.length),(7,.i .i64 i)],[],2⟩
def stGrS(a b:List (List Fz))(i:Nat):St:=⟨[(1,.sl (matF b) .an),(12,.sl (matF a) .an),(13,.i .i64 a.length),(14,.i .i64 i)],[],2⟩
def idQ(k:Nat)(i:Nat):List (List Fz):=(List.range i).map fun j=>fzs ((List.replicate k 0).set j 1)
def stGrI(k:Nat)(i:Nat):St:=⟨[(0,.i .i64 k),(3,.bs (.loc 3) 1 1 0 i),(8,.i .i64 k),(9,.i .i64 i)],[((.loc 3),⟨1,.own,1,matF (idQ k i)⟩)],3⟩
def stGrT(m R:List (List Fz))(k j:Nat)(i:Nat):St:=⟨[(0,.sl (matF m) .an),(3,.bs (.loc 3) 1 1 0 j),(4,.i .i64 j),(5,.bs (.loc 5) 2 3 0 i),(12,.i .i64 k),(13,.i .i64 j),(16,.sl (matF m) .an),(17,.i .i64 m.length),(18,.i .i64 i)],[(.loc 3,⟨1,.own,1,matF R⟩),((.loc 5),⟨2,.own,3,rowF (nrm (colM (m.take i) j))⟩)],4⟩
def stTo12t(m:List (List Fz))(k:Nat)(i:Nat):St:=⟨[(0,.sl (matF m) .an),(3,.bs (.loc 3) 1 1 0 i),(12,.i .i64 k),(13,.i .i64 i)],[((.loc 3),⟨1,.own,1,matF (turnM m i)⟩)],3⟩
end
section
variable{T:Tbl}[CNat T][CProd T][CTwos T][CQuot T][CQuotD T][CText T][CWhole T][CCommon T][CFrac T][CJoin T][CRow T][CGrid T]
def stGrL(r:List Fz)(m:List (List Fz))(i:Nat):St:=⟨[(0,.sl (rowF r) .an),(6,.bs (.loc 6) 1 1 0 i),(19,.sl (matF m) .an),(20,.i .i64 m.length),(21,.i .i64 i)],[((.loc 6),⟨1,.own,1,matF (scM (r.take i) (m.take i))⟩)],3⟩
def stGrA(m:List (List Fz))(c:List Fz)(i:Nat):St:=⟨[(1,.sl (rowF c) .an),(6,.bs (.loc 6) 1 3 0 i),(21,.sl (matF m) .an),(22,.i .i64 m.length),(23,.i .i64 i)],[((.loc 6),⟨1,.own,3,rowF (fzs (applyQ (m.take i) c))⟩)],3⟩
def mulM(a b:List (List Fz)):List (List Fz):=a.map fun r=>fzs (leftQ r b)
def stGrM(a m:List (List Fz))(i:Nat):St:=⟨[(1,.sl (matF m) .an),(6,.bs (.loc 6) 1 1 0 i),(26,.sl (matF a) .an),(27,.i .i64 a.length),(28,.i .i64 i)],[((.loc 6),⟨1,.own,1,matF (mulM (a.take i) m)⟩)],3⟩
def addM(a b:List (List Fz)):List (List Fz):=List.zipWith (fun r s=>fzs (addP (r.map fv) s)) a b
def stGrP(a m:List (List Fz))(i:Nat):St:=⟨[(1,.sl (matF m) .an),(6,.bs (.loc 6) 1 1 0 i),(33,.sl (matF a) .an),(34,.i .i64 a.length),(35,.i .i64 i)],[((.loc 6),⟨1,.own,1,matF (addM (a.take i) (m.take i))⟩)],3⟩
end
def dotR:List Rat→List Rat→Rat
 | x::a,y::b=>x*y+dotR a b
 | _,_=>0
def valM(m:List (List Fz)):List (List Rat):=m.map fun r=>r.map fv
def fzM(L:List (List Rat)):List (List Fz):=L.map fzs
def widthQ:List (List Rat)→Nat
 | []=>0
 | r::_=>r.length
def rightQ(L:List (List Rat)):Bool:=L.all fun r=>decide (r.length=widthQ L)
def colQ(L:List (List Rat))(j:Nat):List Rat:=L.map fun p=>p.getD j 0
def turnQ(L:List (List Rat)):List (List Rat):=(List.range (widthQ L)).map (colQ L)
def applyR(L:List (List Rat))(c:List Rat):List Rat:=L.map fun p=>dotR p c
def leftR(r:List Rat)(L:List (List Rat)):List Rat:=applyR (turnQ L) r
def absQ(q:Rat):Rat:=if q<0 then -q else q
def sclR(c:Rat)(l:List Rat):List Rat:=l.map fun x=>c*x
def addR(a b:List Rat):List Rat:=List.zipWith (· + ·) a b
def maxStep(b x:Rat):Rat:=if b<absQ x then absQ x else b
def normR(l:List Rat):Rat:=l.foldl maxStep 0
def mixR:List (Rat×List Rat)→List Rat→List Rat
 | [],acc=>acc
 | p::l,acc=>mixR l (addR acc (sclR p.1 p.2))
def sqC:List UInt32→Nat
 | []=>0
 | x::r=>4294967296*(x.toNat*val r)+4294967296*4294967296*sqC r
def sqD:List UInt32→Nat
 | []=>0
 | x::r=>x.toNat*x.toNat+4294967296*4294967296*sqD r
section
variable{T:Tbl}[CLimb T][CNat T][CProd T][CTwos T][CPow T]
theorem zor(a:List UInt32)(ha:a.length≤1000000):callF T 356 [.sl (u32s a) .an]=some (.i .i64 (blen (val a))):=by
 have h1:=zbn (T:=T) a (by omega)
 have hl:=zad a
 have hv:val (ofN (val a))=val a:=zaf _
 rw[f356 _ rfl,b356]
 by_cases h0:val a=0
 ·have e:ofN (val a)=[]:=zbb.2 h0
  have eb:blen (val a)=0:=by rw[h0];rfl
  rw[e]at h1
  rw[eb]
  simp -implicitDefEqProofs[h1]
 ·have hne:ofN (val a)≠[]:=fun h=>h0 (zbb.1 h)
  obtain⟨B,x,hB⟩:∃B x,ofN (val a)=B++[x]:=⟨_,_,(List.dropLast_concat_getLast hne).symm⟩
  have hx0:x.toNat≠0:=by
   intro hx
   have e1:val (ofN (val a))=val B:=by
    rw[hB,zaj]
    simp[hx]
   have e2:ofN (val B)=ofN (val a):=by rw[←e1,zaf]
   have e3:=zad B
   rw[e2,hB]at e3
   simp at e3
   omega
  have hlog:blen (val a)=32*B.length+blen x.toNat:=by
   have hdiv:val a/2^(32*B.length)=x.toNat:=by
    have e1:val a=val B+4294967296^B.length*x.toNat:=by
     rw[←hv,hB,zaj]
     simp
    have e2:2^(32*B.length)=4294967296^B.length:=by
     rw[Nat.pow_mul]
    have e3:=za5 B
    rw[e2,e1,Nat.add_mul_div_left _ _ (by omega),Nat.div_eq_of_lt e3,Nat.zero_add]
   have:=ziy (n:=val a) (s:=32*B.length) (by rw[hdiv];exact hx0)
   rw[hdiv]at this
   exact this
  have hbl:B.length+1≤1000000:=by
   have:=congrArg List.length hB
   simp at this
   omega
  have hL:=zop (T:=T) x
  have hb32:blen x.toNat≤32:=by
   have hx:=zam x
   unfold blen
   split
   ·omega
   ·have:=(Nat.log2_lt (n:=x.toNat) (k:=32) (by assumption)).2 (by omega)
    omega
  rw[hB]at h1
  rw[hlog]
  have w1:IntKind.wrap .i64 ((B.length:Int)+1-1)=(B.length:Int):=by
   rw[Int.add_sub_cancel]
   exact zac _ (by omega)
  have w2:IntKind.wrap .i64 (32*(B.length:Int))=32*(B.length:Int):=zac _ (by omega)
  have w3:IntKind.wrap .i64 (32*(B.length:Int)+(blen x.toNat:Int))=32*(B.length:Int)+(blen x.toNat:Int):=zac _ (by omega)
  have w4:IntKind.wrap .i64 (B.length:Int)=B.length:=zac _ (by omega)
  have n1:¬ (B.length:Int)+1=0:=by omega
  have n2:(B.length:Int)<(B.length:Int)+1:=by omega
  clear hlog hB hne hb32
  simp -implicitDefEqProofs[h1,hL,w1,w2,w3,w4,n1,n2]
def stSqA(a X:List UInt32)(i:Nat):St:=
 ⟨[(0,.sl (u32s a) .an),(3,.bs (.loc 14) 1 1 0 (2*a.length+1)),(15,.sl (u32s a) .an),(16,.i .i64 a.length),(17,.i .i64 i)],[(.loc 14,⟨1,.own,1,u32s (X++List.replicate (a.length+1-i) 0)⟩)],3⟩
def stSqD(a X:List UInt32)(U:List (List AV))(i:Nat):St:=
 ⟨[(6,.sl U .an),(7,.bs (.loc 38) 1 1 0 (2*a.length)),(39,.sl (u32s a) .an),(40,.i .i64 a.length),(41,.i .i64 i)],[(.loc 38,⟨1,.own,1,u32s (X++List.replicate (2*a.length-2*i) 0)⟩)],3⟩
end
section
variable{T:Tbl}[CRef02 T][CRef04 T][CRef05 T][CRef07 T][CRef06 T][CRef08 T][CRef09 T][CRef11 T][CRef12 T]
def stR12(m:List (List Fz))(i:Nat):St:=⟨[(0,.sl (matF m) .an),(3,.i .i64 i)],[],2⟩
def stN12(m:List (List Fz))(i:Nat):St:=⟨[(0,.sl (matF m) .an),(3,.bs (.loc 3) 1 1 0 i),(4,.i .i64 i)],[((.loc 3),⟨1,.own,1,matF (fzM (valM (m.take i)))⟩)],3⟩
def stS12(a b:List (List Fz))(i:Nat):St:=⟨[(0,.sl (matF a) .an),(1,.sl (matF b) .an),(5,.i .i64 i)],[],2⟩
def stI12(n:Int)(k:Nat)(i:Nat):St:=⟨[(0,.i .i64 n),(3,.bs (.loc 3) 1 1 0 i),(4,.i .i64 i)],[((.loc 3),⟨1,.own,1,matF (idQ k i)⟩)],3⟩
def stT12i(L:List (List Rat))(R:List (List Fz))(j:Nat)(i:Nat):St:=⟨[(0,.sl (matF (fzM L)) .an),(3,.bs (.loc 3) 1 1 0 j),(4,.i .i64 j),(5,.bs (.loc 5) 2 3 0 i),(6,.i .i64 i)],[(.loc 3,⟨1,.own,1,matF R⟩),((.loc 5),⟨2,.own,3,rowF (fzs (colQ (L.take i) j))⟩)],4⟩
def stT12o(L:List (List Rat))(i:Nat):St:=⟨[(0,.sl (matF (fzM L)) .an),(3,.bs (.loc 3) 1 1 0 i),(4,.i .i64 i)],[((.loc 3),⟨1,.own,1,matF (fzM ((List.range i).map (colQ L)))⟩)],3⟩
def stA12(L:List (List Rat))(c:List Rat)(i:Nat):St:=⟨[(0,.sl (matF (fzM L)) .an),(1,.sl (rowF (fzs c)) .an),(5,.bs (.loc 5) 1 3 0 i),(6,.i .i64 i)],[((.loc 5),⟨1,.own,3,rowF (fzs (applyR (L.take i) c))⟩)],3⟩
def longM(m:List (List Fz))(many words:Nat):Bool:=decide (many<m.length) || m.any fun r=>longB r many words
def stL12(m:List (List Fz))(many words:Nat)(i:Nat):St:=⟨[(0,.sl (matF m) .an),(1,.i .i64 many),(2,.i .i64 words),(7,.i .i64 i)],[],2⟩
end
theorem zll{l:List Rat}{B:Nat}(h:∀q∈l,sz q≤B):∀x∈fzs l,fsz x≤B:=by
 intro x hx
 obtain⟨q,hq,rfl⟩:=List.mem_map.1 hx
 exact h q hq
theorem zz8{l:List Fz}{B:Nat}(hB:1≤B)(h:∀x∈l,fsz x≤B):∀q∈l.map fv,sz q≤B:=by
 intro q hq
 obtain⟨x,hx,rfl⟩:=List.mem_map.1 hq
 exact zbs (h x hx) hB
section
variable{T:Tbl}[CNat T][CProd T][CTwos T][CQuot T][CQuotD T][CText T][CWhole T][CCommon T][CFrac T][CJoin T][CRow T][CGrid T][CRef02 T][CRef04 T][CRef05 T][CRef07 T][CRef06 T][CRef08 T][CRef09 T][CRef11 T][CRef12 T][CLaw09 T][CLaw11 T][CLaw12 T]
def stTo12(m:List (List Fz))(i:Nat):St:=⟨[(0,.sl (matF m) .an),(3,.bs (.loc 3) 1 1 0 i),(4,.i .i64 i)],[((.loc 3),⟨1,.own,1,matF (m.take i)⟩)],3⟩
theorem zth(m:List (List Fz))(hl:m.length≤1000000)(hw:∀r∈m,r.length≤1000000) :
  loopN T 0 0 (.norm false [3]) l308_0 (stTo12 m 0)=some (.n,⟨[(3,.bs (.loc 3) 1 1 0 (m.length))],[((.loc 3),⟨1,.own,1,matF (m.take (m.length))⟩)],3⟩):=by
 refine zaq (stTo12 m) (m.length) _ (fun i hi=>?_) ?_
 ·have hws:=za9 hi (by omega)
  have hb:i≤4294967295:=by omega
  have hg:m[i]? = some (m[i]'hi):=List.getElem?_eq_getElem hi
  have hn:=zdn (T:=T) (m[i]'hi) (Nat.le_trans (hw _ (List.getElem_mem hi)) (by decide))
  have e:=zfi m hi
  have hml:(m.take i).length=i:=by simp;omega
  have hp:=zhn hml (m[i]'hi)
  unfold stTo12
  rw[e]
  clear e
  clear hw
  simp -implicitDefEqProofs[l308_0,hi,hws,hb,hp,hml,hg,hn]
 ·unfold stTo12
  rw[List.take_of_length_le (Nat.le_refl _)]
  constructor<;>simp -implicitDefEqProofs[l308_0]
theorem zwb(m:List (List Fz))(hl:m.length≤1000000)(hw:∀r∈m,r.length≤1000000):callF T 308 [.sl (matF m) .an]=some (.sl (matF m) .an):=by
 have h:=zth (T:=T) m hl hw
 unfold stTo12 at h
 rw[List.take_zero,List.take_of_length_le (Nat.le_refl _)]at h
 simp only[zo7,Int.natCast_zero]at h
 have ht:List.take m.length m=m:=List.take_of_length_le (Nat.le_refl _)
 rw[f308 _ rfl,b308]
 clear hw
 simp -implicitDefEqProofs[h,ht]
def stI12s(a b:List (List Fz))(i:Nat):St:=⟨[(0,.sl (matF a) .an),(1,.sl (matF b) .an),(5,.i .i64 i)],[],2⟩
theorem sz3:sz 3≤1:=by
 unfold sz
 rw[show (3:Rat).num=3 from rfl,show (3:Rat).den=1 from rfl,zdv,show (3:Int).natAbs=3 from rfl]
 exact Nat.max_le.2 ⟨zal (by decide),Nat.le_refl _⟩
theorem zz9{q:Rat}(h1:q.num.natAbs<4294967296)(h2:q.den<4294967296):sz q≤1:=Nat.max_le.2 ⟨zal (by simpa using h1),zal (by simpa using h2)⟩
theorem zlm(n:Nat)(h:n<10):textQ (n:Rat)=[UInt8.ofNat (48+n)]:=by
 unfold textQ
 rw[if_pos (Rat.den_natCast n),Rat.num_natCast]
 unfold textZ
 rw[if_neg (by omega),Int.natAbs_natCast,zdt h]
end
class CPoly (T:Tbl):Prop where
def tlen(l:List Rat):Nat→Nat
 | 0=>0
 | n+1=>if l.getD n 0=0 then tlen l n else n+1
def trimR(l:List Rat):List Rat:=l.take (tlen l l.length)
section
variable{T:Tbl}[CNat T][CProd T][CTwos T][CQuot T][CQuotD T][CText T][CWhole T][CCommon T][CFrac T][CJoin T][CRow T][CPoly T]
def evlR:List Rat→Rat→Rat
 | [],_=>0
 | a::l,x=>evlR l x*x+a
def dif(l:List Rat):List Rat:=(List.range (l.length-1)).map fun(i:Nat)=>(((i:Int)+1:Int):Rat)*l.getD (i+1) 0
def stDf(l:List Fz)(i:Nat):St:=⟨[(0,.sl (rowF l) .an),(3,.bs (.loc 3) 1 3 0 i),(4,.i .i64 ((i:Int)+1))],[((.loc 3),⟨1,.own,3,rowF (fzs ((dif (l.map fv)).take i))⟩)],3⟩
end
def sizF(x:Fz):Nat:=blen (val x.2.1)+blen (val x.2.2)
def sizL(l:List Fz):Nat:=l.foldl (fun n x=>max n (sizF x)) 0
theorem zot{x k:Nat}(h:(ofN x).length≤k):blen x≤32*k:=by
 unfold blen
 split
 ·omega
 ·next h0=>
  have h1:=za5 (ofN x)
  rw[zaf]at h1
  have h2:4294967296^(ofN x).length≤4294967296^k:=Nat.pow_le_pow_right (by decide) h
  have h3:(4294967296:Nat)^k=2^(32*k):=by rw[Nat.pow_mul]
  have:=(Nat.log2_lt (n:=x) (k:=32*k) h0).2 (by omega)
  omega
section
variable{T:Tbl}[CLimb T][CNat T][CProd T][CTwos T][CQuot T][CQuotD T][CText T][CWhole T][CCommon T][CFrac T][CFrac2 T][CFrac5 T][CPow T][CJoin T][CRow T][CRow5 T]
def bestI(b c:Rat)(i:Nat):Rat:=if i=0 then 0 else if i=1 then b else (if b<c then c else b)
def stMx(b c:Rat)(i:Nat):St:=⟨[(2,.ptr (.loc 2) 1 3 0 0),(3,.ptr (.loc 3) 2 3 0 0),(7,.sl [celF (fz b),celF (fz c)] .an),(8,.i .i64 2),(9,.i .i64 i)],
 [(.loc 2,⟨1,.str,3,[nocell]⟩),(.loc 3,⟨2,.str,3,[celF (fz (bestI b c i))]⟩)],4⟩
def stRn(l:List Fz)(i:Nat):St:=⟨[(2,.ptr (.loc 2) 1 3 0 0),(3,.ptr (.loc 3) 2 3 0 0),(7,.sl (rowF l) .an),(8,.i .i64 l.length),(9,.i .i64 i)],
 [(.loc 2,⟨1,.str,3,[nocell]⟩),(.loc 3,⟨2,.str,3,[celF (fz (normR ((l.map fv).take i)))]⟩)],4⟩
def stRs(l:List Fz)(i:Nat):St:=⟨[(3,.i .i64 (sizL (l.take i))),(6,.sl (rowF l) .an),(7,.i .i64 l.length),(8,.i .i64 i)],[],2⟩
end
section
variable{T:Tbl}[CRef02 T][CRef04 T][CRef05 T][CRef07 T][CRef06 T][CRef08 T][CRef09 T][CRef11 T][CRef5 T]
def stSc(c:Rat)(p:List Rat)(i:Nat):St:=⟨[(1,.sl (rowF (fzs p)) .an),(2,.ptr (.loc 2) 1 3 0 0),(5,.bs (.loc 5) 2 3 0 i),(6,.i .i64 i)],
 [(.loc 2,⟨1,.str,3,[celF (fz c)]⟩),(.loc 5,⟨2,.own,3,rowF (fzs ((sclR c p).take i))⟩)],4⟩
def stRx(p:List Rat)(i:Nat):St:=⟨[(0,.sl (rowF (fzs p)) .an),(2,.ptr (.loc 2) 1 3 0 0),(3,.ptr (.loc 3) 2 3 0 0),(4,.i .i64 i)],
 [(.loc 2,⟨1,.str,3,[nocell]⟩),(.loc 3,⟨2,.str,3,[celF (fz (normR (p.take i)))]⟩)],4⟩
end
end Go.Ab