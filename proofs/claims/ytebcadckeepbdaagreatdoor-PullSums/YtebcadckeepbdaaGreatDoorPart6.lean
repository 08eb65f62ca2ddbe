/-
  A calculus of values, boxes and code, and what functions of the program compute, proved in it.
  Conditions: none beyond those that the theorems state. (Part 6.)
-/
import Derived.Test.YtebcadckeepbdaaGreatDoorPart5
import Derived.Test.YtebcadckeepbdaaGreatDoorProg
import Derived.KernelRfl
import Derived.Shelf.RegionOpenPlain
import Derived.Lib.Strings
import Derived.Lib.Slices
import Derived.Lib.Walk
import Derived.Lib.Builder
import Derived.Lib.AppendStr
import Derived.Lib.UnsafeStr
import Derived.Lib.MakeNoZero
import Derived.WalkKit
import Derived.Laws.Externs
import Derived.Laws.IdiomCopy
import Derived.Laws.BitsLemmas
import GoSem.Claims
import Derived.Deep.LoopGhost
import Derived.Shelf.Strings.Builder1
import Derived.Shelf.Strings.Builder2
import Derived.Shelf.Strings.OnBuilder
import Derived.ProofKit
import Derived.OpenShut

set_option linter.unusedSectionVars false
set_option linter.unusedVariables false
set_option linter.unusedSimpArgs false
set_option linter.unnecessarySimpa false

section
namespace Go.Proofs.YtebcadckeepbdaaGreatDoor
open Go Go.Ab
set_option maxRecDepth 100000
def nus:List (Nat×Nat):=[(23,63),(24,40),(25,113),(27,98),(34,88),(37,59),(38,95),(39,69),(40,110),(41,56),(43,41),(52,70),(54,66),(55,85),(56,96),(57,97),(58,67),(59,71),(60,65),(61,39),(62,121),(63,75),(68,90),(70,87),(71,100),(72,57),(73,138),(84,101),(85,122),(86,86),(87,89),(88,123),(89,99),(90,114),(91,129),(93,141),(94,142),(95,104),(96,105),(97,73),(101,115),(103,116),(106,125),(115,143),(116,144),(117,124),(118,131),(119,151),(120,152),(121,153),(122,126),(125,132),(126,133),(127,134),(128,135),(183,61),(198,139),(199,119),(200,120),(201,94),(202,62),(203,58),(205,27),(207,51),(208,155),(209,28),(210,64),(213,80),(215,30),(216,190),(217,81),(218,111),(219,130),(220,112),(223,78),(224,102),(225,103),(226,72),(227,74),(228,43),(229,42),(230,44),(231,15),(232,37),(233,32),(239,14),(247,5),(248,31),(249,34),(251,60),(263,36),(267,23),(274,29),(276,38),(278,17),(279,33),(280,16),(286,6),(287,22),(288,35),(353,68),(356,109),(374,3),(384,47),(390,7),(391,8),(392,9),(393,10),(394,11),(395,12),(396,13),(397,24),(405,76),(406,49),(407,77),(410,48),(411,50),(412,52),(413,53),(414,54),(420,106),(421,107),(422,108),(426,79),(427,82),(428,83),(430,127),(431,128),(433,145),(434,146),(435,147),(437,154),(438,156),(439,157),(441,182),(442,183),(443,184),(444,185),(445,186),(446,187),(447,188),(448,189),(2043,41),(2071,100),(2092,140),(2097,73),(2106,125),(2263,36),(2266,46),(2395,12)]
def nu(u:Nat):FuncId:=(nus.lookup u).getD 0
def row115:AFx:=⟨3,26,[.t 6,.t 7],b115,none,false⟩
def row116:AFx:=⟨3,25,[.t 6,.t 7],b116,none,false⟩
def row117:AFx:=⟨4,27,[.t 8,.t 9],b117,none,false⟩
def row118:AFx:=⟨3,29,[.t 6,.t 7,.t 8],b118,none,false⟩
def row91:AFx:=⟨1,23,[.t 2],b91,none,false⟩
def row86:AFx:=⟨1,21,[.t 2],b86,none,false⟩
def row106:AFx:=⟨2,15,[.t 4],b106,none,false⟩
def row71:AFx:=⟨1,6,[.t 2],b71,none,false⟩
def row72:AFx:=⟨1,10,[.t 2],b72,none,false⟩
def row73:AFx:=⟨1,28,[.t 2,.t 3],b73,none,false⟩
def row70:AFx:=⟨1,7,[.t 2],b70,none,false⟩
def row87:AFx:=⟨2,49,[.t 4],b87,none,false⟩
def row85:AFx:=⟨2,52,[.t 4],b85,none,false⟩
def row56:AFx:=⟨1,18,[.t 2],b56,none,false⟩
def row88:AFx:=⟨2,49,[.t 4,.t 5],b88,none,false⟩
def row57:AFx:=⟨2,24,[.t 4,.t 5],b57,none,false⟩
def row2106:AFx:=⟨2,15,[.t 4],b2106,(some [false,false]),false⟩
def row89:AFx:=⟨5,45,[],b89,(some [true,false,false,false,false]),false⟩
def row60:AFx:=⟨2,30,[.t 4],b60,none,false⟩
def row92:AFx:=⟨2,57,[.t 4],b92,none,false⟩
def row94:AFx:=⟨2,65,[.t 4],b94,none,false⟩
def row90:AFx:=⟨2,37,[.t 4,.t 5,.t 6],b90,none,false⟩
def row119:AFx:=⟨5,76,[.t 10],b119,none,false⟩
def row120:AFx:=⟨4,66,[.t 8],b120,(some [true,false,false,false]),false⟩
def row121:AFx:=⟨3,44,[],b121,(some [true,false,false]),false⟩
def row93:AFx:=⟨2,70,[.t 4],b93,(some [true,false]),false⟩
def row2071:AFx:=⟨1,6,[.t 2],b2071,(some [false]),false⟩
def row2092:AFx:=⟨2,57,[.t 4],b2092,(some [false,false]),false⟩
def row62:AFx:=⟨2,65,[.t 4,.t 5,.t 6],b62,none,false⟩
def row101:AFx:=⟨1,19,[.t 2],b101,none,false⟩
def row68:AFx:=⟨0,0,[],.prim prim68,none,false⟩
def row103:AFx:=⟨2,37,[.t 4],b103,none,false⟩
def row125:AFx:=⟨2,17,[.t 4],b125,none,false⟩
def row55:AFx:=⟨2,13,[.cell 4 (some 2)],b55,none,false⟩
def row38:AFx:=⟨1,9,[.cell 2 (some 2)],b38,none,false⟩
def row40:AFx:=⟨1,10,[.cell 2 (some 2)],b40,none,false⟩
def row23:AFx:=⟨2,39,[.cell 4 (some 2)],b23,none,false⟩
def row25:AFx:=⟨2,9,[.cell 4 (some 2)],b25,none,false⟩
def row27:AFx:=⟨2,16,[.cell 4 (some 2)],b27,none,false⟩
def row37:AFx:=⟨1,10,[.t 2],b37,none,false⟩
def row41:AFx:=⟨1,14,[.cell 2 (some 2)],b41,none,false⟩
def row34:AFx:=⟨1,13,[.t 2],b34,none,false⟩
def row198:AFx:=⟨2,12,[.t 4],b198,none,false⟩
def row199:AFx:=⟨2,56,[.t 4],b199,none,false⟩
def row200:AFx:=⟨1,12,[.t 2],b200,none,false⟩
def row201:AFx:=⟨2,37,[.t 4,.t 5],b201,none,false⟩
def row202:AFx:=⟨2,21,[.cell 4 (some 3)],b202,none,false⟩
def row203:AFx:=⟨1,13,[.cell 2 (some 2),.t 3],b203,none,false⟩
def row205:AFx:=⟨1,7,[.cell 2 (some 3)],b205,none,false⟩
def row207:AFx:=⟨1,8,[.cell 2 (some 3)],b207,none,false⟩
def row209:AFx:=⟨1,12,[.t 2],b209,none,false⟩
def row210:AFx:=⟨2,9,[.cell 4 (some 2)],b210,none,false⟩
def row213:AFx:=⟨1,11,[.cell 2 (some 3)],b213,none,false⟩
def row215:AFx:=⟨2,30,[.cell 4 (some 3)],b215,none,false⟩
def row216:AFx:=⟨2,30,[.cell 4 (some 3)],b216,none,false⟩
def row217:AFx:=⟨2,26,[.cell 4 (some 3)],b217,none,false⟩
def row218:AFx:=⟨2,40,[.cell 4 (some 3),.t 5],b218,none,false⟩
def row208:AFx:=⟨1,51,[.t 2],b208,none,false⟩
def row219:AFx:=⟨2,15,[.t 4],b219,none,false⟩
def row220:AFx:=⟨2,58,[.cell 4 (some 3),.t 5],b220,none,false⟩
def row223:AFx:=⟨1,11,[.t 2],b223,none,false⟩
def row356:AFx:=⟨1,20,[.t 2],b356,none,false⟩
def row183:AFx:=⟨0,0,[],.prim prim183,none,false⟩
def row251:AFx:=⟨1,21,[.t 2],b251,none,false⟩
def row263:AFx:=⟨1,20,[.t 2],b263,none,false⟩
def row266:AFx:=⟨1,19,[.t 2],b266,none,false⟩
def row267:AFx:=⟨1,47,[.t 2,.t 3],b267,none,false⟩
def row274:AFx:=⟨1,20,[.t 2],b274,none,false⟩
def row2263:AFx:=⟨1,20,[.t 2],b2263,(some [false]),false⟩
def row2266:AFx:=⟨1,19,[.t 2],b2266,(some [false]),false⟩
def row43:AFx:=⟨1,23,[.t 2],b43,none,false⟩
def row84:AFx:=⟨2,13,[.t 4],b84,none,false⟩
def row52:AFx:=⟨2,30,[.t 4],b52,none,false⟩
def row54:AFx:=⟨2,26,[.t 4],b54,none,false⟩
def row58:AFx:=⟨2,43,[.t 4],b58,none,false⟩
def row59:AFx:=⟨2,47,[.t 4],b59,none,false⟩
def row61:AFx:=⟨2,68,[.t 4],b61,none,false⟩
def row122:AFx:=⟨2,32,[.t 4],b122,none,false⟩
def row95:AFx:=⟨1,19,[.t 2],b95,none,false⟩
def row96:AFx:=⟨2,30,[],b96,(some [true,false]),false⟩
def row97:AFx:=⟨2,37,[],b97,(some [true,false]),false⟩
def row63:AFx:=⟨2,54,[.t 4,.t 5],b63,none,false⟩
def row224:AFx:=⟨1,14,[.t 2],b224,none,false⟩
def row225:AFx:=⟨2,56,[.t 4],b225,(some [true,false]),false⟩
def row226:AFx:=⟨1,24,[.t 2,.t 3],b226,(some [true]),false⟩
def row227:AFx:=⟨2,17,[.t 4],b227,none,false⟩
def row228:AFx:=⟨2,56,[.t 4],b228,none,false⟩
def row229:AFx:=⟨1,12,[.t 2],b229,none,false⟩
def row230:AFx:=⟨2,18,[.t 4],b230,none,false⟩
def row2097:AFx:=⟨2,37,[],b2097,(some [true,true]),false⟩
def row2043:AFx:=⟨1,23,[.t 2],b2043,(some [false]),false⟩
def row39:AFx:=⟨1,16,[.cell 2 (some 2)],b39,none,false⟩
def row24:AFx:=⟨2,43,[.cell 4 (some 2)],b24,none,false⟩
def row231:AFx:=⟨1,40,[.cell 2 (some 3)],b231,none,false⟩
def row232:AFx:=⟨1,21,[.cell 2 (some 3)],b232,none,false⟩
def row233:AFx:=⟨2,24,[.t 4],b233,none,false⟩
def row239:AFx:=⟨2,38,[.cell 4 (some 3)],b239,none,false⟩
def row247:AFx:=⟨2,17,[.t 4],b247,none,false⟩
def row353:AFx:=⟨1,11,[.t 2],b353,none,false⟩
def row276:AFx:=⟨1,19,[.t 2],b276,none,false⟩
def row278:AFx:=⟨1,20,[.t 2],b278,none,false⟩
def row279:AFx:=⟨2,27,[.t 4],b279,none,false⟩
def row280:AFx:=⟨2,26,[.t 4],b280,none,false⟩
def row286:AFx:=⟨3,29,[.t 6],b286,none,false⟩
def row248:AFx:=⟨1,11,[.cell 2 (some 3)],b248,none,false⟩
def row249:AFx:=⟨1,12,[.cell 2 (some 3)],b249,none,false⟩
def row287:AFx:=⟨1,20,[.t 2],b287,none,false⟩
def row288:AFx:=⟨1,20,[.t 2],b288,none,false⟩
def row421:AFx:=⟨1,6,[.t 2],b421,none,false⟩
def row430:AFx:=⟨1,38,[.t 2],b430,none,false⟩
def row433:AFx:=⟨1,26,[.t 2],b433,none,false⟩
def row434:AFx:=⟨2,92,[.t 4],b434,none,false⟩
def row435:AFx:=⟨2,12,[.t 4],b435,none,false⟩
def row437:AFx:=⟨1,10,[.cell 2 (some 3)],b437,none,false⟩
def row438:AFx:=⟨1,20,[.t 2],b438,none,false⟩
def row439:AFx:=⟨1,21,[.t 2],b439,none,false⟩
def row406:AFx:=⟨1,8,[.t 2],b406,(some [false]),false⟩
def row411:AFx:=⟨2,19,[.t 4],b411,(some [true,false]),false⟩
def row426:AFx:=⟨2,20,[],b426,(some [true,false]),false⟩
def row413:AFx:=⟨2,23,[.t 4,.t 5],b413,(some [true,false]),false⟩
def row405:AFx:=⟨1,13,[.cell 2 (some 5)],b405,none,false⟩
def row420:AFx:=⟨1,19,[.t 2],b420,none,false⟩
def row384:AFx:=⟨3,27,[.t 6,.cell 7 (some 4)],b384,none,false⟩
def row407:AFx:=⟨3,70,[.t 6,.cell 7 (some 4)],b407,(some [true,false,false]),false⟩
def row422:AFx:=⟨4,108,[.cell 8 (some 3),.t 9],b422,none,false⟩
def row431:AFx:=⟨3,35,[.cell 6 (some 3)],b431,none,false⟩
def row441:AFx:=⟨3,10,[.cell 6 (some 3)],b441,none,false⟩
def row442:AFx:=⟨2,9,[.t 4],b442,(some [true,false]),false⟩
def row443:AFx:=⟨3,10,[.cell 6 (some 3)],b443,none,false⟩
def row444:AFx:=⟨2,7,[.cell 4 (some 3)],b444,none,false⟩
def row445:AFx:=⟨2,7,[.cell 4 (some 3)],b445,none,false⟩
def row446:AFx:=⟨3,13,[.cell 6 (some 3),.t 7],b446,none,false⟩
def row447:AFx:=⟨3,13,[.cell 6 (some 3),.t 7],b447,none,false⟩
def row448:AFx:=⟨3,10,[.cell 6 (some 3)],b448,none,false⟩
def row1000001:AFx:=⟨140,0,meths1,.bad,none,false⟩
def row391:AFx:=⟨2,43,[.cell 4 (some 5),.t 5],b391,none,false⟩
def row395:AFx:=⟨2,11,[.cell 4 (some 5)],b395,none,false⟩
def row397:AFx:=⟨4,115,[.cell 8 (some 5),.cell 9 (some 4)],b397,none,false⟩
def row410:AFx:=⟨3,21,[],b410,(some [true,false,false]),false⟩
def row412:AFx:=⟨2,170,[],b412,(some [true,false]),false⟩
def row414:AFx:=⟨1,14,[.t 2],b414,none,false⟩
def row427:AFx:=⟨4,36,[],b427,(some [true,false,false,false]),false⟩
def row428:AFx:=⟨4,57,[],b428,(some [true,false,false,false]),false⟩
def row2395:AFx:=⟨2,11,[.cell 4 (some 5)],b2395,(some [false,false]),false⟩
def row374:AFx:=⟨3,113,[.t 6],b374,none,false⟩
def row390:AFx:=⟨0,45,[.t 0],b390,none,false⟩
def row392:AFx:=⟨1,13,[.cell 2 (some 5)],b392,none,false⟩
def row393:AFx:=⟨2,24,[.t 4],b393,none,false⟩
def row394:AFx:=⟨1,13,[.cell 2 (some 5)],b394,none,false⟩
def row396:AFx:=⟨2,11,[.cell 4 (some 5)],b396,none,false⟩
def RowOk(P:Program)(ν:Nat→FuncId)(τ:Nat→Nat)(u:Nat)(af:AFx):Prop:=
 match af.body.isPrim with
 | some f=>∀xs r,f xs=some r→PCall P (ν u) xs (·=r)
 | none=>if af.body.isBad=true then ∀m∈methsA af,methOf P af.np m.1=some (ν m.2) else resFn P (ν u)=some (erF ν τ af)
theorem ok_pr{P:Program}{ν:Nat→FuncId}{τ:Nat→Nat}{u:Nat}{af:AFx}{f:List AV→Option AV}(h0:af.body.isPrim=some f)(h:∀xs r,f xs=some r→PCall P (ν u) xs (·=r)):RowOk P ν τ u af:=by unfold RowOk;rw[h0];exact h
theorem ok_fn{P:Program}{ν:Nat→FuncId}{τ:Nat→Nat}{u:Nat}{af:AFx}(h0:af.body.isPrim=none)(h1:af.body.isBad=false)(h:resFn P (ν u)=some (erF ν τ af)):RowOk P ν τ u af:=by unfold RowOk;rw[h0];simp only[h1];exact h
theorem ok_ty{P:Program}{ν:Nat→FuncId}{τ:Nat→Nat}{u:Nat}{af:AFx}(h0:af.body.isPrim=none)(h1:af.body.isBad=true)(h:((methsA af).all fun m=>methOf P af.np m.1 == some (ν m.2))=true):RowOk P ν τ u af:=by unfold RowOk;rw[h0];simp only[h1,if_true];exact fun m hm=>eq_of_beq (List.all_eq_true.1 h m hm)
theorem ok_cons{P:Program}{ν:Nat→FuncId}{τ:Nat→Nat}{u:Nat}{af:AFx}{l:List (Nat×AFx)}(h:RowOk P ν τ u af)(hl:∀p∈l,RowOk P ν τ p.1 p.2) :
  ∀p∈(u,af)::l,RowOk P ν τ p.1 p.2:=by
 intro p hp
 rcases List.mem_cons.1 hp with rfl | hp
 ·exact h
 ·exact hl p hp
theorem ok_lookup{P:Program}{ν:Nat→FuncId}{l:List (Nat×AFx)}(hl:∀p∈l,RowOk P ν (tyNum fun u=>l.lookup u) p.1 p.2):TOk P ν (fun u=>l.lookup u):=fun _ _ h=>hl _ (zdg h)
theorem sub_cons{l l2:List (Nat×AFx)}{u:Nat}{af:AFx}(h:l.lookup u=some af)(h2:∀p∈l2,l.lookup p.1=some p.2):∀p∈(u,af)::l2,l.lookup p.1=some p.2:=by
 intro p hp
 rcases List.mem_cons.1 hp with rfl | hp
 ·exact h
 ·exact h2 p hp
def gTab:List (Nat×AFx):=[(115,row115),(116,row116),(117,row117),(118,row118),(91,row91),(86,row86),(106,row106),(71,row71),(72,row72),(73,row73),(70,row70),(87,row87),(85,row85),(56,row56),(88,row88),(57,row57),(2106,row2106),(89,row89),(60,row60),(92,row92),(94,row94),(90,row90),(119,row119),(120,row120),(121,row121),(93,row93),(2071,row2071),(2092,row2092),(62,row62),(101,row101),(68,row68),(103,row103),(125,row125),(55,row55),(38,row38),(40,row40),(23,row23),(25,row25),(27,row27),(37,row37),(41,row41),(34,row34),(198,row198),(199,row199),(200,row200),(201,row201),(202,row202),(203,row203),(205,row205),(207,row207),(209,row209),(210,row210),(213,row213),(215,row215),(216,row216),(217,row217),(218,row218),(208,row208),(219,row219),(220,row220),(223,row223),(356,row356),(183,row183),(251,row251),(263,row263),(266,row266),(267,row267),(274,row274),(2263,row2263),(2266,row2266),(43,row43),(84,row84),(52,row52),(54,row54),(58,row58),(59,row59),(61,row61),(122,row122),(95,row95),(96,row96),(97,row97),(63,row63),(224,row224),(225,row225),(226,row226),(227,row227),(228,row228),(229,row229),(230,row230),(2097,row2097),(2043,row2043),(39,row39),(24,row24),(231,row231),(232,row232),(233,row233),(239,row239),(247,row247),(353,row353),(276,row276),(278,row278),(279,row279),(280,row280),(286,row286),(248,row248),(249,row249),(287,row287),(288,row288),(421,row421),(430,row430),(433,row433),(434,row434),(435,row435),(437,row437),(438,row438),(439,row439),(406,row406),(411,row411),(426,row426),(413,row413),(405,row405),(420,row420),(384,row384),(407,row407),(422,row422),(431,row431),(441,row441),(442,row442),(443,row443),(444,row444),(445,row445),(446,row446),(447,row447),(448,row448),(1000001,row1000001),(391,row391),(395,row395),(397,row397),(410,row410),(412,row412),(414,row414),(427,row427),(428,row428),(2395,row2395),(374,row374),(390,row390),(392,row392),(393,row393),(394,row394),(396,row396)]
def lTab:List (Nat×AFx):=[(115,row115),(116,row116),(117,row117),(118,row118),(91,row91),(86,row86),(106,row106),(71,row71),(72,row72),(73,row73),(70,row70),(87,row87),(85,row85),(56,row56),(88,row88),(57,row57),(2106,row2106),(89,row89),(60,row60),(94,row94),(90,row90),(119,row119),(120,row120),(121,row121),(93,row93),(2071,row2071),(2092,row2092),(62,row62),(68,row68),(55,row55),(38,row38),(40,row40),(23,row23),(25,row25),(27,row27),(37,row37),(41,row41),(34,row34),(198,row198),(199,row199),(200,row200),(201,row201),(202,row202),(203,row203),(205,row205),(207,row207),(209,row209),(210,row210),(213,row213),(215,row215),(216,row216),(217,row217),(218,row218),(208,row208),(219,row219),(220,row220),(223,row223),(356,row356),(183,row183),(251,row251),(263,row263),(267,row267),(274,row274),(2263,row2263),(2266,row2266),(43,row43),(84,row84),(52,row52),(54,row54),(58,row58),(59,row59),(61,row61),(122,row122),(95,row95),(96,row96),(97,row97),(63,row63),(224,row224),(225,row225),(226,row226),(227,row227),(228,row228),(229,row229),(230,row230),(2097,row2097),(2043,row2043),(39,row39),(24,row24),(231,row231),(232,row232),(233,row233),(239,row239),(247,row247),(353,row353),(276,row276),(278,row278),(279,row279),(280,row280),(286,row286),(248,row248),(249,row249),(287,row287),(288,row288),(421,row421),(430,row430),(433,row433),(434,row434),(435,row435),(437,row437),(438,row438),(439,row439),(406,row406),(411,row411),(426,row426),(413,row413),(405,row405),(420,row420),(384,row384),(407,row407),(422,row422),(431,row431),(441,row441),(442,row442),(443,row443),(444,row444),(445,row445),(446,row446),(447,row447),(448,row448),(1000001,row1000001),(391,row391),(395,row395),(397,row397),(410,row410),(412,row412),(414,row414),(427,row427),(428,row428),(2395,row2395),(374,row374),(390,row390),(392,row392),(393,row393),(394,row394),(396,row396)]
def tab:Tbl:=fun u=>gTab.lookup u
def tau_l:Nat→Nat:=tyNum fun u=>lTab.lookup u
theorem resl_115:resFn Tryz.prog (nu 115)=some (erF nu tau_l row115):=by kernel_rfl
theorem resl_116:resFn Tryz.prog (nu 116)=some (erF nu tau_l row116):=by kernel_rfl
theorem resl_117:resFn Tryz.prog (nu 117)=some (erF nu tau_l row117):=by kernel_rfl
theorem resl_118:resFn Tryz.prog (nu 118)=some (erF nu tau_l row118):=by kernel_rfl
theorem resl_91:resFn Tryz.prog (nu 91)=some (erF nu tau_l row91):=by kernel_rfl
theorem resl_86:resFn Tryz.prog (nu 86)=some (erF nu tau_l row86):=by kernel_rfl
theorem resl_106:resFn Tryz.prog (nu 106)=some (erF nu tau_l row106):=by kernel_rfl
theorem resl_71:resFn Tryz.prog (nu 71)=some (erF nu tau_l row71):=by kernel_rfl
theorem resl_72:resFn Tryz.prog (nu 72)=some (erF nu tau_l row72):=by kernel_rfl
theorem resl_73:resFn Tryz.prog (nu 73)=some (erF nu tau_l row73):=by kernel_rfl
theorem resl_70:resFn Tryz.prog (nu 70)=some (erF nu tau_l row70):=by kernel_rfl
theorem resl_87:resFn Tryz.prog (nu 87)=some (erF nu tau_l row87):=by kernel_rfl
theorem resl_85:resFn Tryz.prog (nu 85)=some (erF nu tau_l row85):=by kernel_rfl
theorem resl_56:resFn Tryz.prog (nu 56)=some (erF nu tau_l row56):=by kernel_rfl
theorem resl_88:resFn Tryz.prog (nu 88)=some (erF nu tau_l row88):=by kernel_rfl
theorem resl_57:resFn Tryz.prog (nu 57)=some (erF nu tau_l row57):=by kernel_rfl
theorem resl_2106:resFn Tryz.prog (nu 2106)=some (erF nu tau_l row2106):=by kernel_rfl
theorem resl_89:resFn Tryz.prog (nu 89)=some (erF nu tau_l row89):=by kernel_rfl
theorem resl_60:resFn Tryz.prog (nu 60)=some (erF nu tau_l row60):=by kernel_rfl
theorem resl_94:resFn Tryz.prog (nu 94)=some (erF nu tau_l row94):=by kernel_rfl
theorem resl_90:resFn Tryz.prog (nu 90)=some (erF nu tau_l row90):=by kernel_rfl
theorem resl_119:resFn Tryz.prog (nu 119)=some (erF nu tau_l row119):=by kernel_rfl
theorem resl_120:resFn Tryz.prog (nu 120)=some (erF nu tau_l row120):=by kernel_rfl
theorem resl_121:resFn Tryz.prog (nu 121)=some (erF nu tau_l row121):=by kernel_rfl
theorem resl_93:resFn Tryz.prog (nu 93)=some (erF nu tau_l row93):=by kernel_rfl
theorem resl_2071:resFn Tryz.prog (nu 2071)=some (erF nu tau_l row2071):=by kernel_rfl
theorem resl_2092:resFn Tryz.prog (nu 2092)=some (erF nu tau_l row2092):=by kernel_rfl
theorem resl_62:resFn Tryz.prog (nu 62)=some (erF nu tau_l row62):=by kernel_rfl
theorem resl_55:resFn Tryz.prog (nu 55)=some (erF nu tau_l row55):=by kernel_rfl
theorem resl_38:resFn Tryz.prog (nu 38)=some (erF nu tau_l row38):=by kernel_rfl
theorem resl_40:resFn Tryz.prog (nu 40)=some (erF nu tau_l row40):=by kernel_rfl
theorem resl_23:resFn Tryz.prog (nu 23)=some (erF nu tau_l row23):=by kernel_rfl
theorem resl_25:resFn Tryz.prog (nu 25)=some (erF nu tau_l row25):=by kernel_rfl
theorem resl_27:resFn Tryz.prog (nu 27)=some (erF nu tau_l row27):=by kernel_rfl
theorem resl_37:resFn Tryz.prog (nu 37)=some (erF nu tau_l row37):=by kernel_rfl
theorem resl_41:resFn Tryz.prog (nu 41)=some (erF nu tau_l row41):=by kernel_rfl
theorem resl_34:resFn Tryz.prog (nu 34)=some (erF nu tau_l row34):=by kernel_rfl
theorem resl_198:resFn Tryz.prog (nu 198)=some (erF nu tau_l row198):=by kernel_rfl
theorem resl_199:resFn Tryz.prog (nu 199)=some (erF nu tau_l row199):=by kernel_rfl
theorem resl_200:resFn Tryz.prog (nu 200)=some (erF nu tau_l row200):=by kernel_rfl
theorem resl_201:resFn Tryz.prog (nu 201)=some (erF nu tau_l row201):=by kernel_rfl
theorem resl_202:resFn Tryz.prog (nu 202)=some (erF nu tau_l row202):=by kernel_rfl
theorem resl_203:resFn Tryz.prog (nu 203)=some (erF nu tau_l row203):=by kernel_rfl
theorem resl_205:resFn Tryz.prog (nu 205)=some (erF nu tau_l row205):=by kernel_rfl
theorem resl_207:resFn Tryz.prog (nu 207)=some (erF nu tau_l row207):=by kernel_rfl
theorem resl_209:resFn Tryz.prog (nu 209)=some (erF nu tau_l row209):=by kernel_rfl
theorem resl_210:resFn Tryz.prog (nu 210)=some (erF nu tau_l row210):=by kernel_rfl
theorem resl_213:resFn Tryz.prog (nu 213)=some (erF nu tau_l row213):=by kernel_rfl
theorem resl_215:resFn Tryz.prog (nu 215)=some (erF nu tau_l row215):=by kernel_rfl
theorem resl_216:resFn Tryz.prog (nu 216)=some (erF nu tau_l row216):=by kernel_rfl
theorem resl_217:resFn Tryz.prog (nu 217)=some (erF nu tau_l row217):=by kernel_rfl
theorem resl_218:resFn Tryz.prog (nu 218)=some (erF nu tau_l row218):=by kernel_rfl
theorem resl_208:resFn Tryz.prog (nu 208)=some (erF nu tau_l row208):=by kernel_rfl
theorem resl_219:resFn Tryz.prog (nu 219)=some (erF nu tau_l row219):=by kernel_rfl
theorem resl_220:resFn Tryz.prog (nu 220)=some (erF nu tau_l row220):=by kernel_rfl
theorem resl_223:resFn Tryz.prog (nu 223)=some (erF nu tau_l row223):=by kernel_rfl
theorem resl_356:resFn Tryz.prog (nu 356)=some (erF nu tau_l row356):=by kernel_rfl
theorem resl_251:resFn Tryz.prog (nu 251)=some (erF nu tau_l row251):=by kernel_rfl
theorem resl_263:resFn Tryz.prog (nu 263)=some (erF nu tau_l row263):=by kernel_rfl
theorem resl_267:resFn Tryz.prog (nu 267)=some (erF nu tau_l row267):=by kernel_rfl
theorem resl_274:resFn Tryz.prog (nu 274)=some (erF nu tau_l row274):=by kernel_rfl
theorem resl_2263:resFn Tryz.prog (nu 2263)=some (erF nu tau_l row2263):=by kernel_rfl
theorem resl_2266:resFn Tryz.prog (nu 2266)=some (erF nu tau_l row2266):=by kernel_rfl
theorem resl_43:resFn Tryz.prog (nu 43)=some (erF nu tau_l row43):=by kernel_rfl
theorem resl_84:resFn Tryz.prog (nu 84)=some (erF nu tau_l row84):=by kernel_rfl
theorem resl_52:resFn Tryz.prog (nu 52)=some (erF nu tau_l row52):=by kernel_rfl
theorem resl_54:resFn Tryz.prog (nu 54)=some (erF nu tau_l row54):=by kernel_rfl
theorem resl_58:resFn Tryz.prog (nu 58)=some (erF nu tau_l row58):=by kernel_rfl
theorem resl_59:resFn Tryz.prog (nu 59)=some (erF nu tau_l row59):=by kernel_rfl
theorem resl_61:resFn Tryz.prog (nu 61)=some (erF nu tau_l row61):=by kernel_rfl
theorem resl_122:resFn Tryz.prog (nu 122)=some (erF nu tau_l row122):=by kernel_rfl
theorem resl_95:resFn Tryz.prog (nu 95)=some (erF nu tau_l row95):=by kernel_rfl
theorem resl_96:resFn Tryz.prog (nu 96)=some (erF nu tau_l row96):=by kernel_rfl
theorem resl_97:resFn Tryz.prog (nu 97)=some (erF nu tau_l row97):=by kernel_rfl
theorem resl_63:resFn Tryz.prog (nu 63)=some (erF nu tau_l row63):=by kernel_rfl
theorem resl_224:resFn Tryz.prog (nu 224)=some (erF nu tau_l row224):=by kernel_rfl
theorem resl_225:resFn Tryz.prog (nu 225)=some (erF nu tau_l row225):=by kernel_rfl
theorem resl_226:resFn Tryz.prog (nu 226)=some (erF nu tau_l row226):=by kernel_rfl
theorem resl_227:resFn Tryz.prog (nu 227)=some (erF nu tau_l row227):=by kernel_rfl
theorem resl_228:resFn Tryz.prog (nu 228)=some (erF nu tau_l row228):=by kernel_rfl
theorem resl_229:resFn Tryz.prog (nu 229)=some (erF nu tau_l row229):=by kernel_rfl
theorem resl_230:resFn Tryz.prog (nu 230)=some (erF nu tau_l row230):=by kernel_rfl
theorem resl_2097:resFn Tryz.prog (nu 2097)=some (erF nu tau_l row2097):=by kernel_rfl
theorem resl_2043:resFn Tryz.prog (nu 2043)=some (erF nu tau_l row2043):=by kernel_rfl
theorem resl_39:resFn Tryz.prog (nu 39)=some (erF nu tau_l row39):=by kernel_rfl
theorem resl_24:resFn Tryz.prog (nu 24)=some (erF nu tau_l row24):=by kernel_rfl
theorem resl_231:resFn Tryz.prog (nu 231)=some (erF nu tau_l row231):=by kernel_rfl
theorem resl_232:resFn Tryz.prog (nu 232)=some (erF nu tau_l row232):=by kernel_rfl
theorem resl_233:resFn Tryz.prog (nu 233)=some (erF nu tau_l row233):=by kernel_rfl
theorem resl_239:resFn Tryz.prog (nu 239)=some (erF nu tau_l row239):=by kernel_rfl
theorem resl_247:resFn Tryz.prog (nu 247)=some (erF nu tau_l row247):=by kernel_rfl
theorem resl_353:resFn Tryz.prog (nu 353)=some (erF nu tau_l row353):=by kernel_rfl
theorem resl_276:resFn Tryz.prog (nu 276)=some (erF nu tau_l row276):=by kernel_rfl
theorem resl_278:resFn Tryz.prog (nu 278)=some (erF nu tau_l row278):=by kernel_rfl
theorem resl_279:resFn Tryz.prog (nu 279)=some (erF nu tau_l row279):=by kernel_rfl
theorem resl_280:resFn Tryz.prog (nu 280)=some (erF nu tau_l row280):=by kernel_rfl
theorem resl_286:resFn Tryz.prog (nu 286)=some (erF nu tau_l row286):=by kernel_rfl
theorem resl_248:resFn Tryz.prog (nu 248)=some (erF nu tau_l row248):=by kernel_rfl
theorem resl_249:resFn Tryz.prog (nu 249)=some (erF nu tau_l row249):=by kernel_rfl
theorem resl_287:resFn Tryz.prog (nu 287)=some (erF nu tau_l row287):=by kernel_rfl
theorem resl_288:resFn Tryz.prog (nu 288)=some (erF nu tau_l row288):=by kernel_rfl
theorem resl_421:resFn Tryz.prog (nu 421)=some (erF nu tau_l row421):=by kernel_rfl
theorem resl_430:resFn Tryz.prog (nu 430)=some (erF nu tau_l row430):=by kernel_rfl
theorem resl_433:resFn Tryz.prog (nu 433)=some (erF nu tau_l row433):=by kernel_rfl
theorem resl_434:resFn Tryz.prog (nu 434)=some (erF nu tau_l row434):=by kernel_rfl
theorem resl_435:resFn Tryz.prog (nu 435)=some (erF nu tau_l row435):=by kernel_rfl
theorem resl_437:resFn Tryz.prog (nu 437)=some (erF nu tau_l row437):=by kernel_rfl
theorem resl_438:resFn Tryz.prog (nu 438)=some (erF nu tau_l row438):=by kernel_rfl
theorem resl_439:resFn Tryz.prog (nu 439)=some (erF nu tau_l row439):=by kernel_rfl
theorem resl_406:resFn Tryz.prog (nu 406)=some (erF nu tau_l row406):=by kernel_rfl
theorem resl_411:resFn Tryz.prog (nu 411)=some (erF nu tau_l row411):=by kernel_rfl
theorem resl_426:resFn Tryz.prog (nu 426)=some (erF nu tau_l row426):=by kernel_rfl
theorem resl_413:resFn Tryz.prog (nu 413)=some (erF nu tau_l row413):=by kernel_rfl
theorem resl_405:resFn Tryz.prog (nu 405)=some (erF nu tau_l row405):=by kernel_rfl
theorem resl_420:resFn Tryz.prog (nu 420)=some (erF nu tau_l row420):=by kernel_rfl
theorem resl_384:resFn Tryz.prog (nu 384)=some (erF nu tau_l row384):=by kernel_rfl
theorem resl_407:resFn Tryz.prog (nu 407)=some (erF nu tau_l row407):=by kernel_rfl
theorem resl_422:resFn Tryz.prog (nu 422)=some (erF nu tau_l row422):=by kernel_rfl
theorem resl_431:resFn Tryz.prog (nu 431)=some (erF nu tau_l row431):=by kernel_rfl
theorem resl_441:resFn Tryz.prog (nu 441)=some (erF nu tau_l row441):=by kernel_rfl
theorem resl_442:resFn Tryz.prog (nu 442)=some (erF nu tau_l row442):=by kernel_rfl
theorem resl_443:resFn Tryz.prog (nu 443)=some (erF nu tau_l row443):=by kernel_rfl
theorem resl_444:resFn Tryz.prog (nu 444)=some (erF nu tau_l row444):=by kernel_rfl
theorem resl_445:resFn Tryz.prog (nu 445)=some (erF nu tau_l row445):=by kernel_rfl
theorem resl_446:resFn Tryz.prog (nu 446)=some (erF nu tau_l row446):=by kernel_rfl
theorem resl_447:resFn Tryz.prog (nu 447)=some (erF nu tau_l row447):=by kernel_rfl
theorem resl_448:resFn Tryz.prog (nu 448)=some (erF nu tau_l row448):=by kernel_rfl
theorem resl_1000001:((methsA row1000001).all fun m=>methOf Tryz.prog row1000001.np m.1 == some (nu m.2))=true:=by kernel_rfl
theorem resl_391:resFn Tryz.prog (nu 391)=some (erF nu tau_l row391):=by kernel_rfl
theorem resl_395:resFn Tryz.prog (nu 395)=some (erF nu tau_l row395):=by kernel_rfl
theorem resl_397:resFn Tryz.prog (nu 397)=some (erF nu tau_l row397):=by kernel_rfl
theorem resl_410:resFn Tryz.prog (nu 410)=some (erF nu tau_l row410):=by kernel_rfl
theorem resl_412:resFn Tryz.prog (nu 412)=some (erF nu tau_l row412):=by kernel_rfl
theorem resl_414:resFn Tryz.prog (nu 414)=some (erF nu tau_l row414):=by kernel_rfl
theorem resl_427:resFn Tryz.prog (nu 427)=some (erF nu tau_l row427):=by kernel_rfl
theorem resl_428:resFn Tryz.prog (nu 428)=some (erF nu tau_l row428):=by kernel_rfl
theorem resl_2395:resFn Tryz.prog (nu 2395)=some (erF nu tau_l row2395):=by kernel_rfl
theorem resl_374:resFn Tryz.prog (nu 374)=some (erF nu tau_l row374):=by kernel_rfl
theorem resl_390:resFn Tryz.prog (nu 390)=some (erF nu tau_l row390):=by kernel_rfl
theorem resl_392:resFn Tryz.prog (nu 392)=some (erF nu tau_l row392):=by kernel_rfl
theorem resl_393:resFn Tryz.prog (nu 393)=some (erF nu tau_l row393):=by kernel_rfl
theorem resl_394:resFn Tryz.prog (nu 394)=some (erF nu tau_l row394):=by kernel_rfl
theorem resl_396:resFn Tryz.prog (nu 396)=some (erF nu tau_l row396):=by kernel_rfl
theorem lTab_ok(hp68:∀xs r,prim68 xs=some r→PCall Tryz.prog (nu 68) xs (·=r))(hp183:∀xs r,prim183 xs=some r→PCall Tryz.prog (nu 183) xs (·=r)):TOk Tryz.prog nu (fun u=>lTab.lookup u):=ok_lookup (ok_cons (ok_fn rfl rfl resl_115) (ok_cons (ok_fn rfl rfl resl_116) (ok_cons (ok_fn rfl rfl resl_117) (ok_cons (ok_fn rfl rfl resl_118) (ok_cons (ok_fn rfl rfl resl_91) (ok_cons (ok_fn rfl rfl resl_86) (ok_cons (ok_fn rfl rfl resl_106) (ok_cons (ok_fn rfl rfl resl_71) (ok_cons (ok_fn rfl rfl resl_72) (ok_cons (ok_fn rfl rfl resl_73) (ok_cons (ok_fn rfl rfl resl_70) (ok_cons (ok_fn rfl rfl resl_87) (ok_cons (ok_fn rfl rfl resl_85) (ok_cons (ok_fn rfl rfl resl_56) (ok_cons (ok_fn rfl rfl resl_88) (ok_cons (ok_fn rfl rfl resl_57) (ok_cons (ok_fn rfl rfl resl_2106) (ok_cons (ok_fn rfl rfl resl_89) (ok_cons (ok_fn rfl rfl resl_60) (ok_cons (ok_fn rfl rfl resl_94) (ok_cons (ok_fn rfl rfl resl_90) (ok_cons (ok_fn rfl rfl resl_119) (ok_cons (ok_fn rfl rfl resl_120) (ok_cons (ok_fn rfl rfl resl_121) (ok_cons (ok_fn rfl rfl resl_93) (ok_cons (ok_fn rfl rfl resl_2071) (ok_cons (ok_fn rfl rfl resl_2092) (ok_cons (ok_fn rfl rfl resl_62) (ok_cons (ok_pr rfl hp68) (ok_cons (ok_fn rfl rfl resl_55) (ok_cons (ok_fn rfl rfl resl_38) (ok_cons (ok_fn rfl rfl resl_40) (ok_cons (ok_fn rfl rfl resl_23) (ok_cons (ok_fn rfl rfl resl_25) (ok_cons (ok_fn rfl rfl resl_27) (ok_cons (ok_fn rfl rfl resl_37) (ok_cons (ok_fn rfl rfl resl_41) (ok_cons (ok_fn rfl rfl resl_34) (ok_cons (ok_fn rfl rfl resl_198) (ok_cons (ok_fn rfl rfl resl_199) (ok_cons (ok_fn rfl rfl resl_200) (ok_cons (ok_fn rfl rfl resl_201) (ok_cons (ok_fn rfl rfl resl_202) (ok_cons (ok_fn rfl rfl resl_203) (ok_cons (ok_fn rfl rfl resl_205) (ok_cons (ok_fn rfl rfl resl_207) (ok_cons (ok_fn rfl rfl resl_209) (ok_cons (ok_fn rfl rfl resl_210) (ok_cons (ok_fn rfl rfl resl_213) (ok_cons (ok_fn rfl rfl resl_215) (ok_cons (ok_fn rfl rfl resl_216) (ok_cons (ok_fn rfl rfl resl_217) (ok_cons (ok_fn rfl rfl resl_218) (ok_cons (ok_fn rfl rfl resl_208) (ok_cons (ok_fn rfl rfl resl_219) (ok_cons (ok_fn rfl rfl resl_220) (ok_cons (ok_fn rfl rfl resl_223) (ok_cons (ok_fn rfl rfl resl_356) (ok_cons (ok_pr rfl hp183) (ok_cons (ok_fn rfl rfl resl_251) (ok_cons (ok_fn rfl rfl resl_263) (ok_cons (ok_fn rfl rfl resl_267) (ok_cons (ok_fn rfl rfl resl_274) (ok_cons (ok_fn rfl rfl resl_2263) (ok_cons (ok_fn rfl rfl resl_2266) (ok_cons (ok_fn rfl rfl resl_43) (ok_cons (ok_fn rfl rfl resl_84) (ok_cons (ok_fn rfl rfl resl_52) (ok_cons (ok_fn rfl rfl resl_54) (ok_cons (ok_fn rfl rfl resl_58) (ok_cons (ok_fn rfl rfl resl_59) (ok_cons (ok_fn rfl rfl resl_61) (ok_cons (ok_fn rfl rfl resl_122) (ok_cons (ok_fn rfl rfl resl_95) (ok_cons (ok_fn rfl rfl resl_96) (ok_cons (ok_fn rfl rfl resl_97) (ok_cons (ok_fn rfl rfl resl_63) (ok_cons (ok_fn rfl rfl resl_224) (ok_cons (ok_fn rfl rfl resl_225) (ok_cons (ok_fn rfl rfl resl_226) (ok_cons (ok_fn rfl rfl resl_227) (ok_cons (ok_fn rfl rfl resl_228) (ok_cons (ok_fn rfl rfl resl_229) (ok_cons (ok_fn rfl rfl resl_230) (ok_cons (ok_fn rfl rfl resl_2097) (ok_cons (ok_fn rfl rfl resl_2043) (ok_cons (ok_fn rfl rfl resl_39) (ok_cons (ok_fn rfl rfl resl_24) (ok_cons (ok_fn rfl rfl resl_231) (ok_cons (ok_fn rfl rfl resl_232) (ok_cons (ok_fn rfl rfl resl_233) (ok_cons (ok_fn rfl rfl resl_239) (ok_cons (ok_fn rfl rfl resl_247) (ok_cons (ok_fn rfl rfl resl_353) (ok_cons (ok_fn rfl rfl resl_276) (ok_cons (ok_fn rfl rfl resl_278) (ok_cons (ok_fn rfl rfl resl_279) (ok_cons (ok_fn rfl rfl resl_280) (ok_cons (ok_fn rfl rfl resl_286) (ok_cons (ok_fn rfl rfl resl_248) (ok_cons (ok_fn rfl rfl resl_249) (ok_cons (ok_fn rfl rfl resl_287) (ok_cons (ok_fn rfl rfl resl_288) (ok_cons (ok_fn rfl rfl resl_421) (ok_cons (ok_fn rfl rfl resl_430) (ok_cons (ok_fn rfl rfl resl_433) (ok_cons (ok_fn rfl rfl resl_434) (ok_cons (ok_fn rfl rfl resl_435) (ok_cons (ok_fn rfl rfl resl_437) (ok_cons (ok_fn rfl rfl resl_438) (ok_cons (ok_fn rfl rfl resl_439) (ok_cons (ok_fn rfl rfl resl_406) (ok_cons (ok_fn rfl rfl resl_411) (ok_cons (ok_fn rfl rfl resl_426) (ok_cons (ok_fn rfl rfl resl_413) (ok_cons (ok_fn rfl rfl resl_405) (ok_cons (ok_fn rfl rfl resl_420) (ok_cons (ok_fn rfl rfl resl_384) (ok_cons (ok_fn rfl rfl resl_407) (ok_cons (ok_fn rfl rfl resl_422) (ok_cons (ok_fn rfl rfl resl_431) (ok_cons (ok_fn rfl rfl resl_441) (ok_cons (ok_fn rfl rfl resl_442) (ok_cons (ok_fn rfl rfl resl_443) (ok_cons (ok_fn rfl rfl resl_444) (ok_cons (ok_fn rfl rfl resl_445) (ok_cons (ok_fn rfl rfl resl_446) (ok_cons (ok_fn rfl rfl resl_447) (ok_cons (ok_fn rfl rfl resl_448) (ok_cons (ok_ty rfl rfl resl_1000001) (ok_cons (ok_fn rfl rfl resl_391) (ok_cons (ok_fn rfl rfl resl_395) (ok_cons (ok_fn rfl rfl resl_397) (ok_cons (ok_fn rfl rfl resl_410) (ok_cons (ok_fn rfl rfl resl_412) (ok_cons (ok_fn rfl rfl resl_414) (ok_cons (ok_fn rfl rfl resl_427) (ok_cons (ok_fn rfl rfl resl_428) (ok_cons (ok_fn rfl rfl resl_2395) (ok_cons (ok_fn rfl rfl resl_374) (ok_cons (ok_fn rfl rfl resl_390) (ok_cons (ok_fn rfl rfl resl_392) (ok_cons (ok_fn rfl rfl resl_393) (ok_cons (ok_fn rfl rfl resl_394) (ok_cons (ok_fn rfl rfl resl_396) (fun p hp=>by cases hp))))))))))))))))))))))))))))))))))))))))))))))))))))))))))))))))))))))))))))))))))))))))))))))))))))))))))))))))))))))))))))))))))))))))))))))))))
theorem lTab_part:Part gTab lTab:=⟨sub_cons (by kernel_rfl) (sub_cons (by kernel_rfl) (sub_cons (by kernel_rfl) (sub_cons (by kernel_rfl) (sub_cons (by kernel_rfl) (sub_cons (by kernel_rfl) (sub_cons (by kernel_rfl) (sub_cons (by kernel_rfl) (sub_cons (by kernel_rfl) (sub_cons (by kernel_rfl) (sub_cons (by kernel_rfl) (sub_cons (by kernel_rfl) (sub_cons (by kernel_rfl) (sub_cons (by kernel_rfl) (sub_cons (by kernel_rfl) (sub_cons (by kernel_rfl) (sub_cons (by kernel_rfl) (sub_cons (by kernel_rfl) (sub_cons (by kernel_rfl) (sub_cons (by kernel_rfl) (sub_cons (by kernel_rfl) (sub_cons (by kernel_rfl) (sub_cons (by kernel_rfl) (sub_cons (by kernel_rfl) (sub_cons (by kernel_rfl) (sub_cons (by kernel_rfl) (sub_cons (by kernel_rfl) (sub_cons (by kernel_rfl) (sub_cons (by kernel_rfl) (sub_cons (by kernel_rfl) (sub_cons (by kernel_rfl) (sub_cons (by kernel_rfl) (sub_cons (by kernel_rfl) (sub_cons (by kernel_rfl) (sub_cons (by kernel_rfl) (sub_cons (by kernel_rfl) (sub_cons (by kernel_rfl) (sub_cons (by kernel_rfl) (sub_cons (by kernel_rfl) (sub_cons (by kernel_rfl) (sub_cons (by kernel_rfl) (sub_cons (by kernel_rfl) (sub_cons (by kernel_rfl) (sub_cons (by kernel_rfl) (sub_cons (by kernel_rfl) (sub_cons (by kernel_rfl) (sub_cons (by kernel_rfl) (sub_cons (by kernel_rfl) (sub_cons (by kernel_rfl) (sub_cons (by kernel_rfl) (sub_cons (by kernel_rfl) (sub_cons (by kernel_rfl) (sub_cons (by kernel_rfl) (sub_cons (by kernel_rfl) (sub_cons (by kernel_rfl) (sub_cons (by kernel_rfl) (sub_cons (by kernel_rfl) (sub_cons (by kernel_rfl) (sub_cons (by kernel_rfl) (sub_cons (by kernel_rfl) (sub_cons (by kernel_rfl) (sub_cons (by kernel_rfl) (sub_cons (by kernel_rfl) (sub_cons (by kernel_rfl) (sub_cons (by kernel_rfl) (sub_cons (by kernel_rfl) (sub_cons (by kernel_rfl) (sub_cons (by kernel_rfl) (sub_cons (by kernel_rfl) (sub_cons (by kernel_rfl) (sub_cons (by kernel_rfl) (sub_cons (by kernel_rfl) (sub_cons (by kernel_rfl) (sub_cons (by kernel_rfl) (sub_cons (by kernel_rfl) (sub_cons (by kernel_rfl) (sub_cons (by kernel_rfl) (sub_cons (by kernel_rfl) (sub_cons (by kernel_rfl) (sub_cons (by kernel_rfl) (sub_cons (by kernel_rfl) (sub_cons (by kernel_rfl) (sub_cons (by kernel_rfl) (sub_cons (by kernel_rfl) (sub_cons (by kernel_rfl) (sub_cons (by kernel_rfl) (sub_cons (by kernel_rfl) (sub_cons (by kernel_rfl) (sub_cons (by kernel_rfl) (sub_cons (by kernel_rfl) (sub_cons (by kernel_rfl) (sub_cons (by kernel_rfl) (sub_cons (by kernel_rfl) (sub_cons (by kernel_rfl) (sub_cons (by kernel_rfl) (sub_cons (by kernel_rfl) (sub_cons (by kernel_rfl) (sub_cons (by kernel_rfl) (sub_cons (by kernel_rfl) (sub_cons (by kernel_rfl) (sub_cons (by kernel_rfl) (sub_cons (by kernel_rfl) (sub_cons (by kernel_rfl) (sub_cons (by kernel_rfl) (sub_cons (by kernel_rfl) (sub_cons (by kernel_rfl) (sub_cons (by kernel_rfl) (sub_cons (by kernel_rfl) (sub_cons (by kernel_rfl) (sub_cons (by kernel_rfl) (sub_cons (by kernel_rfl) (sub_cons (by kernel_rfl) (sub_cons (by kernel_rfl) (sub_cons (by kernel_rfl) (sub_cons (by kernel_rfl) (sub_cons (by kernel_rfl) (sub_cons (by kernel_rfl) (sub_cons (by kernel_rfl) (sub_cons (by kernel_rfl) (sub_cons (by kernel_rfl) (sub_cons (by kernel_rfl) (sub_cons (by kernel_rfl) (sub_cons (by kernel_rfl) (sub_cons (by kernel_rfl) (sub_cons (by kernel_rfl) (sub_cons (by kernel_rfl) (sub_cons (by kernel_rfl) (sub_cons (by kernel_rfl) (sub_cons (by kernel_rfl) (sub_cons (by kernel_rfl) (sub_cons (by kernel_rfl) (sub_cons (by kernel_rfl) (sub_cons (by kernel_rfl) (sub_cons (by kernel_rfl) (sub_cons (by kernel_rfl) (sub_cons (by kernel_rfl) (sub_cons (by kernel_rfl) (sub_cons (by kernel_rfl) (sub_cons (by kernel_rfl) (sub_cons (by kernel_rfl) (sub_cons (by kernel_rfl) (sub_cons (by kernel_rfl) (sub_cons (by kernel_rfl) (sub_cons (by kernel_rfl) (sub_cons (by kernel_rfl) (fun p hp=>by cases hp))))))))))))))))))))))))))))))))))))))))))))))))))))))))))))))))))))))))))))))))))))))))))))))))))))))))))))))))))))))))))))))))))))))))))))))))),by kernel_rfl⟩
def sTab:List (Nat×AFx):=[(118,row118),(86,row86),(106,row106),(71,row71),(70,row70),(90,row90),(101,row101),(103,row103),(125,row125)]
def tau_s:Nat→Nat:=tyNum fun u=>sTab.lookup u
theorem ress_118:resFn Tryz.prog (nu 118)=some (erF nu tau_s row118):=by kernel_rfl
theorem ress_86:resFn Tryz.prog (nu 86)=some (erF nu tau_s row86):=by kernel_rfl
theorem ress_106:resFn Tryz.prog (nu 106)=some (erF nu tau_s row106):=by kernel_rfl
theorem ress_71:resFn Tryz.prog (nu 71)=some (erF nu tau_s row71):=by kernel_rfl
theorem ress_70:resFn Tryz.prog (nu 70)=some (erF nu tau_s row70):=by kernel_rfl
theorem ress_90:resFn Tryz.prog (nu 90)=some (erF nu tau_s row90):=by kernel_rfl
theorem ress_101:resFn Tryz.prog (nu 101)=some (erF nu tau_s row101):=by kernel_rfl
theorem ress_103:resFn Tryz.prog (nu 103)=some (erF nu tau_s row103):=by kernel_rfl
theorem ress_125:resFn Tryz.prog (nu 125)=some (erF nu tau_s row125):=by kernel_rfl
theorem sTab_ok:TOk Tryz.prog nu (fun u=>sTab.lookup u):=ok_lookup (ok_cons (ok_fn rfl rfl ress_118) (ok_cons (ok_fn rfl rfl ress_86) (ok_cons (ok_fn rfl rfl ress_106) (ok_cons (ok_fn rfl rfl ress_71) (ok_cons (ok_fn rfl rfl ress_70) (ok_cons (ok_fn rfl rfl ress_90) (ok_cons (ok_fn rfl rfl ress_101) (ok_cons (ok_fn rfl rfl ress_103) (ok_cons (ok_fn rfl rfl ress_125) (fun p hp=>by cases hp))))))))))
theorem sTab_part:Part gTab sTab:=⟨sub_cons (by kernel_rfl) (sub_cons (by kernel_rfl) (sub_cons (by kernel_rfl) (sub_cons (by kernel_rfl) (sub_cons (by kernel_rfl) (sub_cons (by kernel_rfl) (sub_cons (by kernel_rfl) (sub_cons (by kernel_rfl) (sub_cons (by kernel_rfl) (fun p hp=>by cases hp))))))))),by kernel_rfl⟩
instance:CLimb tab where
 h115:=by kernel_rfl
 h116:=by kernel_rfl
 h117:=by kernel_rfl
 h118:=by kernel_rfl
 h91:=by kernel_rfl
instance:CNat tab where
 h115:=by kernel_rfl
 h116:=by kernel_rfl
 h117:=by kernel_rfl
 h118:=by kernel_rfl
 h91:=by kernel_rfl
 h86:=by kernel_rfl
 h106:=by kernel_rfl
 h71:=by kernel_rfl
 h72:=by kernel_rfl
 h73:=by kernel_rfl
 h70:=by kernel_rfl
 h87:=by kernel_rfl
 h85:=by kernel_rfl
 h56:=by kernel_rfl
 h88:=by kernel_rfl
 h57:=by kernel_rfl
 h2106:=by kernel_rfl
instance:CProd tab where
 h115:=by kernel_rfl
 h116:=by kernel_rfl
 h117:=by kernel_rfl
 h118:=by kernel_rfl
 h91:=by kernel_rfl
 h86:=by kernel_rfl
 h106:=by kernel_rfl
 h71:=by kernel_rfl
 h72:=by kernel_rfl
 h73:=by kernel_rfl
 h70:=by kernel_rfl
 h87:=by kernel_rfl
 h85:=by kernel_rfl
 h56:=by kernel_rfl
 h88:=by kernel_rfl
 h57:=by kernel_rfl
 h2106:=by kernel_rfl
 h89:=by kernel_rfl
 h60:=by kernel_rfl
instance:CTwos tab where
 h92:=by kernel_rfl
 h94:=by kernel_rfl
instance:CQuot tab where
 h90:=by kernel_rfl
 h119:=by kernel_rfl
 h120:=by kernel_rfl
 h121:=by kernel_rfl
 h93:=by kernel_rfl
instance:CQuotD tab where
 h2071:=by kernel_rfl
 h2092:=by kernel_rfl
 h62:=by kernel_rfl
instance:CDigits tab where
 h101:=by kernel_rfl
instance:CText tab where
 h68:=by kernel_rfl
instance:CTrim tab where
 h103:=by kernel_rfl
 h125:=by kernel_rfl
instance:CWhole tab where
 h55:=by kernel_rfl
 h38:=by kernel_rfl
 h40:=by kernel_rfl
 h23:=by kernel_rfl
 h25:=by kernel_rfl
 h27:=by kernel_rfl
 h37:=by kernel_rfl
 h41:=by kernel_rfl
 h34:=by kernel_rfl
instance:CCommon tab where
 h198:=by kernel_rfl
 h199:=by kernel_rfl
 h200:=by kernel_rfl
 h201:=by kernel_rfl
instance:CFrac tab where
 h202:=by kernel_rfl
 h203:=by kernel_rfl
 h205:=by kernel_rfl
 h207:=by kernel_rfl
 h209:=by kernel_rfl
 h210:=by kernel_rfl
 h213:=by kernel_rfl
 h215:=by kernel_rfl
 h216:=by kernel_rfl
 h217:=by kernel_rfl
 h218:=by kernel_rfl
instance:CFrac2 tab where
instance:CFrac3 tab where
 h208:=by kernel_rfl
 h219:=by kernel_rfl
 h220:=by kernel_rfl
instance:CFrac5 tab where
 h223:=by kernel_rfl
instance:CPow tab where
 h356:=by kernel_rfl
instance:CJoin tab where
 h183:=by kernel_rfl
instance:CRow tab where
 h251:=by kernel_rfl
 h263:=by kernel_rfl
 h266:=by kernel_rfl
 h267:=by kernel_rfl
 h274:=by kernel_rfl
 h2263:=by kernel_rfl
 h2266:=by kernel_rfl
instance:CRow2 tab where
instance:CRow5 tab where
instance:CRef02 tab where
 h43:=by kernel_rfl
 h84:=by kernel_rfl
 h52:=by kernel_rfl
 h54:=by kernel_rfl
 h58:=by kernel_rfl
 h59:=by kernel_rfl
instance:CRef04 tab where
 h43:=by kernel_rfl
 h84:=by kernel_rfl
 h52:=by kernel_rfl
 h54:=by kernel_rfl
 h58:=by kernel_rfl
 h59:=by kernel_rfl
 h61:=by kernel_rfl
instance:CRef05 tab where
 h43:=by kernel_rfl
 h84:=by kernel_rfl
 h52:=by kernel_rfl
 h54:=by kernel_rfl
 h58:=by kernel_rfl
 h59:=by kernel_rfl
 h61:=by kernel_rfl
 h122:=by kernel_rfl
 h95:=by kernel_rfl
 h96:=by kernel_rfl
 h97:=by kernel_rfl
 h63:=by kernel_rfl
instance:CRef06 tab where
 h224:=by kernel_rfl
 h225:=by kernel_rfl
 h226:=by kernel_rfl
 h227:=by kernel_rfl
 h228:=by kernel_rfl
 h229:=by kernel_rfl
 h230:=by kernel_rfl
 h2097:=by kernel_rfl
instance:CRef07 tab where
 h43:=by kernel_rfl
 h84:=by kernel_rfl
 h52:=by kernel_rfl
 h54:=by kernel_rfl
 h58:=by kernel_rfl
 h59:=by kernel_rfl
 h61:=by kernel_rfl
 h122:=by kernel_rfl
 h95:=by kernel_rfl
 h96:=by kernel_rfl
 h97:=by kernel_rfl
 h63:=by kernel_rfl
 h2043:=by kernel_rfl
instance:CRef08 tab where
 h43:=by kernel_rfl
 h84:=by kernel_rfl
 h52:=by kernel_rfl
 h54:=by kernel_rfl
 h58:=by kernel_rfl
 h59:=by kernel_rfl
 h61:=by kernel_rfl
 h122:=by kernel_rfl
 h95:=by kernel_rfl
 h96:=by kernel_rfl
 h97:=by kernel_rfl
 h63:=by kernel_rfl
 h2043:=by kernel_rfl
 h39:=by kernel_rfl
 h24:=by kernel_rfl
instance:CRef09 tab where
 h231:=by kernel_rfl
 h232:=by kernel_rfl
 h233:=by kernel_rfl
 h239:=by kernel_rfl
 h247:=by kernel_rfl
 h353:=by kernel_rfl
instance:CRef11 tab where
 h276:=by kernel_rfl
 h278:=by kernel_rfl
 h279:=by kernel_rfl
 h280:=by kernel_rfl
 h286:=by kernel_rfl
instance:CLaw09 tab where
 h248:=by kernel_rfl
 h249:=by kernel_rfl
instance:CLaw11 tab where
 h287:=by kernel_rfl
 h288:=by kernel_rfl
instance:CTape tab where
 h421:=by kernel_rfl
 h430:=by kernel_rfl
 h433:=by kernel_rfl
 h434:=by kernel_rfl
 h435:=by kernel_rfl
 h437:=by kernel_rfl
 h438:=by kernel_rfl
 h439:=by kernel_rfl
instance:CGauge tab where
 h406:=by kernel_rfl
 h411:=by kernel_rfl
 h426:=by kernel_rfl
 h413:=by kernel_rfl
instance:CEval tab where
 h405:=by kernel_rfl
 h420:=by kernel_rfl
instance:CRun tab where
 h384:=by kernel_rfl
 h407:=by kernel_rfl
 h422:=by kernel_rfl
 h431:=by kernel_rfl
 h441:=by kernel_rfl
 h442:=by kernel_rfl
 h443:=by kernel_rfl
 h444:=by kernel_rfl
 h445:=by kernel_rfl
 h446:=by kernel_rfl
 h447:=by kernel_rfl
 h448:=by kernel_rfl
instance:CIfc tab where
 h1:=⟨140,by kernel_rfl⟩
instance:CLaw24 tab where
instance:CPull tab where
 h391:=by kernel_rfl
 h395:=by kernel_rfl
 h397:=by kernel_rfl
 h410:=by kernel_rfl
 h412:=by kernel_rfl
 h414:=by kernel_rfl
 h427:=by kernel_rfl
 h428:=by kernel_rfl
 h2395:=by kernel_rfl
instance:CLaw28 tab where
 h374:=by kernel_rfl
 h390:=by kernel_rfl
 h392:=by kernel_rfl
 h393:=by kernel_rfl
 h394:=by kernel_rfl
 h396:=by kernel_rfl
instance:CLaw27l tab where
end Go.Proofs.YtebcadckeepbdaaGreatDoor
end
section
namespace Go.Proofs
open Go.RowKit
theorem Tryz.sizeBuilder:(Tryz.prog.info? 158).map (·.size)=some 2:=by kernel_rfl
theorem Tryz.liesBuilder:liesAt Tryz.prog Tryz.prog.depth 158 (2/Tryz.prog.cellsOf 158) 0 158 1=true:=by kernel_rfl
theorem Tryz.infoByte:(Tryz.prog.info? 5).map (fun i=>(i.zero,i.size,i.bytes))=some (some (.int .u8 0),1,1):=by kernel_rfl
theorem Tryz.cellsByte:Tryz.prog.cellsOf 5=1:=by kernel_rfl
set_option maxHeartbeats 1000000 in
set_option maxRecDepth 100000 in
theorem Tryz.bString(B b:Nat)(l:List UInt8)(w:World)(h:Lib.IsBuilder 158 5 B b (Lib.byteCells l) w)(h0:l≠[]) :
  Calls Tryz.prog 93 #[.pointer (some ⟨b,0,none⟩)] w fun e w'=>e=.returned (.string ⟨l.toArray⟩)∧Below B w w':=by
 obtain⟨p,hB,v,hbk,hown,hne⟩:∃p,Lib.BuilderAt 158 5 B b p (Lib.byteCells l) w:=by
  rcases h with h | h
  ·exact⟨_,h⟩
  ·exact⟨_,h⟩
 have hl0:l.length≠0:=by simpa using h0
 rw[Lib.byteCells_length]at hown
 obtain⟨g,cap,cur,rfl,hbg,hg,hnc,hcm,hcs,htake⟩:∃g cap cur,v=.slice (some ⟨g,0,none⟩) l.length cap∧B≤g∧w.heap[g]? = some (.cells cur 5 (0,0))∧l.length≤cap∧cap≤maxLen∧cur.size=cap*1∧cur.toList.take (l.length*1)=Lib.byteCells l:=by
  rcases hown.2 with ⟨_,hz⟩ | ⟨g,cap,cur,hv,r⟩
  ·exact absurd hz hl0
  ·exact⟨g,cap,cur,hv,r⟩
 have c1:w.drew.cell? ⟨b,1,none⟩=some (.slice (some ⟨g,0,none⟩) l.length cap):=by
  have:w.drew.heap[b]? = some (.cells #[p,.slice (some ⟨g,0,none⟩) l.length cap] 158 (0,0)):=hbk
  rw[Lib.cell_of_heap this];rfl
 have hSD:(Builtin.unsafeSliceData_ #[156] 182 #[.slice (some ⟨g,0,none⟩) l.length cap]).run Tryz.prog w.drew=.ok (.pointer (some ⟨g,0,none⟩)) w.drew:=
  Lib.run_unsafeSliceData_row _ _ _ _ _ _ (by omega)
 have hUS:(Builtin.unsafeString_ #[182,3] 9 #[.pointer (some ⟨g,0,none⟩),.int .i64 l.length]).run Tryz.prog w.drew=.ok (.string ⟨l.toArray⟩) (w.drew.freeze ⟨g,0,none⟩ l.length):=by
  refine Lib.run_unsafeString_row w.drew 182 3 9 5 Tryz.underlying182 Tryz.cellsByte g cur.size (by have hg':w.drew.heap[g]? = some (.cells cur 5 (0,0)):=hg;simp[World.shape?,hg']) l h0 (by omega) (by unfold maxLen at hcm;omega) ?_
  intro j x hx
  have:=hown.cells (g:=g) rfl j (.int .u8 x.toNat) (by simp[Lib.byteCells,hx])
  exact this
 go_enter Tryz.func93,Tryz.ntmps93
 go_wp2
 go_region
 all_goals (go_wp2;go_ret;exact⟨rfl,Lib.below_freeze (Below.drew (Below.refl B w)) (p:=⟨g,0,none⟩) hbg _⟩)
set_option maxHeartbeats 1000000 in
set_option maxRecDepth 100000 in
theorem Tryz.bCheck_used(b:Nat)(w:World)(h0:w.cell? ⟨b,0,none⟩=some (.pointer (some ⟨b,0,none⟩))) :
  Calls Tryz.prog 117 #[.pointer (some ⟨b,0,none⟩)] w fun e w'=>e=.returned (.tuple #[])∧w'=w:=by
 obtain⟨j,hj,_⟩:=Option.map_eq_some_iff.1 Tryz.sizeBuilder
 go_enter Tryz.func117,Tryz.ntmps117
 go_wp2
 rw[Lib.run_neq_ptr_same w _ Tryz.underlying155 hj]
 go_wp2
 go_end0
 exact⟨rfl,rfl⟩
set_option maxHeartbeats 1000000 in
set_option maxRecDepth 100000 in
theorem Tryz.bCheck_fresh(b:Nat)(w:World)(h0:w.cell? ⟨b,0,none⟩=some (.pointer none))(hsh:w.shape? b=some (158,2))(hfz:w.frozen? ⟨b,0,none⟩=false) :
  Calls Tryz.prog 117 #[.pointer (some ⟨b,0,none⟩)] w fun e w'=>e=.returned (.tuple #[])∧w'=w.setCell ⟨b,0,none⟩ (.pointer (some ⟨b,0,none⟩)):=by
 obtain⟨j,hj,hjs⟩:=Option.map_eq_some_iff.1 Tryz.sizeBuilder
 go_enter Tryz.func117,Tryz.ntmps117
 go_wp2
 rw[Lib.run_to_unsafe w ⟨b,0,none⟩ Tryz.underlying155 Tryz.underlying203 hj (by rw[hjs];decide) hsh (Nat.zero_lt_succ 1)]
 simp only[Result.andThen]
 rw[Oper.upon_value]
 go_wp2
 rw[run_callFunc_extern Tryz.func136 (by kernel_rfl) (by kernel_rfl) (by kernel_rfl) (e:=Extern.AbiNoEscape.same) (by kernel_rfl)]
 rw[Lib.run_noEscape]
 simp only[Result.andThen]
 rw[Oper.upon_value]
 go_wp2
 rw[Lib.run_from_unsafe w ⟨b,0,none⟩ Tryz.underlying203 Tryz.underlying155 hj hsh Tryz.liesBuilder]
 simp only[Result.andThen]
 rw[Oper.upon_value]
 go_wp2
 go_end0
 exact⟨rfl,rfl⟩
theorem Tryz.bCheck(B b:Nat)(bs:List Value)(w:World)(h:Lib.IsBuilder 158 5 B b bs w) :
  Calls Tryz.prog 117 #[.pointer (some ⟨b,0,none⟩)] w fun e w'=>e=.returned (.tuple #[])∧(Lib.BuilderAt 158 5 B b (.pointer (some ⟨b,0,none⟩)) bs w'∧Below B w w'):=by
 rcases h with h | h
 ·refine(Tryz.bCheck_fresh b w h.cell0 h.shape h.frozen0).mono ?_
  rintro e w' ⟨rfl,rfl⟩
  exact⟨rfl,h.used _,(Below.refl B w).setCell (p:=⟨b,0,none⟩) h.1 _⟩
 ·refine(Tryz.bCheck_used b w h.cell0).mono ?_
  rintro e w' ⟨rfl,rfl⟩
  exact⟨rfl,h,Below.refl B _⟩
set_option maxHeartbeats 2000000 in
set_option maxRecDepth 100000 in
theorem Tryz.bWrite(B b:Nat)(bs:List Value)(s:ByteArray)(w:World)(h:Lib.IsBuilder 158 5 B b bs w)(hlen:bs.length+s.size≤140737488355328)(hBw:B≤w.heap.size) :
  Calls Tryz.prog 92 #[.pointer (some ⟨b,0,none⟩),.string s] w fun e w'=>e=.returned (.tuple #[.int .i64 s.size,.nilIface])∧(Lib.BuilderAt 158 5 B b (.pointer (some ⟨b,0,none⟩)) (bs++Lib.strCells s) w'∧Below B w w'):=by
 obtain⟨i0,hi,hz0,hz1,hz2⟩:=info_parts Tryz.infoByte
 go_enter Tryz.func92,Tryz.ntmps92
 go_wp2_with (go_at_call 117;refine(Tryz.bCheck B b bs _ h).mono ?_)
 rintro e w1 ⟨rfl,h1,hb1⟩
 obtain⟨hB,v,hbk,hown,hne⟩:=h1
 have c0:w1.cell? ⟨b,0,none⟩=some (.pointer (some ⟨b,0,none⟩)):=by rw[Lib.cell_of_heap hbk];rfl
 have c1:w1.cell? ⟨b,1,none⟩=some v:=by rw[Lib.cell_of_heap hbk];rfl
 go_wp2_with (at_builtin;refine Lib.wpList_append_own_string _ rfl _ _ 156 9 rfl B 5 i0 Tryz.underlying156 Tryz.underlying9 hi hz0 hz1 hz2 _ _ _ rfl hown s rfl ?c3 ?c4 ?c5 ?_)
 case c3=>unfold maxLen;omega
 case c4=>omega
 case c5=>have:=hb1.size;omega
 intro v' w2 hown' hgrow _
 have hlt:b<w1.heap.size:=by
  rcases Nat.lt_or_ge b w1.heap.size with h' | h'
  ·exact h'
  ·simp[Array.getElem?_eq_none h']at hbk
 have hb2:w2.heap[b]? = some (.cells #[.pointer (some ⟨b,0,none⟩),v] 158 (0,0)):=by
  rw[hgrow.block b hlt (fun e=>hne e.symm)]
  exact hbk
 have d0:w2.cell? ⟨b,0,none⟩=some (.pointer (some ⟨b,0,none⟩)):=by rw[Lib.cell_of_heap hb2];rfl
 have d1:w2.cell? ⟨b,1,none⟩=some v:=by rw[Lib.cell_of_heap hb2];rfl
 have f1:w2.frozen? ⟨b,1,none⟩=false:=Lib.frozen_of_heap hb2 1
 obtain⟨ao,n',cap,rfl⟩:∃ao n' cap,v'=.slice ao n' cap:=by
  rcases hown'.2 with ⟨hv,_⟩ | ⟨g,cap,cur,hv,_⟩
  ·exact⟨_,_,_,hv⟩
  ·exact⟨_,_,_,hv⟩
 go_wp2
 go_ret2
 refine⟨rfl,?_,?_⟩
 ·exact Lib.BuilderAt.put (T:=158) (e:=5) hB hb2 (bs':=bs++Lib.strCells s) (by simpa[Lib.strCells_length]using hown') (by decide)
 ·exact(hb1.grown hgrow (by have:=hb1.size;omega) (fun k hk=>(hown.lt k hk).1)).setCell (p:=⟨b,1,none⟩) hB _
end Go.Proofs
end
namespace Go.Ab
def pieces(n:Nat):List (List UInt8):=if h:n=0 then [] else digK 9 (n%1000000000)::pieces (n/1000000000)
termination_by n
decreasing_by exact Nat.div_lt_self (Nat.pos_of_ne_zero h) (by decide)
theorem zbx:pieces 0=[]:=by unfold pieces;simp
theorem zce{n:Nat}(h:n≠0):pieces n=digK 9 (n%1000000000)::pieces (n/1000000000):=by
 conv=>lhs;unfold pieces
 rw[dif_neg h]
def rowsS(l:List (List UInt8)):List (List AV):=l.map fun s=>[.s s]
@[simp] theorem zxq(l:List (List UInt8)):(rowsS l).length=l.length:=by simp[rowsS]
@[simp] theorem zws(l:List (List UInt8)):wkL (rowsS l)=rowsS l:=by
 induction l with
 | nil=>rfl
 | cons x l ih=>simpa[rowsS,wkL,wkR]using ih
theorem zuo(l:List (List UInt8))(s:List UInt8):rowsS l++[[.s s]]=rowsS (l++[s]):=by simp[rowsS]
def txL:AX:=
 (.note
 (.seq
 (.seq
  (.reg [⟨(some 11),none,.mov (.t 0)⟩,
   ⟨(some 12),none,.call 70 [(.t 11)]⟩,
   ⟨(some 13),none,.un .not (.t 12)⟩])
  (.cond (.t 13)
  .skip
  (.exit 0)))
 (.block 1
  (.seq
  (.reg [⟨(some 15),none,.mov (.t 0)⟩,
   ⟨(some 16),none,.call 90 [(.t 15),(.c (u32 1000000000))]⟩,
   ⟨(some 14),none,.mov (.t 16)⟩,
   ⟨(some 17),none,.ext (.t 14) 0⟩,
   ⟨(some 18),none,.ext (.t 14) 1⟩,
   ⟨(some 19),none,.ext (.t 14) 2⟩,
   ⟨(some 4),none,.mov (.t 17)⟩,
   ⟨(some 5),none,.mov (.t 18)⟩,
   ⟨(some 6),none,.mov (.t 19)⟩])
  (.seq
   (.reg [⟨(some 20),none,.mov (.t 3)⟩,
    ⟨(some 21),none,.mov (.t 5)⟩,
    ⟨(some 22),none,.call 101 [(.t 21)]⟩,
    ⟨(some 23),none,.bsl 1 [(.s [])] 1 [(0,(.t 22))]⟩,
    ⟨(some 24),none,.app 1 (.t 20) (.t 23)⟩,
    ⟨(some 3),none,.mov (.t 24)⟩])
   (.reg [⟨(some 25),none,.mov (.t 4)⟩,
    ⟨(some 0),none,.mov (.t 25)⟩])))))
 (.norm false [0,3]))
def tx0:AX:=(.reg [⟨(some 2),none,.mov (.c (.s []))⟩])
def txA:AX:=
  (.seq
  (.reg [⟨(some 9),none,.mov (.t 0)⟩,
   ⟨(some 10),none,.call 70 [(.t 9)]⟩])
  (.cond (.t 10)
   (.seq
   (.reg [⟨(some 2),none,.mov (.c (.s [48]))⟩])
   (.pre (.norm false [2]) .ret))
   .skip))
def tx3:AX:=(.note (.reg [⟨(some 3),none,.mov (.c (.sl [] .nl))⟩]) (.nil 3 1))
def txP:AX:=(.lp 0 (.norm false [0,3]) txL (.norm false [3]))
section
variable{T:Tbl}
theorem zabv(x:AV):evX (orc T) T 0 tx0 ⟨argEnv [x],[],1⟩=some (.n,⟨[(2,.s []),(0,x)],[],1⟩):=by
 simp -implicitDefEqProofs[tx0]
end
section
variable{T:Tbl}[CNat T]
theorem z4x(a:List UInt32)(hl:a.length≤1000)(h0:val a=0):evX (orc T) T 0 txA ⟨[(2,.s []),(0,.sl (u32s a) .an)],[],1⟩=some (.r,⟨[(2,.s [48])],[],2⟩):=by
 have hz:=zfg (T:=T) a (by omega)
 simp -implicitDefEqProofs[txA,hz,h0]
end
section
variable{T:Tbl}[CNat T]
theorem z4y(a:List UInt32)(hl:a.length≤1000)(h0:val a≠0):evX (orc T) T 0 txA ⟨[(2,.s []),(0,.sl (u32s a) .an)],[],1⟩ =
  some (.n,⟨[(10,.b false),(9,.sl (u32s a) .an),(2,.s []),(0,.sl (u32s a) .an)],[],1⟩):=by
 have hz:=zfg (T:=T) a (by omega)
 simp -implicitDefEqProofs[txA,hz,h0]
end
section
variable{T:Tbl}[CNat T][CProd T][CTwos T][CQuot T][CDigits T]
def stTp(a:List UInt32)(l:List (List UInt8)):St:=⟨[(0,.sl (u32s a) .an),(3,.bs (.loc 3) 1 1 0 l.length)],[((.loc 3),⟨1,.own,1,rowsS l⟩)],3⟩
theorem zqs(l:List (List UInt8))(s:List UInt8):wkL (List.take l.length (rowsS l)++[[AV.s s]])=rowsS (l++[s]):=by
 rw[List.take_of_length_le (by simp),zuo,zws]
end
section
variable{T:Tbl}[CNat T][CQuot T][CDigits T]
theorem zwt(N:Nat)(hN:N≤4294967295)(L:List (List UInt8)):∀y:List UInt32×List (List UInt8),(y.1.length≤1000∧y.2++pieces (val y.1)=L∧L.length=N) →
  loopN T 0 0 (Gh.norm false [3]) txL (stTp y.1 y.2)=some (.n,⟨[(3,.bs (.loc 3) 1 1 0 L.length)],[((.loc 3),⟨1,.own,1,rowsS L⟩)],3⟩):=by
 refine za4 (fun y:List UInt32×List (List UInt8)=>stTp y.1 y.2) _ (fun y=>val y.1) _ ?_
 rintro⟨a,l⟩ ⟨ha,hL,hn⟩
 simp only at ha hL hn
 have hz:=zfg (T:=T) a (by omega)
 by_cases h0:val a=0
 ·right
  rw[h0,zbx,List.append_nil]at hL
  subst hL
  constructor<;>simp -implicitDefEqProofs[txL,stTp,hz,h0]
 ·left
  have hq:=zlm (T:=T) a 1000000000 (by omega) (by omega) (by omega)
  have hn9:=zm1 (T:=T) (val a%1000000000) (by omega)
  have hlen:(ofN (val a/1000000000)).length≤a.length:=Nat.le_trans (zas (Nat.div_le_self _ _)) (zac a)
  rw[zce h0]at hL
  have hll:l.length≤4294967295:=by have:=congrArg List.length hL;simp at this;omega
  refine⟨(ofN (val a/1000000000),l++[digK 9 (val a%1000000000)]),⟨by simp only;omega,by simp only[zae,List.append_assoc,List.singleton_append];exact hL,hn⟩,?_,?_,rfl⟩
  ·simp only[zae]
   exact Nat.div_lt_self (Nat.pos_of_ne_zero h0) (by decide)
  ·simp -implicitDefEqProofs[txL,stTp,hz,hq,hn9,h0,hll,zqs]
end
section
variable{T:Tbl}[CNat T][CProd T][CTwos T][CQuot T][CDigits T]
theorem zfn:∀k n,n<1000000000^k→(pieces n).length≤k
 | 0,n,h=>by
  have:n=0:=by omega
  subst this
  simp[zbx]
 | k+1,n,h=>by
  by_cases h0:n=0
  ·subst h0;simp[zbx]
  ·rw[zce h0]
   have:=zfn k (n/1000000000) (Nat.div_lt_of_lt_mul (by rw[Nat.mul_comm,←Nat.pow_succ];exact h))
   simp only[List.length_cons]
   omega
theorem zma(a:List UInt32):(pieces (val a)).length≤2*a.length:=by
 refine zfn _ _ (Nat.lt_of_lt_of_le (za0 a) ?_)
 rw[Nat.pow_mul]
 exact Nat.pow_le_pow_left (by decide) _
theorem znj:∀n,∀s∈pieces n,s.length=9:=by
 intro n
 induction n using Nat.strongRecOn with
 | _ n ih=>
  intro s hs
  by_cases h0:n=0
  ·subst h0;simp[zbx]at hs
  ·rw[zce h0]at hs
   rcases List.mem_cons.1 hs with rfl | hs
   ·exact ze0 9 _
   ·exact ih _ (Nat.div_lt_self (Nat.pos_of_ne_zero h0) (by decide)) s hs
theorem zjd:∀(k n:Nat),n≠0→n<10^k→(digK k n).dropWhile (· == 48)=textN n
 | 0,n,h0,h=>by omega
 | k+1,n,h0,h=>by
  rw[zd4]
  by_cases h1:n<10
  ·have e:n/10=0:=by omega
   have e2:n%10=n:=by omega
   have hz:∀j,(digK j 0).dropWhile (· == 48)=[]:=by
    intro j
    induction j with
    | zero=>rfl
    | succ j ih=>rw[zd4,List.dropWhile_append,Nat.zero_div,ih];rfl
   rw[e,e2,List.dropWhile_append,hz,zez h1]
   have:∀d,d<10→d≠0→List.dropWhile (fun x=>x == 48) [UInt8.ofNat (48+d)]=[UInt8.ofNat (48+d)]:=by decide
   simpa using this n h1 h0
  ·have ih:=zjd k (n/10) (by omega) (Nat.div_lt_of_lt_mul (by rw[Nat.mul_comm,←Nat.pow_succ];exact h))
   have hne:textN (n/10)≠[]:=by
    unfold textN
    by_cases h2:n/10<10
    ·rw[zi9 h2];simp
    ·rw[zou h2];simp
   rw[List.dropWhile_append,ih,zl5 h1]
   rw[if_neg (by simpa using hne)]
theorem zo1(j:Nat):∀(k n:Nat),digK (j+k) n=digK j (n/10^k)++digK k (n%10^k)
 | 0,n=>by simp[zh0]
 | k+1,n=>by
  rw[←Nat.add_assoc,zd4,zo1 j k (n/10),zd4,List.append_assoc]
  have e1:n/10/10^k=n/10^(k+1):=by rw[Nat.div_div_eq_div_mul,Nat.pow_succ,Nat.mul_comm]
  have e2:n/10%10^k=n%10^(k+1)/10:=by rw[Nat.pow_succ,Nat.mul_comm,Nat.mod_mul_right_div_self]
  have e3:n%10^(k+1)%10=n%10:=by rw[Nat.pow_succ,Nat.mod_mul_left_mod]
  rw[e1,e2,e3]
theorem znk:∀n,(pieces n).reverse.flatten=digK (9*(pieces n).length) n:=by
 intro n
 induction n using Nat.strongRecOn with
 | _ n ih=>
  by_cases h0:n=0
  ·subst h0;simp[zbx,zh0]
  ·rw[zce h0,List.reverse_cons,List.flatten_append,ih _ (Nat.div_lt_self (Nat.pos_of_ne_zero h0) (by decide))]
   simp only[List.length_cons,List.flatten_cons,List.flatten_nil,List.append_nil]
   rw[show 9*((pieces (n/1000000000)).length+1)=9*(pieces (n/1000000000)).length+9 by omega,zo1]
theorem zup:∀n,n<10^(9*(pieces n).length):=by
 intro n
 induction n using Nat.strongRecOn with
 | _ n ih=>
  by_cases h0:n=0
  ·subst h0;simp[zbx]
  ·have h:=ih _ (Nat.div_lt_self (Nat.pos_of_ne_zero h0) (by decide:1<1000000000))
   rw[zce h0,List.length_cons,Nat.mul_add,Nat.pow_add]
   exact(Nat.div_lt_iff_lt_mul (by decide:0<10^(9*1))).1 h
theorem znl(n:Nat)(h:n≠0):((pieces n).reverse.flatten).dropWhile (· == 48)=textN n:=by
 rw[znk]
 exact zjd _ n h (zup n)
theorem zcv:∀(l:List (List UInt8)),(∀s∈l,s.length=9)→l.flatten.length=9*l.length
 | [],_=>rfl
 | s::l,h=>by
  rw[List.flatten_cons,List.length_append,h s List.mem_cons_self,zcv l fun s hs=>h s (List.mem_cons_of_mem _ hs),List.length_cons]
  omega
def stT3(a:List UInt32):St:=⟨[(3,.bs (.loc 3) 1 1 0 0),(3,.sl [] .nl),(10,.b false),(9,.sl (u32s a) .an),(2,.s []),(0,.sl (u32s a) .an)],[(.loc 3,⟨1,.own,1,[]⟩)],2⟩
end
section
variable{T:Tbl}
theorem zabw(a:List UInt32):evX (orc T) T 0 tx3 ⟨[(10,.b false),(9,.sl (u32s a) .an),(2,.s []),(0,.sl (u32s a) .an)],[],1⟩=some (.n,stT3 a):=by
 simp -implicitDefEqProofs[tx3,stT3]
end
section
variable{T:Tbl}[CNat T][CQuot T][CDigits T]
theorem zabx(a:List UInt32)(hl:a.length≤1000):evX (orc T) T 0 txP (stT3 a) =
  some (.n,⟨[(3,.bs (.loc 3) 1 1 0 (pieces (val a)).length)],[((.loc 3),⟨1,.own,1,rowsS (pieces (val a))⟩)],3⟩):=by
 have hp:=zma a
 have h:=zwt (T:=T) (pieces (val a)).length (by omega) (pieces (val a)) (a,[]) ⟨by simpa using hl,rfl,rfl⟩
 unfold stTp at h
 simp[rowsS]at h
 simp -implicitDefEqProofs[stT3,txP,h,rowsS]
end
section
variable{T:Tbl}
theorem zql(res:List UInt8):∀l:List UInt8,(l.length≤1000000∧l.dropWhile (· == 48)=res) →
  loopN T 0 0 (.norm false [0]) l125_0 ⟨[(0,.s l),(1,u8 48)],[],2⟩=some (.n,⟨[(0,.s res)],[],2⟩):=by
 refine za4 (fun l:List UInt8=>⟨[(0,.s l),(1,u8 48)],[],2⟩) _ (fun l=>l.length) _ ?_
 rintro l ⟨hl,hr⟩
 cases l with
 | nil=>
  right
  simp at hr
  subst hr
  constructor<;>simp -implicitDefEqProofs[l125_0]
 | cons c r=>
  simp only[List.length_cons]at hl
  have h2:(0:Int)<(r.length:Int)+1:=by omega
  have h3:(1:Int)≤(r.length:Int)+1:=by omega
  by_cases hc:c=48
  ·left
   subst hc
   rw[List.dropWhile_cons_of_pos (by decide)]at hr
   exact⟨r,⟨by omega,hr⟩,Nat.lt_succ_self _,by simp -implicitDefEqProofs[l125_0,h2,h3],rfl⟩
  ·right
   rw[List.dropWhile_cons_of_neg (by simpa using hc)]at hr
   subst hr
   have hc':¬ c.toNat=48:=fun h=>hc (UInt8.toNat_inj.1 h)
   constructor<;>simp -implicitDefEqProofs[l125_0,h2,hc']
end
section
variable{T:Tbl}[CTrim T]
theorem zt7(l:List UInt8)(hl:l.length≤1000000):callF T 103 [.s l,.s [48]]=some (.s (l.dropWhile (· == 48))):=by
 have h:=zql (T:=T) _ l ⟨hl,rfl⟩
 have h1:callF T 125 [.s l,u8 48]=some (.s (l.dropWhile (· == 48))):=by
  rw[f125 _ rfl,b125]
  simp -implicitDefEqProofs[h]
 obtain⟨Z,hZ⟩:∃Z,b103=(.seq
 (.reg [⟨(some 4),none,.mov (.c (.s []))⟩])
 (.seq
  (.seq
  (.reg [⟨(some 7),none,.mov (.t 0)⟩,
   ⟨(some 8),none,.bin .eql (.t 7) (.c (.s []))⟩,
   ⟨(some 9),none,.mov (.t 8)⟩,
   ⟨(some 10),(some (9,false)),.mov (.t 1)⟩,
   ⟨(some 11),(some (9,false)),.bin .eql (.t 10) (.c (.s []))⟩,
   ⟨(some 12),none,.pick (.t 9) (.c (.b true)) (.t 11)⟩])
  (.cond (.t 12)
   (.seq
   (.reg [⟨(some 13),none,.mov (.t 0)⟩,
    ⟨(some 4),none,.mov (.t 13)⟩])
   (.pre (.norm false [4]) .ret))
   .skip))
  (.seq
  (.seq
   (.reg [⟨(some 14),none,.mov (.t 1)⟩,
    ⟨(some 15),none,.lens (.t 14)⟩,
    ⟨(some 16),none,.bin .eql (.t 15) (.c (.i .i64 1))⟩,
    ⟨(some 17),none,.mov (.t 16)⟩,
    ⟨(some 18),(some (17,true)),.mov (.t 1)⟩,
    ⟨(some 19),(some (17,true)),.ixs (.t 18) (.c (.i .i64 0))⟩,
    ⟨(some 20),(some (17,true)),.bin .lss (.t 19) (.c (u8 128))⟩,
    ⟨(some 21),none,.pick (.t 17) (.t 20) (.c (.b false))⟩])
   (.cond (.t 21)
   (.seq
    (.reg [⟨(some 22),none,.mov (.t 0)⟩,
     ⟨(some 23),none,.mov (.t 1)⟩,
     ⟨(some 24),none,.ixs (.t 23) (.c (.i .i64 0))⟩,
     ⟨(some 25),none,.call 125 [(.t 22),(.t 24)]⟩,
     ⟨(some 4),none,.mov (.t 25)⟩])
    (.pre (.norm false [4]) .ret))
   .skip)) Z)):AX):=⟨_,rfl⟩
 rw[f103 _ rfl,hZ]
 by_cases h0:l=[]
 ·subst h0
  simp -implicitDefEqProofs
 ·simp -implicitDefEqProofs[h0,h1]
end
section
variable{P:Program}{ν:Nat→FuncId}{T:Tbl}
theorem zsf(hT:TOk P ν T)(hm:P.follows .mixedOrders=true){cx:Cx}(hP:cx.P=P)(hk:cx.clk0=1)(c:AX){code:Code}{nt:Nat}(hnt:cx.nt=nt)(hres:resCode P nt code=some (er ν (tyNum T) c)){st:St}{e:Ex}{st':St}
  (h:evX (orc T) T 0 c st=some (e,st')) {a:Act} {w:World} (hr:Rel cx st a w) {K:Exit→Act→World→Prop} (hK:∀a' w',Rel cx st' a' w'→K e.out a' w'):code.wp P K a w:=by
 obtain⟨L,h1,h2⟩:=zck T 0 c st _ _ h
 obtain⟨n,hn⟩:=zmy T h1
 have hev:=zbf (GoodO.orcN hT hm n) (k:=0) (cx:=cx) hP hk c st e st' (h2 _ hn)
 subst hP hnt
 refine wp_mono (hev code hres hm a w hr) ?_
 rintro ex a' w' ⟨s,⟨rfl,rfl⟩,hr'⟩
 exact hK a' w' hr'
theorem zsg{nt:Nat}{w:World}{S:Nat→Nat→Prop}{cargs:Array Value}{args:List AV}(hl:cargs.size=args.length)(hn:args.length≤nt)
  (hC:∀(j:Nat) (v:Value) (c:AV),cargs[j]? = some v→args[j]? = some c→CP w S v c) (hS:∀k o,S k o→k<w.heap.size) :
  Rel ⟨P,nt,w,S,fun _=>none,1⟩ ⟨argEnv args,[],1⟩ { tmps:=cargs++Array.replicate (nt-cargs.size) undef,defers:=[] } w:=by
 refine⟨S,fun _=>none,by simp;omega,rfl,fun t=>?_,⟨⟨fun b bx hb=>(by simp at hb),fun g m hm=>(by cases hm),fun b bx b' bx' h1=>(by simp at h1),fun g g' k h1=>(by cases h1)⟩,
  Ext.refl _ _ _ _,⟨rfl,rfl,rfl,Nat.le_refl _,fun _ _ _=>rfl⟩,fun k o hs=>.inl hs,hS,fun g k hm=>(by cases hm)⟩⟩
 rw[zin]
 cases ha:args[t]? with
 | none=>exact .p (.dead _)
 | some x=>
  have htl:=zax ha
  have hv:cargs[t]? = some (cargs[t]'(by omega)):=Array.getElem?_eq_getElem _
  have e1:(cargs++Array.replicate (nt-cargs.size) undef).getD t undef=cargs[t]'(by omega):=by
   simp only[Array.getD_eq_getD_getElem?]
   rw[Array.getElem?_append_left (by omega),hv]
   rfl
  rw[e1]
  exact .p (hC t _ x hv ha)
theorem Rel.below{nt:Nat}{w0:World}{S:Nat→Nat→Prop}{st:St}{a:Act}{w:World}(h:Rel ⟨P,nt,w0,S,fun _=>none,1⟩ st a w):RowKit.Below w0.heap.size w0 w:=by
 obtain⟨S',M',hr⟩:=h
 exact⟨hr.wr.fr.os,hr.wr.fr.tape,hr.wr.fr.output,hr.wr.fr.size,fun k hk=>hr.wr.fr.block k hk fun⟨g,hg⟩=>(by cases hg)⟩
theorem Rel.strAt{cx:Cx}{st:St}{a:Act}{w:World}(h:Rel cx st a w){t:Nat}{l:List UInt8}(he:st.env.get t=.s l):a.tmps.getD t undef=.string ⟨l.toArray⟩:=by
 obtain⟨S',M',hr⟩:=h
 have:=hr.env t
 rw[he]at this
 generalize a.tmps.getD t undef=v at *
 cases this with
 | p h=>cases h;rfl
theorem Rel.strs{cx:Cx}{st:St}{a:Act}{w:World}(h:Rel cx st a w){t:Nat}{b:BId}{g n:Nat}{ls:List (List UInt8)}(hne:ls≠[])(he:st.env.get t=.bs b g 1 0 n)
  (hb:st.heap.lookup b=some ⟨g,.own,1,ls.map fun s=>[.s s]⟩):∃k arr e cap,a.tmps.getD t undef=.slice (some ⟨k,0,none⟩) n cap∧w.heap[k]? = some (.cells arr e (0,0))∧n≤cap∧cap≤maxLen∧cap≤arr.size ∧
   ∀(i:Nat) (s:List UInt8),ls[i]? = some s→arr[i]? = some (Value.string ⟨s.toArray⟩):=by
 obtain⟨S',M',hr⟩:=h
 have h1:=hr.env t
 rw[he]at h1
 obtain⟨_,_,m,hm,h2⟩:=hr.wr.heap.box b _ hb
 simp only at hm h2
 generalize a.tmps.getD t undef=v at *
 cases h1 with
 | p h=>cases h
 | bs _ _ _ _ _ _ hg hB h1=>
  unfold BsOk at hB
  rw[hm]at hB
  cases m with
  | none=>exact absurd (by simpa using h2.1) hne
  | some k=>
   obtain⟨arr,e,cap,hk,hv,c1,c2,c3⟩:=hB
   obtain⟨arr',e',hk',_,hcells,_⟩:=h2
   rw[hk]at hk'
   cases hk'
   refine⟨k,arr,e,cap,by rw[hv],hk,c1,c2,by omega,fun i s hi=>?_⟩
   obtain⟨u,hu,_,_,hc⟩:=hcells i [.s s] 0 (.s s) (by simp[hi]) rfl
   have:=hc (by simp)
   rw[Nat.mul_one,Nat.add_zero]at hu
   cases this
   exact hu
end
end Go.Ab
section
namespace Go.Proofs.YtebcadckeepbdaaGreatDoor
open Go Go.Ab Go.RowKit
theorem list_cons{α:Type}{n:Nat}{l:List α}(h:l.length=n+1):∃x t,l=x::t∧t.length=n:=by
 cases l with
 | nil=>simp at h
 | cons x t=>exact⟨x,t,rfl,by simpa using h⟩
set_option maxHeartbeats 2000000 in
set_option maxRecDepth 100000 in
theorem text_calls(hm:Tryz.prog.follows .mixedOrders=true)(a:List UInt32)(hl:a.length≤1000){w0:World}{S:Nat→Nat→Prop}{cargs:Array Value}(hsz:cargs.size=1)
  (hC:∀(j:Nat) (v:Value) (c:AV),cargs[j]? = some v→[AV.sl (u32s a) .an][j]? = some c→CP w0 S v c) (hS:∀k o,S k o→k<w0.heap.size) :
  Calls Tryz.prog 90 cargs w0 fun e w'=>e=.returned (.string ⟨(textN (val a)).toArray⟩)∧Below w0.heap.size w0 w':=by
 refine calls_of_wp Tryz.func90 rfl ?_
 have h0:=zsg (P:=Tryz.prog) (nt:=40) (w:=w0) (S:=S) (cargs:=cargs) (args:=[AV.sl (u32s a) .an]) (by simpa using hsz) (by simp) hC hS
 refine wp_seq (zsf sTab_ok hm (cx:=⟨Tryz.prog,40,w0,S,fun _=>none,1⟩) rfl rfl tx0 (nt:=40) rfl (by kernel_rfl) (sTab_part.ev (by kernel_rfl) (zabv (T:=tab) _)) h0 fun a1 w1 h1=>?_)
 refine wp_seq ?_
 by_cases hz:val a=0
 ·refine zsf sTab_ok hm (cx:=⟨Tryz.prog,40,w0,S,fun _=>none,1⟩) rfl rfl txA (nt:=40) rfl (by kernel_rfl) (sTab_part.ev (by kernel_rfl) (z4x (T:=tab) a hl hz)) h1 fun a2 w2 h2=>?_
  have hv:=h2.strAt (t:=2) (l:=[48]) rfl
  have hb:=h2.below
  have ht:textN (val a)=[48]:=by rw[hz];exact zez (by decide)
  obtain⟨_,_,hr2⟩:=h2
  refine(show bodyPost Tryz.prog Tryz.f90 (fun e w'=>e=.returned (.string ⟨(textN (val a)).toArray⟩)∧Below w0.heap.size w0 w') .ret a2 w2 from ?_)
  refine⟨hr2.defers,.string ⟨[48].toArray⟩,?_,by rw[ht],hb⟩
  rw[←hv]
  exact results_tmp rfl _ _ _
 ·refine zsf sTab_ok hm (cx:=⟨Tryz.prog,40,w0,S,fun _=>none,1⟩) rfl rfl txA (nt:=40) rfl (by kernel_rfl) (sTab_part.ev (by kernel_rfl) (z4y (T:=tab) a hl hz)) h1 fun a2 w2 h2=>?_
  refine wp_seq (zsf sTab_ok hm (cx:=⟨Tryz.prog,40,w0,S,fun _=>none,1⟩) rfl rfl tx3 (nt:=40) rfl (by kernel_rfl) (sTab_part.ev (by kernel_rfl) (zabw (T:=tab) a)) h2 fun a3 w3 h3=>?_)
  refine wp_seq (zsf sTab_ok hm (cx:=⟨Tryz.prog,40,w0,S,fun _=>none,1⟩) rfl rfl txP (nt:=40) rfl (by kernel_rfl) (sTab_part.ev (by kernel_rfl) (zabx (T:=tab) a hl)) h3 fun a4 w4 h4=>?_)
  have hb4:=h4.below
  have hne:pieces (val a)≠[]:=by rw[zce hz];simp
  obtain⟨k,arr,e,cap,hv,hk,hc1,hc2,hc3,hcells⟩:=h4.strs (t:=3) (ls:=pieces (val a)) hne rfl (by simp[rowsS])
  obtain⟨_,_,hr4⟩:=h4
  have hdf:=hr4.defers
  have hsz:=hr4.size
  have hpl:=zma a
  clear hr4 h0 h1 h2 h3
  change Code.wp _ _ _ a4 w4
  obtain⟨tm,df⟩:=a4
  obtain⟨l,rfl⟩:∃l:List Value,tm=l.toArray:=⟨tm.toList,by simp⟩
  simp only[List.size_toArray]at hsz
  simp only at hdf
  subst hdf
  obtain⟨x0,l0,rfl,s0⟩:=list_cons hsz
  obtain⟨x1,l1,rfl,s1⟩:=list_cons s0
  obtain⟨x2,l2,rfl,s2⟩:=list_cons s1
  obtain⟨x3,l3,rfl,s3⟩:=list_cons s2
  obtain⟨x4,l4,rfl,s4⟩:=list_cons s3
  obtain⟨x5,l5,rfl,s5⟩:=list_cons s4
  obtain⟨x6,l6,rfl,s6⟩:=list_cons s5
  obtain⟨x7,l7,rfl,s7⟩:=list_cons s6
  obtain⟨x8,l8,rfl,s8⟩:=list_cons s7
  obtain⟨x9,l9,rfl,s9⟩:=list_cons s8
  obtain⟨x10,l10,rfl,s10⟩:=list_cons s9
  obtain⟨x11,l11,rfl,s11⟩:=list_cons s10
  obtain⟨x12,l12,rfl,s12⟩:=list_cons s11
  obtain⟨x13,l13,rfl,s13⟩:=list_cons s12
  obtain⟨x14,l14,rfl,s14⟩:=list_cons s13
  obtain⟨x15,l15,rfl,s15⟩:=list_cons s14
  obtain⟨x16,l16,rfl,s16⟩:=list_cons s15
  obtain⟨x17,l17,rfl,s17⟩:=list_cons s16
  obtain⟨x18,l18,rfl,s18⟩:=list_cons s17
  obtain⟨x19,l19,rfl,s19⟩:=list_cons s18
  obtain⟨x20,l20,rfl,s20⟩:=list_cons s19
  obtain⟨x21,l21,rfl,s21⟩:=list_cons s20
  obtain⟨x22,l22,rfl,s22⟩:=list_cons s21
  obtain⟨x23,l23,rfl,s23⟩:=list_cons s22
  obtain⟨x24,l24,rfl,s24⟩:=list_cons s23
  obtain⟨x25,l25,rfl,s25⟩:=list_cons s24
  obtain⟨x26,l26,rfl,s26⟩:=list_cons s25
  obtain⟨x27,l27,rfl,s27⟩:=list_cons s26
  obtain⟨x28,l28,rfl,s28⟩:=list_cons s27
  obtain⟨x29,l29,rfl,s29⟩:=list_cons s28
  obtain⟨x30,l30,rfl,s30⟩:=list_cons s29
  obtain⟨x31,l31,rfl,s31⟩:=list_cons s30
  obtain⟨x32,l32,rfl,s32⟩:=list_cons s31
  obtain⟨x33,l33,rfl,s33⟩:=list_cons s32
  obtain⟨x34,l34,rfl,s34⟩:=list_cons s33
  obtain⟨x35,l35,rfl,s35⟩:=list_cons s34
  obtain⟨x36,l36,rfl,s36⟩:=list_cons s35
  obtain⟨x37,l37,rfl,s37⟩:=list_cons s36
  obtain⟨x38,l38,rfl,s38⟩:=list_cons s37
  obtain⟨x39,l39,rfl,s39⟩:=list_cons s38
  cases List.eq_nil_of_length_eq_zero s39
  have hx3:x3=.slice (some ⟨k,0,none⟩) (pieces (val a)).length cap:=hv
  subst hx3
  have hjoin:=znl (val a) hz
  have hall:=znj (val a)
  generalize pieces (val a)=ps at *
  have HC:Aside (∀(i:Nat) (s:List UInt8),ps[i]? = some s→arr[i]? = some (Value.string ⟨s.toArray⟩)):=hcells
  have HJ:Aside (List.dropWhile (fun x=>x == 48) ps.reverse.flatten=textN (val a)):=hjoin
  have HN:Aside (∀s∈ps,s.length=9):=hall
  have HB:Aside (Below w0.heap.size w0 w4):=hb4
  have HK:Aside (w4.heap[k]? = some (.cells arr e (0,0))):=hk
  have hk4:k<w4.heap.size:=by
   rcases Nat.lt_or_ge k w4.heap.size with h' | h'
   ·exact h'
   ·simp[Array.getElem?_eq_none h']at hk
  clear hcells hjoin hall hb4 hk
  go_wp2
  go_loopg [8] ps.length (fun g s8 wx=>s8=.int .i64 ((g:Int)-1)∧g≤ps.length∧Aside (Lib.IsBuilder 158 5 w4.heap.size w4.heap.size (Lib.byteCells (ps.drop g).reverse.flatten) wx∧Below w4.heap.size w4 wx))
  case atStart=>exact⟨rfl,Nat.le_refl _,by rw[List.drop_length];exact Lib.fresh_isBuilder 158 5 w4,(Below.refl _ _).alloc (Nat.le_refl _) _⟩
  case round=>
   obtain⟨rfl,hg,HW⟩:=hrel
   cases gk with
   | zero=>
    obtain⟨hBld,hBel⟩:=HW.out
    rw[List.drop_zero]at hBld
    have hne':ps.reverse.flatten≠[]:=by
     intro h
     have:=zcv ps.reverse (fun s hs=>HN.out s (List.mem_reverse.1 hs))
     rw[h]at this
     simp at this
     exact hne (List.eq_nil_of_length_eq_zero (by omega))
    have HT:Aside (ps.reverse.flatten≠[]):=hne'
    clear hne'
    have hlenF:ps.reverse.flatten.length≤1000000:=by
     rw[zcv ps.reverse (fun s hs=>HN.out s (List.mem_reverse.1 hs)),List.length_reverse]
     omega
    have hT:∀W:World,Calls Tryz.prog 116 #[.string ⟨ps.reverse.flatten.toArray⟩,.string ⟨#[48]⟩] W fun e w'=>e=.returned (.string ⟨(textN (val a)).toArray⟩)∧Below W.heap.size W w':=by
     intro W
     have h1:=zhk sTab_ok hm (u:=103) rfl rfl (sTab_part.call (by kernel_rfl) (zt7 (T:=tab) ps.reverse.flatten hlenF))
     rw[HJ.out]at h1
     refine(h1.2 W (fun _ _=>False) #[.string ⟨ps.reverse.flatten.toArray⟩,.string ⟨#[48]⟩] rfl (fun j v c hv hc=>?_) (fun _ _ h=>h.elim)).mono ?_
     ·match j,hv,hc with
      | 0,hv,hc=>cases hv;cases hc;exact .s _
      | 1,hv,hc=>cases hv;cases hc;exact .s _
     ·rintro e w' ⟨v,r,rfl,rfl,hb,hc⟩
      cases hc
      exact⟨rfl,hb⟩
    have HTT:=hT
    clear hT
    go_wp2_with (go_at_call 93;refine(Tryz.bString w4.heap.size w4.heap.size ps.reverse.flatten wr hBld HT.out).mono ?_)
    rintro e1 w5 ⟨rfl,hb5⟩
    go_wp2_with (go_at_call 116;refine(HTT w5).mono ?_)
    rintro e2 w6 ⟨rfl,hb6⟩
    go_wp2
    go_ret
    refine⟨rfl,?_⟩
    have hs1:=HB.out.size
    have hs5:=(hBel.trans hb5).size
    exact HB.out.trans (((hBel.trans hb5).mono hs1).trans (hb6.mono (by omega)))
   | succ j=>
    obtain⟨hBld,hBel⟩:=HW.out
    obtain⟨s,hs⟩:∃s,ps[j]? = some s:=⟨_,List.getElem?_eq_getElem (by omega)⟩
    have hcell:wr.cell? ⟨k,j,none⟩=some (.string ⟨s.toArray⟩):=by
     rw[hBel.cell (p:=⟨k,j,none⟩) hk4,Lib.cell_of_heap HK.out]
     exact HC.out j s hs
    have hs9:s.length=9:=HN.out s (List.mem_of_getElem? hs)
    have hflen:=zcv (ps.drop (j+1)).reverse (fun s hs=>HN.out s (List.mem_of_mem_drop (List.mem_reverse.1 hs)))
    have HS:Aside (ps[j]? = some s):=hs
    clear hs
    rw[List.length_reverse,List.length_drop]at hflen
    have hbound:(Lib.byteCells (ps.drop (j+1)).reverse.flatten).length+(⟨s.toArray⟩:ByteArray).size≤140737488355328:=by
     rw[Lib.byteCells_length,hflen]
     show _+s.toArray.size≤_
     simp only[List.size_toArray]
     omega
    have HF:Aside ((Lib.byteCells (ps.drop (j+1)).reverse.flatten).length+(⟨s.toArray⟩:ByteArray).size≤140737488355328):=hbound
    clear hflen hbound
    go_wp2_with (go_at_call 92;refine(Tryz.bWrite w4.heap.size w4.heap.size _ ⟨s.toArray⟩ wr hBld HF.out hBel.size).mono ?_)
    rintro e1 w5 ⟨rfl,h5,hb5⟩
    go_wp2
    go_roundg j
    case measure=>omega
    case rel=>
     refine⟨by congr 1,by omega,?_,hBel.trans hb5⟩
     have e1:(ps.drop j).reverse.flatten=(ps.drop (j+1)).reverse.flatten++s:=by
      obtain⟨hj,he⟩:=List.getElem?_eq_some_iff.1 HS.out
      rw[List.drop_eq_getElem_cons hj,he]
      simp
     rw[e1,Lib.byteCells_append]
     exact .inr h5
theorem word_rows:∀(els:List (List AV)) (l:List UInt32),els.mapM wordOf=some l→els=u32s l
 | [],l,h=>by cases h;rfl
 | r::els,l,h=>by
  rw[List.mapM_cons]at h
  obtain⟨x,hx,h1⟩:=bind_some h
  obtain⟨y,hy,h2⟩:=bind_some h1
  cases h2
  rw[word_rows els y hy]
  unfold wordOf at hx
  split at hx
  ·split at hx
   ·cases hx
    rename_i n hn
    have:(w32 n.toNat).toNat=n.toNat:=zag (by omega)
    simp only[u32s,List.map_cons,this,u32]
    rw[Int.toNat_of_nonneg hn.1]
   ·cases hx
  ·cases hx
theorem text_ok(hm:Tryz.prog.follows .mixedOrders=true):∀xs r,prim68 xs=some r→PCall Tryz.prog (nu 68) xs (·=r):=by
 intro xs r h
 unfold prim68 at h
 split at h
 ·split at h
  ·rename_i els hl
   cases hw:els.mapM wordOf with
   | none=>rw[hw]at h;cases h
   | some l=>
    rw[hw]at h
    cases h
    have he:=word_rows els l hw
    subst he
    rw[zhm]at hl
    refine⟨enters_of Tryz.func90 (by kernel_rfl) rfl,fun w S cargs hsz hC hS=>?_⟩
    refine(text_calls hm l hl (by simpa using hsz) hC hS).mono ?_
    rintro e w' ⟨rfl,hb⟩
    exact⟨_,_,rfl,rfl,hb,.s _⟩
  ·cases h
 ·cases h
#print axioms text_ok
end Go.Proofs.YtebcadckeepbdaaGreatDoor
end
section
set_option linter.unusedVariables false
namespace Go.Proofs
open Go.Shelf Go.RowKit
variable{P:Program}{ρ:Ren}
structure JL (P:Program) (ρ:Ren):Prop extends Lays.n169 P ρ,Lays.n241 P ρ,Builder.Extra P ρ where
 f156:P.funcs[ρ.f 156]? = some (Body.n156 ρ)
 f165:P.funcs[ρ.f 165]? = some (Body.n165 ρ)
 f166:P.funcs[ρ.f 166]? = some (Body.n166 ρ)
 t4:P.underlying (ρ.t 4)=some (TypeDesc.bool)
 a4:∀w,(isAgg (ρ.t 4)).run P w=.ok false w
 z4:∀w,(Go.sizeOf (ρ.t 4)).run P w=.ok 1 w
 v4:∀w,(zeroValue (ρ.t 4)).run P w=.ok (Value.bool false) w
 t20:P.underlying (ρ.t 20)=some (TypeDesc.interface #[])
 a20:∀w,(isAgg (ρ.t 20)).run P w=.ok false w
 z20:∀w,(Go.sizeOf (ρ.t 20)).run P w=.ok 1 w
 v20:∀w,(zeroValue (ρ.t 20)).run P w=.ok (Value.nilIface) w
 t31:P.underlying (ρ.t 31)=some (TypeDesc.slice (ρ.t 9))
 a31:∀w,(isAgg (ρ.t 31)).run P w=.ok false w
 z31:∀w,(Go.sizeOf (ρ.t 31)).run P w=.ok 1 w
 v31:∀w,(zeroValue (ρ.t 31)).run P w=.ok (Value.slice none 0 0) w
 t75:P.underlying (ρ.t 75)=some (TypeDesc.interface #[("Error",ρ.t 80)])
 a75:∀w,(isAgg (ρ.t 75)).run P w=.ok false w
 z75:∀w,(Go.sizeOf (ρ.t 75)).run P w=.ok 1 w
 v75:∀w,(zeroValue (ρ.t 75)).run P w=.ok (Value.nilIface) w
 t76:P.underlying (ρ.t 76)=some (TypeDesc.tuple #[ρ.t 3,ρ.t 75])
 a76:∀w,(isAgg (ρ.t 76)).run P w=.ok false w
 z76:∀w,(Go.sizeOf (ρ.t 76)).run P w=.ok 1 w
 v76:∀w,(zeroValue (ρ.t 76)).run P w=.ok (Value.tuple #[Value.int IntKind.i64 0,Value.nilIface]) w
 t164:P.underlying (ρ.t 164)=some (TypeDesc.unsafePointer)
 a164:∀w,(isAgg (ρ.t 164)).run P w=.ok false w
 z164:∀w,(Go.sizeOf (ρ.t 164)).run P w=.ok 1 w
 v164:∀w,(zeroValue (ρ.t 164)).run P w=.ok (Value.pointer none) w
 e240:∀args w,(callFunc (ρ.f 240) args).run P w=.ok (.enter (ρ.f 240) args) w
 c240:∀(B b:Nat) (bs:List Value) (w:World),Lib.IsBuilder (ρ.t 72) (ρ.t 5) B b bs w →
  Calls P (ρ.f 240) #[.pointer (some ⟨b,0,none⟩)] w fun e w'=>e=.returned (.tuple #[])∧(Lib.BuilderAt (ρ.t 72) (ρ.t 5) B b (.pointer (some ⟨b,0,none⟩)) bs w'∧Below B w w')
 c240f:∀(b:Nat) (w:World),w.cell? ⟨b,0,none⟩=some (.pointer none)→w.shape? b=some ((ρ.t 72),2)→w.frozen? ⟨b,0,none⟩=false →
  Calls P (ρ.f 240) #[.pointer (some ⟨b,0,none⟩)] w fun e w'=>e=.returned (.tuple #[])∧w'=w.setCell ⟨b,0,none⟩ (.pointer (some ⟨b,0,none⟩))
theorem Jl.hid{p:Prop}(h:p):Hid p:=h
set_option maxHeartbeats 2000000 in
set_option maxRecDepth 100000 in
theorem Jl.Builder_WriteString(L:JL P ρ)(B b:Nat)(bs:List Value)(s:ByteArray)(w:World)(h:Lib.IsBuilder (ρ.t 72) (ρ.t 5) B b bs w)(hlen:bs.length+s.size≤140737488355328)(hBw:B≤w.heap.size) :
  Calls P (ρ.f 166) #[.pointer (some ⟨b,0,none⟩),.string s] w fun e w'=>e=.returned (.tuple #[.int .i64 s.size,.nilIface])∧(Lib.BuilderAt (ρ.t 72) (ρ.t 5) B b (.pointer (some ⟨b,0,none⟩)) (bs++Lib.strCells s) w'∧Below B w w'):=by
 obtain⟨i0,hi,hz0,hz1,hz2⟩:=info_parts L.infoByte
 have mixed:=L.mixed
 have t72:=L.t72;have a72:=L.a72;have z72:=L.z72;have v72:=L.v72;have u72:=run_underlying L.t72
 have t70:=L.t70;have a70:=L.a70;have z70:=L.z70;have v70:=L.v70;have u70:=run_underlying L.t70
 have t37:=L.t37;have a37:=L.a37;have z37:=L.z37;have v37:=L.v37;have u37:=run_underlying L.t37
 have t3:=L.t3;have a3:=L.a3;have z3:=L.z3;have v3:=L.v3;have u3:=run_underlying L.t3
 have t9:=L.t9;have a9:=L.a9;have z9:=L.z9;have v9:=L.v9;have u9:=run_underlying L.t9
 have t4:=L.t4;have a4:=L.a4;have z4:=L.z4;have v4:=L.v4;have u4:=run_underlying L.t4
 have t164:=L.t164;have a164:=L.a164;have z164:=L.z164;have v164:=L.v164;have u164:=run_underlying L.t164
 have t5:=L.t5;have a5:=L.a5;have z5:=L.z5;have v5:=L.v5;have u5:=run_underlying L.t5
 have e240:∀args w,(callFunc (ρ.f 240) args).run P w=.ok (.enter (ρ.f 240) args) w:=L.e240
 go_enter L.f166,Body.n166_ntmps ρ
 go_wp2_with (go_at_fn (ρ.f 240);refine(L.c240 B b bs _ h).mono ?_)
 rintro e w1 ⟨rfl,h1,hb1⟩
 obtain⟨hB,v,hbk,hown,hne⟩:=h1
 have c0:w1.cell? ⟨b,0,none⟩=some (.pointer (some ⟨b,0,none⟩)):=by rw[Lib.cell_of_heap hbk];rfl
 have c1:w1.cell? ⟨b,1,none⟩=some v:=by rw[Lib.cell_of_heap hbk];rfl
 go_wp2_with (at_builtin;refine Lib.wpList_append_own_string _ rfl _ _ (ρ.t 37) (ρ.t 9) rfl B (ρ.t 5) i0 L.t37 L.t9 hi hz0 hz1 hz2 _ _ _ rfl hown s rfl ?c3 ?c4 ?c5 ?_)
 case c3=>unfold maxLen;omega
 case c4=>omega
 case c5=>have:=hb1.size;omega
 intro v' w2 hown' hgrow _
 have hlt:b<w1.heap.size:=by
  rcases Nat.lt_or_ge b w1.heap.size with h' | h'
  ·exact h'
  ·simp[Array.getElem?_eq_none h']at hbk
 have hb2:w2.heap[b]? = some (.cells #[.pointer (some ⟨b,0,none⟩),v] (ρ.t 72) (0,0)):=by
  rw[hgrow.block b hlt (fun e=>hne e.symm)]
  exact hbk
 have d0:w2.cell? ⟨b,0,none⟩=some (.pointer (some ⟨b,0,none⟩)):=by rw[Lib.cell_of_heap hb2];rfl
 have d1:w2.cell? ⟨b,1,none⟩=some v:=by rw[Lib.cell_of_heap hb2];rfl
 have f1:w2.frozen? ⟨b,1,none⟩=false:=Lib.frozen_of_heap hb2 1
 obtain⟨ao,n',cap,rfl⟩:∃ao n' cap,v'=.slice ao n' cap:=by
  rcases hown'.2 with ⟨hv,_⟩ | ⟨g,cap,cur,hv,_⟩
  ·exact⟨_,_,_,hv⟩
  ·exact⟨_,_,_,hv⟩
 go_wp2
 go_ret2
 refine⟨rfl,?_,?_⟩
 ·exact Lib.BuilderAt.put (T:=(ρ.t 72)) (e:=(ρ.t 5)) hB hb2 (bs':=bs++Lib.strCells s) (by simpa[Lib.strCells_length]using hown') L.neB5
 ·exact(hb1.grown hgrow (by have:=hb1.size;omega) (fun k hk=>(hown.lt k hk).1)).setCell (p:=⟨b,1,none⟩) hB _
set_option maxHeartbeats 2000000 in
set_option maxRecDepth 1000000 in
theorem Jl.Builder_Grow_fresh(L:JL P ρ)(B b n:Nat)(w:World)(hB:B≤b)(hbk:w.heap[b]? = some (.cells #[.pointer none,.slice none 0 0] (ρ.t 72) (0,0)))(hBw:B≤w.heap.size)(hn:n≤281474976710656) :
  Calls P (ρ.f 165) #[.pointer (some ⟨b,0,none⟩),.int .i64 n] w fun e w'=>e=.returned (.tuple #[])∧(Lib.BuilderAt (ρ.t 72) (ρ.t 5) B b (.pointer (some ⟨b,0,none⟩)) [] w'∧Below B w w'):=by
 have hbk1:(w.setCell ⟨b,0,none⟩ (.pointer (some ⟨b,0,none⟩))).heap[b]? = some (.cells #[.pointer (some ⟨b,0,none⟩),.slice none 0 0] (ρ.t 72) (0,0)):=by
  simp[World.setCell,Array.getElem?_modify,hbk]
 have c1:(w.setCell ⟨b,0,none⟩ (.pointer (some ⟨b,0,none⟩))).cell? ⟨b,1,none⟩=some (.slice none 0 0):=by rw[Lib.cell_of_heap hbk1];rfl
 have hb1:Below B w (w.setCell ⟨b,0,none⟩ (.pointer (some ⟨b,0,none⟩))):=(Below.refl B w).setCell (p:=⟨b,0,none⟩) hB _
 have mixed:=L.mixed
 have t72:=L.t72;have a72:=L.a72;have z72:=L.z72;have v72:=L.v72;have u72:=run_underlying L.t72
 have t70:=L.t70;have a70:=L.a70;have z70:=L.z70;have v70:=L.v70;have u70:=run_underlying L.t70
 have t37:=L.t37;have a37:=L.a37;have z37:=L.z37;have v37:=L.v37;have u37:=run_underlying L.t37
 have t3:=L.t3;have a3:=L.a3;have z3:=L.z3;have v3:=L.v3;have u3:=run_underlying L.t3
 have t9:=L.t9;have a9:=L.a9;have z9:=L.z9;have v9:=L.v9;have u9:=run_underlying L.t9
 have t4:=L.t4;have a4:=L.a4;have z4:=L.z4;have v4:=L.v4;have u4:=run_underlying L.t4
 have t164:=L.t164;have a164:=L.a164;have z164:=L.z164;have v164:=L.v164;have u164:=run_underlying L.t164
 have t5:=L.t5;have a5:=L.a5;have z5:=L.z5;have v5:=L.v5;have u5:=run_underlying L.t5
 have e240:∀args w,(callFunc (ρ.f 240) args).run P w=.ok (.enter (ρ.f 240) args) w:=L.e240
 have e241:∀args w,(callFunc (ρ.f 241) args).run P w=.ok (.enter (ρ.f 241) args) w:=enters_of L.f241 (by kernel_rfl) rfl
 go_enter L.f165,Body.n165_ntmps ρ
 have hU:Lib.BuilderAt (ρ.t 72) (ρ.t 5) B b (.pointer (some ⟨b,0,none⟩)) [] (w.setCell ⟨b,0,none⟩ (.pointer (some ⟨b,0,none⟩))):=⟨hB,.slice none 0 0,hbk1,World.ownsRow_nil _ _ _ _,by simp[Value.ownBlock]⟩
 have c1':(w.setCell ⟨b,0,none⟩ (.pointer (some ⟨b,0,none⟩))).drew.cell? ⟨b,1,none⟩=some (.slice none 0 0):=c1
 go_wp2_with (go_at_fn (ρ.f 240);refine(L.c240f b w (by rw[Lib.cell_of_heap hbk];rfl) (by simp[World.shape?,hbk]) (Lib.frozen_of_heap hbk 0)).mono ?_;rintro e w' ⟨rfl,rfl⟩)
 go_region_o
 all_goals go_wp2_with (go_at_fn (ρ.f 241);refine(Any.Builder_grow_fresh L.ton241 L.toExtra B b n (w.setCell ⟨b,0,none⟩ (.pointer (some ⟨b,0,none⟩))).drew hB hbk1 (by simpa[World.setCell,World.drew,-World.drew_eq]using hBw) hn).mono ?_;rintro e w' ⟨rfl,h1,h2⟩)
 all_goals first
  | (go_end0;exact⟨rfl,h1,hb1.drew.trans h2⟩)
  | (go_end0;exact⟨rfl,hU.drew,hb1.drew⟩)
theorem Jl.strings_Join_none(L:JL P ρ)(a:Option Addr)(c:Nat)(sep:ByteArray)(w:World) :
  Calls P (ρ.f 156) #[.slice a 0 c,.string sep] w fun e w'=>e=.returned (.string ⟨#[]⟩)∧w'=w:=by
 have mixed:=L.mixed
 have t72:=L.t72;have a72:=L.a72;have z72:=L.z72;have v72:=L.v72;have u72:=run_underlying L.t72
 have t70:=L.t70;have a70:=L.a70;have z70:=L.z70;have v70:=L.v70;have u70:=run_underlying L.t70
 have t37:=L.t37;have a37:=L.a37;have z37:=L.z37;have v37:=L.v37;have u37:=run_underlying L.t37
 have t127:=L.t127;have a127:=L.a127;have z127:=L.z127;have v127:=L.v127;have u127:=run_underlying L.t127
 have t3:=L.t3;have a3:=L.a3;have z3:=L.z3;have v3:=L.v3;have u3:=run_underlying L.t3
 have t9:=L.t9;have a9:=L.a9;have z9:=L.z9;have v9:=L.v9;have u9:=run_underlying L.t9
 have t4:=L.t4;have a4:=L.a4;have z4:=L.z4;have v4:=L.v4;have u4:=run_underlying L.t4
 have t164:=L.t164;have a164:=L.a164;have z164:=L.z164;have v164:=L.v164;have u164:=run_underlying L.t164
 have t31:=L.t31;have a31:=L.a31;have z31:=L.z31;have v31:=L.v31;have u31:=run_underlying L.t31
 have t5:=L.t5;have a5:=L.a5;have z5:=L.z5;have v5:=L.v5;have u5:=run_underlying L.t5
 have e240:∀args w,(callFunc (ρ.f 240) args).run P w=.ok (.enter (ρ.f 240) args) w:=L.e240
 have e241:∀args w,(callFunc (ρ.f 241) args).run P w=.ok (.enter (ρ.f 241) args) w:=enters_of L.f241 (by kernel_rfl) rfl
 have e165:∀args w,(callFunc (ρ.f 165) args).run P w=.ok (.enter (ρ.f 165) args) w:=enters_of L.f165 (by kernel_rfl) rfl
 have e166:∀args w,(callFunc (ρ.f 166) args).run P w=.ok (.enter (ρ.f 166) args) w:=enters_of L.f166 (by kernel_rfl) rfl
 have e169:∀args w,(callFunc (ρ.f 169) args).run P w=.ok (.enter (ρ.f 169) args) w:=enters_of L.f169 (by kernel_rfl) rfl
 go_enter L.f156,Body.n156_ntmps ρ
 go_wp2
 go_ret
 exact⟨rfl,rfl⟩
theorem Jl.strings_Join_one(L:JL P ρ)(bk o c:Nat)(x sep:ByteArray)(w:World)(hc:w.cell? ⟨bk,o,none⟩=some (.string x)) :
  Calls P (ρ.f 156) #[.slice (some ⟨bk,o,none⟩) 1 c,.string sep] w fun e w'=>e=.returned (.string x)∧w'=w:=by
 have mixed:=L.mixed
 have t72:=L.t72;have a72:=L.a72;have z72:=L.z72;have v72:=L.v72;have u72:=run_underlying L.t72
 have t70:=L.t70;have a70:=L.a70;have z70:=L.z70;have v70:=L.v70;have u70:=run_underlying L.t70
 have t37:=L.t37;have a37:=L.a37;have z37:=L.z37;have v37:=L.v37;have u37:=run_underlying L.t37
 have t127:=L.t127;have a127:=L.a127;have z127:=L.z127;have v127:=L.v127;have u127:=run_underlying L.t127
 have t3:=L.t3;have a3:=L.a3;have z3:=L.z3;have v3:=L.v3;have u3:=run_underlying L.t3
 have t9:=L.t9;have a9:=L.a9;have z9:=L.z9;have v9:=L.v9;have u9:=run_underlying L.t9
 have t4:=L.t4;have a4:=L.a4;have z4:=L.z4;have v4:=L.v4;have u4:=run_underlying L.t4
 have t164:=L.t164;have a164:=L.a164;have z164:=L.z164;have v164:=L.v164;have u164:=run_underlying L.t164
 have t31:=L.t31;have a31:=L.a31;have z31:=L.z31;have v31:=L.v31;have u31:=run_underlying L.t31
 have t5:=L.t5;have a5:=L.a5;have z5:=L.z5;have v5:=L.v5;have u5:=run_underlying L.t5
 have e240:∀args w,(callFunc (ρ.f 240) args).run P w=.ok (.enter (ρ.f 240) args) w:=L.e240
 have e241:∀args w,(callFunc (ρ.f 241) args).run P w=.ok (.enter (ρ.f 241) args) w:=enters_of L.f241 (by kernel_rfl) rfl
 have e165:∀args w,(callFunc (ρ.f 165) args).run P w=.ok (.enter (ρ.f 165) args) w:=enters_of L.f165 (by kernel_rfl) rfl
 have e166:∀args w,(callFunc (ρ.f 166) args).run P w=.ok (.enter (ρ.f 166) args) w:=enters_of L.f166 (by kernel_rfl) rfl
 have e169:∀args w,(callFunc (ρ.f 169) args).run P w=.ok (.enter (ρ.f 169) args) w:=enters_of L.f169 (by kernel_rfl) rfl
 go_enter L.f156,Body.n156_ntmps ρ
 go_wp2
 go_ret
 exact⟨rfl,rfl⟩
set_option maxHeartbeats 4000000 in
set_option maxRecDepth 100000 in
theorem Jl.strings_Join_many(L:JL P ρ)(bk o c:Nat)(xs:List ByteArray)(sep:ByteArray)(w:World)
  (hcells:∀(j:Nat) x,xs[j]? = some x→w.cell? ⟨bk,o+j,none⟩=some (.string x))
  (hbk:bk<w.heap.size) (h2:2≤xs.length) (hN:xs.length≤140737488355328) (hcap:xs.length≤c)
  (hlen:(Lib.join (xs.map (·.data.toList)) sep.data.toList).length≤140737488355328) :
  Calls P (ρ.f 156) #[.slice (some ⟨bk,o,none⟩) xs.length c,.string sep] w fun e w'=>e=.returned (.string ⟨(Lib.join (xs.map (·.data.toList)) sep.data.toList).toArray⟩)∧Below w.heap.size w w':=by
 have HC:=Jl.hid hcells
 clear hcells
 -- the lengths
 obtain⟨x0,r,hxs⟩:∃x0 r,xs=x0::r:=by
  cases xs with
  | nil=>simp at h2
  | cons a t=>exact⟨a,t,rfl⟩
 have hjl:sep.size*(xs.length-1)+Lib.lens (xs.map (·.data.toList))≤140737488355328:=by
  have:=Lib.join_length x0.data.toList (r.map (·.data.toList)) sep.data.toList
  rw[hxs]at hlen ⊢
  simp only[List.map_cons]at hlen ⊢
  rw[this,List.length_map]at hlen
  rw[Lib.size_eq,List.length_cons,Nat.add_sub_cancel]
  exact hlen
 have hmul:sep.size*(xs.length-1)≤140737488355328:=by omega
 generalize hM:sep.size*(xs.length-1)=M at hjl hmul
 have hcast:((xs.length:Int)-1)=((xs.length-1:Nat):Int):=by omega
 have hlt:sep.size<9223372036854775807/(xs.length-1):=by
  have:sep.size+1≤9223372036854775807/(xs.length-1):=by
   rw[Nat.le_div_iff_mul_le (by omega),Nat.add_mul,hM]
   omega
  omega
 have hdv:¬ (9223372036854775807/((xs.length:Int)-1)≤(sep.size:Int)):=by
  have e:(9223372036854775807:Int)/((xs.length-1:Nat):Int)=((9223372036854775807/(xs.length-1):Nat):Int):=IntWalk.up_div (x:=9223372036854775807) rfl rfl
  rw[hcast,e]
  generalize 9223372036854775807/(xs.length-1)=q at hlt
  omega
 have hprod:wrap64 ((sep.size:Int)*((xs.length:Int)-1))=(M:Int):=by
  have e:(sep.size:Int)*((xs.length-1:Nat):Int)=((sep.size*(xs.length-1):Nat):Int):=IntWalk.up_mul rfl rfl
  rw[hcast,e,hM]
  exact IntWalk.wrap64_in _ ⟨by omega,by omega⟩
 have hM0:sep.size=0→M=0:=fun h=>by rw[←hM,h,Nat.zero_mul]
 clear hlt hcast
 have hne0:((xs.length:Int) == 0)=false:=beq_eq_false_iff_ne.2 (by omega)
 have hne1:((xs.length:Int) == 1)=false:=beq_eq_false_iff_ne.2 (by omega)
 have Hxs:=Jl.hid hxs
 have Hlen:=Jl.hid hlen
 clear hxs hlen
 have mixed:=L.mixed
 have t72:=L.t72;have a72:=L.a72;have z72:=L.z72;have v72:=L.v72;have u72:=run_underlying L.t72
 have t70:=L.t70;have a70:=L.a70;have z70:=L.z70;have v70:=L.v70;have u70:=run_underlying L.t70
 have t37:=L.t37;have a37:=L.a37;have z37:=L.z37;have v37:=L.v37;have u37:=run_underlying L.t37
 have t127:=L.t127;have a127:=L.a127;have z127:=L.z127;have v127:=L.v127;have u127:=run_underlying L.t127
 have t3:=L.t3;have a3:=L.a3;have z3:=L.z3;have v3:=L.v3;have u3:=run_underlying L.t3
 have t9:=L.t9;have a9:=L.a9;have z9:=L.z9;have v9:=L.v9;have u9:=run_underlying L.t9
 have t4:=L.t4;have a4:=L.a4;have z4:=L.z4;have v4:=L.v4;have u4:=run_underlying L.t4
 have t164:=L.t164;have a164:=L.a164;have z164:=L.z164;have v164:=L.v164;have u164:=run_underlying L.t164
 have t31:=L.t31;have a31:=L.a31;have z31:=L.z31;have v31:=L.v31;have u31:=run_underlying L.t31
 have t5:=L.t5;have a5:=L.a5;have z5:=L.z5;have v5:=L.v5;have u5:=run_underlying L.t5
 have e240:∀args w,(callFunc (ρ.f 240) args).run P w=.ok (.enter (ρ.f 240) args) w:=L.e240
 have e241:∀args w,(callFunc (ρ.f 241) args).run P w=.ok (.enter (ρ.f 241) args) w:=enters_of L.f241 (by kernel_rfl) rfl
 have e165:∀args w,(callFunc (ρ.f 165) args).run P w=.ok (.enter (ρ.f 165) args) w:=enters_of L.f165 (by kernel_rfl) rfl
 have e166:∀args w,(callFunc (ρ.f 166) args).run P w=.ok (.enter (ρ.f 166) args) w:=enters_of L.f166 (by kernel_rfl) rfl
 have e169:∀args w,(callFunc (ρ.f 169) args).run P w=.ok (.enter (ρ.f 169) args) w:=enters_of L.f169 (by kernel_rfl) rfl
 go_enter L.f156,Body.n156_ntmps ρ
 go_wp2_with fail
 all_goals (
  go_loop [5,41] (fun n i=>∃k:Nat,k≤xs.length∧i=.int .i64 k∧n=.int .i64 ((M+Lib.lens ((xs.map (·.data.toList)).take k):Nat):Int)) (fun _ i=>xs.length-(intOf i).toNat)
  case atStart=>exact⟨0,Nat.zero_le _,rfl,by first | (simp[Lib.lens];done) | (have:=hM0 (by omega);simp[Lib.lens,this])⟩
  case round=>
   obtain⟨k,hk,rfl,rfl⟩:=hrel
   by_cases hkn:k<xs.length
   ·obtain⟨x,hx⟩:∃x,xs[k]? = some x:=⟨xs[k],List.getElem?_eq_getElem hkn⟩
    have hc:=HC.out k x hx
    have hstep:=Lib.lens_take_succ (xs.map (·.data.toList)) k x.data.toList (by simp[hx])
    have hbound:Lib.lens ((xs.map (·.data.toList)).take (k+1))≤Lib.lens (xs.map (·.data.toList)):=Lib.lens_take_le _ _
    rw[←Lib.size_eq]at hstep
    generalize hA1:Lib.lens ((xs.map (·.data.toList)).take (k+1))=A1 at hstep hbound
    generalize Lib.lens ((xs.map (·.data.toList)).take k)=A0 at hstep
    have HA1:=Jl.hid hA1
    clear hA1
    go_wp2
    exact⟨⟨k+1,by omega,by go_num,by rw[HA1.out];refine congrArg _ ?_;omega⟩,by simp[intOf];omega⟩
   ·have hke:k=xs.length:=by omega
    subst hke
    have hall:(xs.map (·.data.toList)).take xs.length=xs.map (·.data.toList):=List.take_of_length_le (by simp)
    rw[hall]
    generalize hT:Lib.lens (xs.map (·.data.toList))=T at hjl
    have HT:=Jl.hid hT
    clear hT hall
    go_wp2_with fail
    have hMT:((M:Int)+(T:Int))=((M+T:Nat):Int):=by omega
    rw[hMT]
    refine(Jl.Builder_Grow_fresh L w.heap.size w.heap.size (M+T) _ (Nat.le_refl _) (heap_alloc_new w _) (by simp) (by omega)).mono ?_
    rintro e w1 ⟨rfl,h1,hb1⟩
    have hb1':Below w.heap.size w w1:=((Below.refl w.heap.size w).alloc (Nat.le_refl _) _).trans hb1
    -- the first element
    have hx0:xs[0]? = some x0:=by rw[Hxs.out];rfl
    have hc0:w1.cell? ⟨bk,o,none⟩=some (.string x0):=by
     rw[hb1'.cell (p:=⟨bk,o,none⟩) hbk]
     exact HC.out 0 x0 hx0
    have H1:=Jl.hid (Or.inr h1:Lib.IsBuilder (ρ.t 72) (ρ.t 5) w.heap.size w.heap.size [] w1)
    have Hb1:=Jl.hid hb1'
    have hBw1:w.heap.size≤w1.heap.size:=hb1'.size
    clear h1 hb1 hb1' hMT
    -- what the builder holds behind k rounds of the second loop;and that it is never longer than the whole
    have hwhole:Lib.join (xs.map (·.data.toList)) sep.data.toList=x0.data.toList++Lib.joinTail sep.data.toList (r.map (·.data.toList)):=by
     rw[Hxs.out,List.map_cons,Lib.join_cons]
    have hCle:∀k,(x0.data.toList++Lib.joinTail sep.data.toList ((r.map (·.data.toList)).take k)).length≤140737488355328:=fun k=>by
     have h1:=Hlen.out
     rw[hwhole,List.length_append]at h1
     have h2:=Lib.joinTail_take_le sep.data.toList (r.map (·.data.toList)) k
     rw[List.length_append]
     omega
    have HCle:=Jl.hid hCle
    have Hwhole:=Jl.hid hwhole
    clear hCle hwhole
    go_wp2_with fail
    refine(Jl.Builder_WriteString L w.heap.size w.heap.size [] x0 w1 H1.out (by have:=HCle.out 0;simp[Lib.joinTail]at this ⊢;omega) hBw1).mono ?_
    rintro e w2 ⟨rfl,h2',hb2⟩
    have hstart:([]:List Value)++Lib.strCells x0=Lib.byteCells (x0.data.toList++Lib.joinTail sep.data.toList ((r.map (·.data.toList)).take 0)):=by
     simp[Lib.joinTail,Lib.strCells_eq]
    rw[hstart]at h2'
    have H2:=Jl.hid (Or.inr h2':Lib.IsBuilder (ρ.t 72) (ρ.t 5) w.heap.size w.heap.size _ w2)
    have Hb2:=Jl.hid (Hb1.out.trans hb2)
    clear h2' hb2 hstart
    have hrl:r.length=xs.length-1:=by rw[Hxs.out];simp
    go_wp2_with fail
    go_loopw [65] (fun i wr=>∃k:Nat,k≤r.length∧i=.int .i64 k∧Hid (Lib.IsBuilder (ρ.t 72) (ρ.t 5) w.heap.size w.heap.size (Lib.byteCells (x0.data.toList++Lib.joinTail sep.data.toList ((r.map (·.data.toList)).take k))) wr)∧Hid (Below w.heap.size w wr)) (fun i _=>r.length-(intOf i).toNat)
    case atStart=>exact⟨0,Nat.zero_le _,rfl,H2,Hb2⟩
    case round=>
     obtain⟨k,hk',rfl,HB,HW⟩:=hrel
     by_cases hkr:k<r.length
     ·obtain⟨y,hy⟩:∃y,r[k]? = some y:=⟨r[k],List.getElem?_eq_getElem hkr⟩
      have hxy:xs[k+1]? = some y:=by rw[Hxs.out];simpa using hy
      have hcy:wr.cell? ⟨bk,o+1+k,none⟩=some (.string y):=by
       rw[HW.out.cell (p:=⟨bk,o+1+k,none⟩) hbk,show o+1+k=o+(k+1) by omega]
       exact HC.out (k+1) y hxy
      have hBw:w.heap.size≤wr.heap.size:=HW.out.size
      have hnext:Lib.byteCells (x0.data.toList++Lib.joinTail sep.data.toList ((r.map (·.data.toList)).take k))++Lib.strCells sep++Lib.strCells y=Lib.byteCells (x0.data.toList++Lib.joinTail sep.data.toList ((r.map (·.data.toList)).take (k+1))):=by
       rw[Lib.joinTail_take_succ sep.data.toList (r.map (·.data.toList)) k y.data.toList (by simp[hy]),Lib.strCells_eq,Lib.strCells_eq,←Lib.byteCells_append,←Lib.byteCells_append,List.append_assoc,List.append_assoc,List.append_assoc]
      have hl1:=HCle.out (k+1)
      rw[Lib.joinTail_take_succ sep.data.toList (r.map (·.data.toList)) k y.data.toList (by simp[hy])]at hl1
      simp only[List.length_append,←Lib.size_eq]at hl1
      have hl0:(Lib.byteCells (x0.data.toList++Lib.joinTail sep.data.toList ((r.map (·.data.toList)).take k))).length=x0.size+(Lib.joinTail sep.data.toList ((r.map (·.data.toList)).take k)).length:=by
       rw[Lib.byteCells_length,List.length_append,←Lib.size_eq]
      generalize (Lib.joinTail sep.data.toList ((r.map (·.data.toList)).take k)).length=J at hl0 hl1
      have Hn:=Jl.hid hnext
      clear hnext hy hxy
      go_wp2_with fail
      refine(Jl.Builder_WriteString L w.heap.size w.heap.size _ sep wr HB.out (by rw[hl0];omega) hBw).mono ?_
      rintro e w3 ⟨rfl,h3,hb3⟩
      have hBw3:w.heap.size≤w3.heap.size:=Nat.le_trans hBw hb3.size
      have H3:=Jl.hid h3
      have Hb3:=Jl.hid hb3
      clear h3 hb3
      go_wp2_with fail
      refine(Jl.Builder_WriteString L w.heap.size w.heap.size _ y w3 (Or.inr H3.out) (by rw[List.length_append,hl0,Lib.strCells_length];omega) hBw3).mono ?_
      rintro e w4 ⟨rfl,h4,hb4⟩
      rw[Hn.out]at h4
      have H4:=Jl.hid (Or.inr h4:Lib.IsBuilder (ρ.t 72) (ρ.t 5) w.heap.size w.heap.size _ w4)
      have Hb4:=Jl.hid ((HW.out.trans Hb3.out).trans hb4)
      clear h4 hb4
      go_wp2
      exact⟨⟨k+1,by omega,by go_num,H4,Hb4⟩,by simp[intOf];omega⟩
     ·have hke:k=r.length:=by omega
      subst hke
      have hfull:(r.map (·.data.toList)).take r.length=r.map (·.data.toList):=List.take_of_length_le (by simp)
      have hB':=HB.out
      rw[hfull,←Hwhole.out]at hB'
      have hBw:w.heap.size≤wr.heap.size:=HW.out.size
      go_wp2_with fail
      refine(Any.Builder_String_any L.ton169 L.toExtra w.heap.size w.heap.size _ wr hB' hBw).mono ?_
      rintro e w5 ⟨rfl,hb5⟩
      have Hb5:=Jl.hid (HW.out.trans hb5)
      clear hb5 hB'
      go_wp2
      go_ret
      exact⟨rfl,Hb5.out⟩)
theorem Jl.strings_Join(L:JL P ρ)(bk o c:Nat)(xs:List ByteArray)(sep:ByteArray)(w:World)
  (hcells:∀(j:Nat) x,xs[j]? = some x→w.cell? ⟨bk,o+j,none⟩=some (.string x))
  (hbk:bk<w.heap.size) (hN:xs.length≤140737488355328) (hcap:xs.length≤c)
  (hlen:(Lib.join (xs.map (·.data.toList)) sep.data.toList).length≤140737488355328) :
  Calls P (ρ.f 156) #[.slice (some ⟨bk,o,none⟩) xs.length c,.string sep] w fun e w'=>e=.returned (.string ⟨(Lib.join (xs.map (·.data.toList)) sep.data.toList).toArray⟩)∧Below w.heap.size w w':=by
 match xs,hcells,hN,hcap,hlen with
 | [],_,_,_,_=>exact(Jl.strings_Join_none L _ c sep w).mono fun e w' ⟨he,hw⟩=>⟨he,hw▸Below.refl _ _⟩
 | [x],hcells,_,_,_=>
  refine(Jl.strings_Join_one L bk o c x sep w (hcells 0 x rfl)).mono fun e w' ⟨he,hw⟩=>⟨?_,hw▸Below.refl _ _⟩
  rw[he,List.map_cons,List.map_nil,Lib.join_one,Lib.mk_data]
 | x::y::r,hcells,hN,hcap,hlen=>exact Jl.strings_Join_many L bk o c (x::y::r) sep w hcells hbk (by simp) hN hcap hlen
end Go.Proofs
end
section
namespace Go.Proofs
open Go.Shelf Go.RowKit Go.Ab
variable{P:Program}{ρ:Ren}
theorem sl_inv{w:World}{S:Nat→Nat→Prop}{v:Value}{els:List (List AV)}{f:Fl}(h:CP w S v (.sl els f)) :
  (els=[]∧∃a,v=.slice a 0 0)∨∃(blk off z cap:Nat) (u:Nat→Nat→Value),v=.slice (some ⟨blk,off,none⟩) els.length cap∧els.length≤cap∧cap≤maxLen ∧
   (∀(i:Nat) (r:List AV),els[i]? = some r→r.length=z) ∧
   (∀i j,i<els.length→j<z→S blk (off+i*z+j)∧w.cell? ⟨blk,off+i*z+j,none⟩=some (u i j)) ∧
   (∀(i:Nat) (r:List AV) (j:Nat) (c:AV),els[i]? = some r→r[j]? = some c→CP w S (u i j) c):=by
 cases h with
 | slnil f hf=>exact .inl ⟨rfl,_,rfl⟩
 | slz a f hf=>exact .inl ⟨rfl,_,rfl⟩
 | sl blk off z cap els f u hf hfull hcap hmax hz hS hc=>exact .inr ⟨blk,off,z,cap,u,rfl,hcap,hmax,hz,fun i j hi hj=>⟨(hS i j hi hj).1,(hS i j hi hj).2.1⟩,hc⟩
theorem s_inv{w:World}{S:Nat→Nat→Prop}{v:Value}{l:List UInt8}(h:CP w S v (.s l)):v=.string ⟨l.toArray⟩:=by
 cases h with
 | s=>rfl
theorem two_args{cargs:Array Value}(h:cargs.size=2):∃a b,cargs=#[a,b]:=by
 obtain⟨l⟩:=cargs
 match l,h with
 | [a,b],_=>exact⟨a,b,rfl⟩
theorem inter_len(sep:List UInt8)(hs:sep.length≤100):∀ts:List (List UInt8),(∀t∈ts,t.length≤10000)→(Lib.join ts sep).length≤20000*ts.length
 | [],_=>by simp[Lib.join,List.intercalate]
 | x::r,h=>by
  have key:∀r:List (List UInt8),(∀t∈r,t.length≤10000)→Lib.lens r≤10000*r.length:=by
   intro r
   induction r with
   | nil=>intro _;simp[Lib.lens]
   | cons y r ih=>
    intro h
    have h1:=ih fun t ht=>h t (List.mem_cons_of_mem _ ht)
    have h2:=h y List.mem_cons_self
    simp only[Lib.lens,List.map_cons,List.sum_cons,List.length_cons]at h1 ⊢
    omega
  rw[Lib.join_length]
  have h1:=key (x::r) h
  have h2:=Nat.mul_le_mul_right r.length hs
  simp only[List.length_cons]at h1 ⊢
  omega
theorem join_pcall(L:JL P ρ):∀xs r,prim183 xs=some r→PCall P (ρ.f 156) xs (·=r):=by
 intro xs r h
 unfold prim183 at h
 split at h
 ·split at h
  ·rename_i els sep hl
   cases ht:els.mapM textOf with
   | none=>rw[ht]at h;cases h
   | some ts=>
    rw[ht]at h
    cases h
    obtain⟨he,hb⟩:=zjb ht
    refine⟨enters_of L.f156 (by kernel_rfl) rfl,fun w S cargs hsz hC hS=>?_⟩
    obtain⟨v0,v1,rfl⟩:=two_args hsz
    have c0:=hC 0 _ _ rfl rfl
    have c1:=s_inv (hC 1 _ _ rfl rfl)
    subst c1
    have htl:ts.length≤1000:=by rw[he,zcu]at hl;exact hl.1
    have done:∀{Q:World→Prop},(∀w',Q w'→Below w.heap.size w w')→Calls P (ρ.f 156) #[v0,.string ⟨sep.toArray⟩] w (fun e w'=>e=.returned (.string ⟨(List.intercalate sep ts).toArray⟩)∧Q w') →
      Calls P (ρ.f 156) #[v0,.string ⟨sep.toArray⟩] w fun e w'=>∃v r,e=.returned v∧r=AV.s (List.intercalate sep ts)∧Below w.heap.size w w'∧CP w' (fun k o=>S k o∨(w.heap.size≤k∧k<w'.heap.size)) v r:=by
     intro Q hQ hc
     refine hc.mono ?_
     rintro e w' ⟨rfl,hb⟩
     exact⟨_,_,rfl,rfl,hQ _ hb,.s _⟩
    rcases sl_inv c0 with ⟨h0,a,rfl⟩ | ⟨blk,off,z,cap,u,rfl,hcap,hmax,hz,hcell,hcp⟩
    ·have h1:ts=[]:=by
      rw[he]at h0
      exact List.eq_nil_of_length_eq_zero (by rw[←zcu ts,h0];rfl)
     subst h1
     refine done (Q:=fun w'=>w'=w) (fun w' h=>h▸Below.refl _ _) ?_
     exact Jl.strings_Join_none L a 0 ⟨sep.toArray⟩ w
    ·have hel:els.length=ts.length:=by rw[he,zcu]
     have hcells:∀(j:Nat) x,(ts.map fun t=>(⟨t.toArray⟩:ByteArray))[j]? = some x→S blk (off+j)∧w.cell? ⟨blk,off+j,none⟩=some (.string x):=by
      intro j x hx
      rw[List.getElem?_map]at hx
      cases ht2:ts[j]? with
      | none=>rw[ht2]at hx;cases hx
      | some t=>
       rw[ht2]at hx
       cases hx
       have hj:els[j]? = some [.s t]:=by rw[he];simp[rowsT,ht2]
       have hz1:1=z:=hz j _ hj
       subst hz1
       have hjl:j<els.length:=(List.getElem?_eq_some_iff.1 hj).1
       obtain⟨h1,h2⟩:=hcell j 0 hjl Nat.one_pos
       have h3:=s_inv (hcp j _ 0 (.s t) hj rfl)
       rw[h3]at h2
       simp only[Nat.mul_one,Nat.add_zero]at h1 h2
       exact⟨h1,h2⟩
     cases hts:ts with
     | nil=>
      subst hts
      rw[show els.length=0 from hel]at done ⊢
      refine done (Q:=fun w'=>w'=w) (fun w' h=>h▸Below.refl _ _) ?_
      exact Jl.strings_Join_none L _ cap ⟨sep.toArray⟩ w
     | cons t0 tr=>
      rw[←hts]
      have hblk:blk<w.heap.size:=hS _ _ (hcells 0 ⟨t0.toArray⟩ (by rw[hts];rfl)).1
      have hm:(ts.map fun t=>(⟨t.toArray⟩:ByteArray)).map (·.data.toList)=ts:=by rw[List.map_map];simp[Function.comp_def]
      have hj:=Jl.strings_Join L blk off cap (ts.map fun t=>(⟨t.toArray⟩:ByteArray)) ⟨sep.toArray⟩ w (fun j x hx=>(hcells j x hx).2) hblk (by rw[List.length_map];omega) (by rw[List.length_map];omega)
       (by rw[hm];have:=inter_len sep hl.2 ts hb;show (Lib.join ts sep).length≤_;omega)
      rw[hm,List.length_map,←hel]at hj
      exact done (fun _ h=>h) hj
  ·cases h
 ·cases h
end Go.Proofs
end
section
namespace Go.Proofs
open Go.Shelf Go.RowKit
set_option maxRecDepth 100000
def Tryz.jren:Ren:=⟨fun | 156=>61 | 165=>91 | 166=>92 | 169=>93 | 240=>117 | 241=>118 | 277=>137 | n=>n,fun | 0=>0 | 1=>1 | 2=>2 | 3=>3 | 4=>4 | 5=>5 | 6=>6 | 7=>7 | 8=>8 | 9=>9 | 10=>10 | 11=>11 | 12=>12 | 13=>13 | 14=>14 | 15=>15 | 16=>16 | 17=>17 | 18=>18 | 19=>19 | 20=>20 | 21=>21 | 23=>181 | 27=>231 | 28=>52 | 31=>123 | 37=>156 | 40=>229 | 41=>212 | 46=>152 | 51=>95 | 52=>169 | 53=>119 | 55=>228 | 63=>215 | 64=>223 | 67=>125 | 70=>155 | 71=>157 | 72=>158 | 73=>112 | 74=>159 | 75=>160 | 76=>161 | 77=>162 | 80=>163 | 81=>237 | 105=>213 | 106=>214 | 112=>211 | 114=>230 | 115=>197 | 116=>198 | 117=>199 | 118=>200 | 119=>224 | 122=>196 | 123=>201 | 124=>202 | 127=>182 | 131=>113 | 137=>225 | 138=>226 | 139=>227 | 146=>188 | 164=>203 | 165=>204 | 166=>205 | n=>n,fun n=>n⟩
theorem Tryz.joinLaid:JL Tryz.prog Tryz.jren:={
 mixed:=by kernel_rfl,
 f169:=Tryz.func93.trans (congrArg some (by kernel_rfl)),
 t0:=Tryz.underlying0,
 a0:=Tryz.isAgg0,
 z0:=Tryz.sizeOf0,
 v0:=Tryz.zeroValue0,
 t3:=Tryz.underlying3,
 a3:=Tryz.isAgg3,
 z3:=Tryz.sizeOf3,
 v3:=Tryz.zeroValue3,
 t9:=Tryz.underlying9,
 a9:=Tryz.isAgg9,
 z9:=Tryz.sizeOf9,
 v9:=Tryz.zeroValue9,
 t37:=Tryz.underlying156,
 a37:=Tryz.isAgg156,
 z37:=Tryz.sizeOf156,
 v37:=Tryz.zeroValue156,
 t70:=Tryz.underlying155,
 a70:=Tryz.isAgg155,
 z70:=Tryz.sizeOf155,
 v70:=Tryz.zeroValue155,
 t72:=Tryz.underlying158,
 a72:=Tryz.isAgg158,
 z72:=Tryz.sizeOf158,
 v72:=Tryz.zeroValue158,
 t127:=Tryz.underlying182,
 a127:=Tryz.isAgg182,
 z127:=Tryz.sizeOf182,
 v127:=Tryz.zeroValue182,
 f241:=Tryz.func118.trans (congrArg some (by kernel_rfl)),
 f277:=Tryz.func137.trans (congrArg some (by kernel_rfl)),
 sizeBuilder:=by kernel_rfl,
 liesBuilder:=by kernel_rfl,
 t5:=Tryz.underlying5,
 a5:=Tryz.isAgg5,
 z5:=Tryz.sizeOf5,
 v5:=Tryz.zeroValue5,
 infoByte:=by kernel_rfl,
 cellsByte:=by kernel_rfl,
 sizeByte:=by kernel_rfl,
 neB5:=by decide,
 f156:=Tryz.func61.trans (congrArg some (by kernel_rfl)),
 f165:=Tryz.func91.trans (congrArg some (by kernel_rfl)),
 f166:=Tryz.func92.trans (congrArg some (by kernel_rfl)),
 t4:=Tryz.underlying4,
 a4:=Tryz.isAgg4,
 z4:=Tryz.sizeOf4,
 v4:=Tryz.zeroValue4,
 t20:=Tryz.underlying20,
 a20:=Tryz.isAgg20,
 z20:=Tryz.sizeOf20,
 v20:=Tryz.zeroValue20,
 t31:=Tryz.underlying123,
 a31:=Tryz.isAgg123,
 z31:=Tryz.sizeOf123,
 v31:=Tryz.zeroValue123,
 t75:=Tryz.underlying160,
 a75:=Tryz.isAgg160,
 z75:=Tryz.sizeOf160,
 v75:=Tryz.zeroValue160,
 t76:=Tryz.underlying161,
 a76:=Tryz.isAgg161,
 z76:=Tryz.sizeOf161,
 v76:=Tryz.zeroValue161,
 t164:=Tryz.underlying203,
 a164:=Tryz.isAgg203,
 z164:=Tryz.sizeOf203,
 v164:=Tryz.zeroValue203,
 e240:=enters_of Tryz.func117 (by kernel_rfl) rfl,
 c240:=fun B b bs w h=>Tryz.bCheck B b bs w h,
 c240f:=fun b w h0 h1 h2=>Tryz.bCheck_fresh b w h0 h1 h2 }
end Go.Proofs
namespace Go.Proofs.YtebcadckeepbdaaGreatDoor
open Go.Ab
theorem join_ok:∀xs r,prim183 xs=some r→PCall Tryz.prog (nu 183) xs (·=r):=by
 have e:nu 183=Tryz.jren.f 156:=by kernel_rfl
 rw[e]
 exact join_pcall Tryz.joinLaid
end Go.Proofs.YtebcadckeepbdaaGreatDoor
end
namespace Go.Ab
section
open Go.ChangeShapes Go.WideShapes Go.ChangeAt Go.RowKit
theorem zji{H:Type}{enc:TypeId×Value→H}{P:Program}{f:Func}{s:ChangeSpec}{apart fresh handsOn again:Bool}{W W':World}{args:Array Value}{v:Value}{ds gs:List (DataW H)}{before pa pv:List MemPlace}
  (hW:DataW.Whole enc P f.params.toList s.vars apart W args.toList ds gs before)
  (hres:∀(b:Nat) (sp:Nat→Bool) (hd:Bool),DataW.TrodAll enc P W' b sp hd f.resultTypes.toList (v.resultList f.resultTypes.size) (s.fn H (ds++gs)).results [])
  (hargs:∀sp:Nat→Bool,(∀p∈before,sp p.block=true)→DataW.TrodAll enc P W' 0 sp true f.params.toList args.toList (s.fn H (ds++gs)).args pa)
  (hvars:∀sp:Nat→Bool,(∀p∈before,sp p.block=true)→DataW.TrodVars enc P W' sp s.vars (s.fn H (ds++gs)).vars pv)
  (hps:before=pa++pv) (hw:Below W.heap.size W W')
  (hok:∀(j:Nat) (t:TypeId) (r:Value),f.resultTypes[j]? = some t→(v.resultList f.resultTypes.size)[j]? = some r→Value.okWide P W' .any 0 t r) :
  s.post enc P f apart fresh handsOn again W args v W':=by
 have hold:∀p∈before,(fun b=>decide (b<W.heap.size)) p.block=true:=fun p hp=>by simpa using hW.lt p hp
 have hlt:∀p∈before,p.block<W.heap.size:=fun p hp=>hW.lt p hp
 refine⟨ds,gs,before,[],pa,pv,hW,hres _ _ _,hargs _ hold,hvars _ hold,World.keptBut_mono (fun p hp=>⟨hp,?_⟩) (hw.frame (·∈before)),fun _=>?_⟩
 ·rw[hps,List.mem_append]at hp
  exact Or.inr hp
 ·obtain⟨_,_,_,_,_,hz,hn⟩:=hW
  refine⟨hok,_,_,([]++pa)++pv,⟨[]++pa,pv,trodAll_append (hargs _ (fun _ _=>rfl)) (hres _ _ _),hvars _ (fun _ _=>rfl),rfl,?_,?_⟩,?_⟩
  ·intro b off hp
   have hp':MemPlace.cell b off∈before:=by rw[hps];simpa using hp
   rw[hw.frozen (p:=⟨b,off,none⟩) (hlt _ hp')]
   exact hz b off hp'
  ·intro ha
   have:=hn ha
   rw[hps]at this
   simpa using this
  ·intro p hp _
   rw[hps]
   simpa using hp
end
section
open Go.ChangeShapes Go.WideShapes Go.ChangeAt Go.RowKit
inductive Ty where
 | int (k:IntKind)
 | bool
 | str
 | sl (r:Ty)
 | nil
 | cons (a:Ty) (r:Ty)
def Ty.z:Ty→Nat
 | .nil=>0
 | .cons a r=>a.z+r.z
 | _=>1
def Ok:Ty→List AV→Prop
 | .int k,cs=>∃n,cs=[.i k n]∧(Lit.int k n).wf=true
 | .bool,cs=>∃b,cs=[.b b]
 | .str,cs=>∃l,cs=[.s l]∧l.length≤maxLen
 | .sl r,cs=>∃els f,cs=[.sl els f]∧els.length≤maxLen∧(f=.nl∧els=[]∨f=.so)∧∀row∈els,Ok r row
 | .nil,cs=>cs=[]
 | .cons a r,cs=>∃c1 c2,cs=c1++c2∧Ok a c1∧Ok r c2
theorem Ok.len:∀{ty:Ty} {cs:List AV},Ok ty cs→cs.length=ty.z
 | .int _,_,⟨_,h,_⟩=>by rw[h];rfl
 | .bool,_,⟨_,h⟩=>by rw[h];rfl
 | .str,_,⟨_,h,_⟩=>by rw[h];rfl
 | .sl _,_,⟨_,_,h,_⟩=>by rw[h];rfl
 | .nil,_,h=>by rw[show _=[] from h];rfl
 | .cons _ _,_,⟨_,_,h,h1,h2⟩=>by rw[h,List.length_append,h1.len,h2.len];rfl
def RowC(w:World)(S:Nat→Nat→Prop)(cs:List Value)(xs:List AV):Prop:=
 xs.length=cs.length∧∀(j:Nat) (v:Value) (c:AV),cs[j]? = some v→xs[j]? = some c→CP w S v c∧v.oneCell'=true
section
variable{H:Type}{enc:TypeId×Value→H}{P:Program}{w:World}{base:Nat}{held:Bool}{S:Nat→Nat→Prop}
theorem RowC.nil:RowC w S [] []:=⟨rfl,fun j v c h=>by simp at h⟩
theorem RowC.one{v:Value}{c:AV}(h:CP w S v c)(h1:v.oneCell'=true):RowC w S [v] [c]:=by
 refine⟨rfl,fun j v' c' hv hc=>?_⟩
 cases j with
 | zero=>simp at hv hc;subst hv;subst hc;exact⟨h,h1⟩
 | succ j=>simp at hv
theorem RowC.append{cs cs':List Value}{xs xs':List AV}(h:RowC w S cs xs)(h':RowC w S cs' xs'):RowC w S (cs++cs') (xs++xs'):=by
 refine⟨by rw[List.length_append,List.length_append,h.1,h'.1],fun j v c hv hc=>?_⟩
 by_cases hj:j<cs.length
 ·rw[List.getElem?_append_left hj]at hv
  rw[List.getElem?_append_left (by rw[h.1];exact hj)]at hc
  exact h.2 j v c hv hc
 ·rw[List.getElem?_append_right (by omega)]at hv
  rw[List.getElem?_append_right (by rw[h.1];omega),h.1]at hc
  exact h'.2 _ v c hv hc
def fieldsTy(P:Program)(g:TypeId→Option Ty)(tot:Nat):Nat→List Field→Option Ty
 | off,[]=>if off=tot then some .nil else none
 | off,f::fs=>(g f.type).bind fun a=>if f.offset=off∧a.z=P.cellsOf f.type then (fieldsTy P g tot (off+a.z) fs).map (.cons a) else none
def repTy:Nat→Ty→Ty
 | 0,_=>.nil
 | n+1,a=>.cons a (repTy n a)
def tyOf(P:Program):Nat→TypeId→Option Ty
 | 0,_=>none
 | n+1,t=>
  match P.underlying t with
  | some .bool=>some .bool
  | some (.int k)=>some (.int k)
  | some .string=>some .str
  | some (.slice e)=>(tyOf P n e).bind fun r=>if r.z=P.cellsOf e∧0<r.z then some (.sl r) else none
  | some (.struct fs)=>fieldsTy P (tyOf P n) (P.cellsOf t) 0 fs.toList
  | some (.array k e)=>(tyOf P n e).bind fun a=>if a.z=P.cellsOf e∧k*a.z=P.cellsOf t then some (repTy k a) else none
  | _=>none
theorem zrk{α:Type}{Q:Nat→α→Prop}:∀(n:Nat),(∀i,i<n→∃x,Q i x)→∃l:List α,l.length=n∧∀i x,l[i]? = some x→Q i x
 | 0,_=>⟨[],rfl,fun i x h=>by simp at h⟩
 | n+1,h=>by
  obtain⟨l,hl,hq⟩:=zrk n fun i hi=>h i (by omega)
  obtain⟨x,hx⟩:=h n (by omega)
  refine⟨l++[x],by simp[hl],fun i y hy=>?_⟩
  by_cases hi:i<n
  ·rw[List.getElem?_append_left (by omega)]at hy
   exact hq i y hy
  ·rw[List.getElem?_append_right (by omega)]at hy
   have:i-l.length=0:=by
    have:=(List.getElem?_eq_some_iff.1 hy).1
    simp at this
    omega
   rw[this]at hy
   simp at hy
   subst hy
   have e:i=n:=by omega
   rw[e]
   exact hx
def Places(S:Nat→Nat→Prop)(ps:List MemPlace):Prop:=∀k o,MemPlace.cell k o∈ps→S k o
theorem zg4{n:Nat}{g:TypeId→Option Ty}{cs:List Value}
  (ih:∀t cs x ty,DataW.trod enc P w base (fun _=>true) held n t cs=some x→g t=some ty→Places S x.2→∃xs,Ok ty xs∧RowC w S cs xs) :
  ∀(fs:List Field) (off:Nat) (ty:Ty) (ys:List (DataW H×List MemPlace)),
   ys.length=fs.length→(∀(i:Nat) (f:Field),fs[i]? = some f→DataW.trod enc P w base (fun _=>true) held n f.type ((cs.drop f.offset).take (P.cellsOf f.type))=ys[i]?) →
   fieldsTy P g cs.length off fs=some ty→Places S (ys.flatMap (·.2))→∃xs,Ok ty xs∧RowC w S (cs.drop off) xs
 | [],off,ty,ys,hl,hm,ht,hp=>by
  simp only[fieldsTy]at ht
  split at ht<;>cases ht
  rename_i ho
  exact⟨[],rfl,by rw[ho,List.drop_length];exact RowC.nil⟩
 | f::fs,off,ty,[],hl,hm,ht,hp=>by simp at hl
 | f::fs,off,ty,y::ys1,hl,hm,ht,hp=>by
  simp only[fieldsTy]at ht
  obtain⟨a,ha,ht1⟩:=bind_some ht
  split at ht1
  ·rename_i hc
   obtain⟨ho,hz⟩:=hc
   obtain⟨r,hr,rfl⟩:=map_some ht1
   have hy:=hm 0 f rfl
   rw[ho,←hz]at hy
   simp only[List.getElem?_cons_zero]at hy
   obtain⟨xs1,ho1,hr1⟩:=ih _ _ _ _ hy ha fun k o h=>hp k o (by simp[h])
   obtain⟨xs2,ho2,hr2⟩:=zg4 ih fs _ r ys1 (by simpa using hl) (fun i f' hf=>by simpa using hm (i+1) f' (by simpa using hf)) hr fun k o h=>hp k o (by
    rw[List.flatMap_cons,List.mem_append]
    exact .inr h)
   refine⟨xs1++xs2,⟨xs1,xs2,rfl,ho1,ho2⟩,?_⟩
   have e:cs.drop off=(cs.drop off).take a.z++cs.drop (off+a.z):=by rw[←List.drop_drop,List.take_append_drop]
   rw[e]
   exact hr1.append hr2
  ·cases ht1
theorem zio{n:Nat}{e:TypeId}{r:Ty}(ih:∀cs x,DataW.trod enc P w base (fun _=>true) held n e cs=some x→Places S x.2→∃xs,Ok r xs∧RowC w S cs xs) :
  ∀(k:Nat) (cs:List Value) (ys:List (DataW H×List MemPlace)),ys.length=k→cs.length=k*r.z →
   (∀(i:Nat),i<k→DataW.trod enc P w base (fun _=>true) held n e ((cs.drop (i*r.z)).take r.z)=ys[i]?)→Places S (ys.flatMap (·.2))→∃xs,Ok (repTy k r) xs∧RowC w S cs xs
 | 0,cs,ys,hl,hc,hm,hp=>by
  rw[Nat.zero_mul,List.length_eq_zero_iff]at hc
  subst hc
  exact⟨[],rfl,RowC.nil⟩
 | k+1,cs,[],hl,hc,hm,hp=>by simp at hl
 | k+1,cs,y::ys,hl,hc,hm,hp=>by
  have hy:=hm 0 (by omega)
  rw[Nat.zero_mul,List.drop_zero]at hy
  simp only[List.getElem?_cons_zero]at hy
  obtain⟨xs1,ho1,hr1⟩:=ih _ _ hy fun k o h=>hp k o (by simp[h])
  obtain⟨xs2,ho2,hr2⟩:=zio ih k (cs.drop r.z) ys (by simpa using hl) (by rw[List.length_drop,hc,Nat.succ_mul];omega) (fun i hi=>by
   have:=hm (i+1) (by omega)
   rw[Nat.succ_mul,Nat.add_comm (i*r.z),←List.drop_drop]at this
   simpa using this) fun k o h=>hp k o (by
    rw[List.flatMap_cons,List.mem_append]
    exact .inr h)
  refine⟨xs1++xs2,⟨xs1,xs2,rfl,ho1,ho2⟩,?_⟩
  have e:cs=cs.take r.z++cs.drop r.z:=(List.take_append_drop ..).symm
  rw[e]
  exact hr1.append hr2
theorem zn1{a:Addr}{m z:Nat}{cs:List Value}(h:w.cells? base (a.add m) z=some cs)(j:Nat)(hj:j<z):w.cell? ((a.add m).add j)=cs[j]? := (World.cells?_some h).2.2 j hj
theorem zrl{a:Addr}{v:Value}(h:w.cell? a=some v):a.spot=none:=by
 unfold World.cell? at h
 split at h
 ·split at h
  ·cases h
  ·rename_i hs;simpa using hs
 ·cases h
theorem ze9:∀(n m:Nat) (t:TypeId) (cs:List Value) (x:DataW H×List MemPlace) (ty:Ty),
  DataW.trod enc P w base (fun _=>true) held n t cs=some x→tyOf P m t=some ty→Places S x.2→∃xs,Ok ty xs∧RowC w S cs xs
 | 0,_,_,_,_,_,h,_,_=>by simp[DataW.trod]at h
 | n+1,0,_,_,_,_,_,ht,_=>by simp[tyOf]at ht
 | n+1,m+1,t,cs,x,ty,h,ht,hp=>by
  simp only[tyOf]at ht
  split at ht
  ·rename_i hu
   cases ht
   obtain⟨b,rfl,rfl⟩:=DataW.trod_bool hu h
   exact⟨[.b b],⟨b,rfl⟩,RowC.one (.b b) rfl⟩
  ·rename_i k hu
   cases ht
   obtain⟨z,rfl,rfl,hw⟩:=DataW.trod_int hu h
   exact⟨[.i k z],⟨z,rfl,hw⟩,RowC.one (.i k z) rfl⟩
  ·rename_i hu
   cases ht
   obtain⟨s,rfl,rfl,hs⟩:=DataW.trod_string hu h
   exact⟨[.s s.data.toList],⟨_,rfl,by simpa using hs⟩,RowC.one (.s s.data.toList) rfl⟩
  ·rename_i e hu
   obtain⟨r,hr,ht1⟩:=bind_some ht
   split at ht1
   ·rename_i hz
    cases ht1
    obtain⟨hz,hzp⟩:=hz
    rcases DataW.trod_slice hu h with ⟨rfl,rfl⟩ | ⟨a,len,cap,elems,rest,n',hn',rfl,rfl,hb,hl,hmx,hlen,hel,hsp,hns⟩
    ·exact⟨[.sl [] .nl],⟨[],.nl,rfl,Nat.zero_le _,.inl ⟨rfl,rfl⟩,fun row h=>by simp at h⟩,RowC.one (.slnil _ (.inl rfl)) rfl⟩
    ·cases hn'
     obtain⟨hrl,hrest⟩:=hsp rfl
     have hall:∀i,i<cap→∃y cs',y∈elems++rest∧w.cells? base (a.add (i*P.cellsOf e)) (P.cellsOf e)=some cs'∧DataW.trod enc P w base (fun _=>true) held n e cs'=some y:=by
      intro i hi
      by_cases hil:i<len
      ·have h1:=hel i hil
       rw[List.getElem?_eq_getElem (by omega)]at h1
       obtain⟨cs',h2,h3⟩:=bind_some h1
       exact⟨_,cs',List.mem_append_left _ (List.getElem_mem (by omega)),h2,h3⟩
      ·have h1:=hrest (i-len) (by omega)
       rw[List.getElem?_eq_getElem (by omega),show len+(i-len)=i by omega]at h1
       obtain⟨cs',h2,h3⟩:=bind_some h1
       exact⟨_,cs',List.mem_append_right _ (List.getElem_mem (by omega)),h2,h3⟩
     by_cases hcap:cap=0
     ·have hl0:len=0:=by omega
      subst hcap
      subst hl0
      exact⟨[.sl [] .so],⟨[],.so,rfl,Nat.zero_le _,.inr rfl,fun row h=>by simp at h⟩,RowC.one (.slz a _ (.inl rfl)) rfl⟩
     ·have hspot:a.spot=none:=by
       obtain⟨y,cs',_,h2,_⟩:=hall 0 (by omega)
       have h3:=zn1 h2 0 (by omega)
       have h4:=(World.cells?_some h2).2.1
       rw[List.getElem?_eq_getElem (by omega)]at h3
       have h5:=zrl h3
       simpa[Addr.add]using h5
      obtain⟨blk,off,sp⟩:=a
      simp only at hspot
      subst hspot
      have hrows:∀i,i<len→∃xs,Ok r xs∧∃cs',w.cells? base ((⟨blk,off,none⟩:Addr).add (i*P.cellsOf e)) (P.cellsOf e)=some cs'∧RowC w S cs' xs:=by
       intro i hi
       obtain⟨y,cs',hy,h2,h3⟩:=hall i (by omega)
       obtain⟨xs,ho,hrc⟩:=ze9 n m e cs' y r h3 hr fun k o hk=>hp k o (by
        rw[List.mem_append]
        exact .inr (List.mem_flatMap.2 ⟨y,hy,hk⟩))
       exact⟨xs,ho,cs',h2,hrc⟩
      obtain⟨els,hels,hq⟩:=zrk len hrows
      refine⟨[.sl els .so],⟨els,.so,rfl,by omega,.inr rfl,fun row hrow=>?_⟩,RowC.one ?_ rfl⟩
      ·obtain⟨i,hi⟩:=List.getElem?_of_mem hrow
       exact(hq i row hi).1
      ·have hcell:∀i j,i<els.length→j<r.z→∃v,w.cell? ⟨blk,off+i*r.z+j,none⟩=some v∧v.oneCell'=true∧∀row c,els[i]? = some row→row[j]? = some c→CP w S v c:=by
        intro i j hi hj
        obtain⟨ho,cs',h2,hrc⟩:=hq i _ (List.getElem?_eq_getElem hi)
        have h3:=zn1 h2 j (by omega)
        have h4:=(World.cells?_some h2).2.1
        rw[zbi,zbi,←hz,List.getElem?_eq_getElem (by omega)]at h3
        have hlr:=ho.len
        have h5:=hrc.2 j _ _ (List.getElem?_eq_getElem (by omega)) (List.getElem?_eq_getElem (by omega))
        refine⟨_,h3,h5.2,fun row c hrow hc=>?_⟩
        rw[List.getElem?_eq_getElem hi]at hrow
        cases hrow
        rw[List.getElem?_eq_getElem (by omega)]at hc
        cases hc
        exact h5.1
       have hS:∀i j,i<els.length→j<r.z→S blk (off+i*r.z+j):=by
        intro i j hi hj
        refine hp _ _ ?_
        rw[List.mem_append]
        left
        unfold MemPlace.row
        rw[List.mem_map]
        refine⟨i*r.z+j,?_,by rw[Nat.add_assoc]⟩
        rw[List.mem_range,←hz]
        have h1:(i+1)*r.z≤(elems.length+rest.length)*r.z:=Nat.mul_le_mul_right _ (by omega)
        rw[Nat.add_mul,Nat.one_mul]at h1
        omega
       have:=CP.sl (w:=w) (S:=S) blk off r.z cap els .so (fun i j=>(w.cell? ⟨blk,off+i*r.z+j,none⟩).getD undef) (by simp) (by simp) (by omega) hmx
        (fun i row hrow=>(hq i row hrow).1.len) (fun i j hi hj=>?_) (fun i row j c hrow hc=>?_)
       ·rw[hels]at this
        exact this
       ·obtain⟨v,h1,h2,_⟩:=hcell i j hi hj
        exact⟨hS i j hi hj,by rw[h1];rfl,by rw[h1];exact h2⟩
       ·have hi:=(List.getElem?_eq_some_iff.1 hrow).1
        have hj:=(List.getElem?_eq_some_iff.1 hc).1
        rw[(hq i row hrow).1.len]at hj
        obtain⟨v,h1,_,h3⟩:=hcell i j hi hj
        show CP w S ((w.cell? ⟨blk,off+i*r.z+j,none⟩).getD undef) c
        rw[h1]
        exact h3 row c hrow hc
   ·cases ht1
  ·rename_i fs hu
   obtain⟨xs,n',hn',rfl,hcl,hxl,hx⟩:=DataW.trod_struct hu h
   cases hn'
   rw[←hcl]at ht
   have:=zg4 (S:=S) (g:=tyOf P m) (cs:=cs) (n:=n) (fun t cs x ty h1 h2 h3=>ze9 n m t cs x ty h1 h2 h3) fs.toList 0 ty xs (by rw[hxl];simp) (fun i f hf=>hx i f (by simpa using hf)) ht hp
   simpa using this
  ·rename_i k e hu
   obtain⟨r,hr,ht1⟩:=bind_some ht
   split at ht1
   ·rename_i hz
    cases ht1
    obtain⟨hz,hzt⟩:=hz
    obtain⟨xs,n',hn',rfl,hcl,hxl,hx⟩:=DataW.trod_array hu h
    cases hn'
    rw[←hz]at hx
    exact zio (S:=S) (n:=n) (e:=e) (r:=r) (fun cs x h1 h3=>ze9 n m e cs x r h1 hr h3) k cs xs hxl (by omega) hx hp
   ·cases ht1
  ·cases ht
end
end
section
open Go.ChangeShapes Go.WideShapes Go.ChangeAt Go.RowKit
def isAgg(P:Program)(t:TypeId):Bool:=match P.underlying t with | some (.struct _)=>true | some (.array _ _)=>true | _=>false
def tysOf(P:Program)(m:Nat):List TypeId→Option (List (Bool×Ty))
 | []=>some []
 | t::ts=>(tyOf P m t).bind fun a=>(tysOf P m ts).map fun r=>(isAgg P t,a)::r
def OkArg:Bool×Ty→AV→Prop
 | (true,ty),x=>∃cs,x=.agg cs∧Ok ty cs
 | (false,ty),x=>Ok ty [x]
def OkArgs:List (Bool×Ty)→List AV→Prop
 | [],xs=>xs=[]
 | a::r,xs=>∃x ys,xs=x::ys∧OkArg a x∧OkArgs r ys
section
variable{H:Type}{enc:TypeId×Value→H}{P:Program}{w:World}{S:Nat→Nat→Prop}
theorem zu1{m:Nat}{t:TypeId}{v:Value}{d:DataW H}{p:List MemPlace}{ty:Ty}{base:Nat}(hA:DataW.Trod enc P w 0 (fun _=>true) true t v d p)(hT:tyOf P m t=some ty)
  (hval:Value.okWide P w .any base t v) (hp:Places S p):∃x,OkArg (isAgg P t,ty) x∧CP w S v x:=by
 obtain⟨fuel,hf⟩:=hA
 obtain⟨xs,ho,hrc⟩:=ze9 (S:=S) fuel m t _ _ ty hf hT hp
 have hlen:=ho.len
 cases hu:P.underlying t with
 | none=>cases m<;>simp[tyOf,hu]at hT
 | some desc=>
  have one:∀(hag:isAgg P t=false) (hz:ty.z=1) (hv:v.cells=#[v]),∃x,OkArg (isAgg P t,ty) x∧CP w S v x:=by
   intro hag hz hv
   rw[hag]
   match xs,hlen with
   | [x],_=>
    refine⟨x,ho,?_⟩
    have:=hrc.2 0 v x (by rw[hv];rfl) rfl
    exact this.1
   | [],h=>simp[hz]at h
   | _::_::_,h=>simp[hz]at h
  cases m with
  | zero=>simp[tyOf]at hT
  | succ m=>
  cases desc<;>simp only[tyOf,hu]at hT<;>try (cases hT;done)
  case struct fs=>
   have hag:isAgg P t=true:=by simp[isAgg,hu]
   rw[hag]
   unfold Value.okWide at hval
   rw[hu]at hval
   obtain⟨cs,rfl,hcs,_⟩:=hval
   refine⟨.agg xs,⟨xs,rfl,ho⟩,.agg cs xs ?_ ?_ ?_⟩
   ·have:=hrc.1
    simpa[Value.cells]using this.symm
   ·intro j u hu
    have hl:=hrc.1
    have hj:j<cs.size:=(Array.getElem?_eq_some_iff.1 hu).1
    have hj':j<xs.length:=by rw[hl];simpa[Value.cells]using hj
    exact(hrc.2 j u _ (by simpa[Value.cells]using hu) (List.getElem?_eq_getElem hj')).2
   ·intro j u c hu hc
    exact(hrc.2 j u c (by simpa[Value.cells]using hu) hc).1
  case array k e=>
   have hag:isAgg P t=true:=by simp[isAgg,hu]
   rw[hag]
   unfold Value.okWide at hval
   rw[hu]at hval
   obtain⟨cs,rfl,hcs,_⟩:=hval
   refine⟨.agg xs,⟨xs,rfl,ho⟩,.agg cs xs ?_ ?_ ?_⟩
   ·have:=hrc.1
    simpa[Value.cells]using this.symm
   ·intro j u hu
    have hl:=hrc.1
    have hj:j<cs.size:=(Array.getElem?_eq_some_iff.1 hu).1
    have hj':j<xs.length:=by rw[hl];simpa[Value.cells]using hj
    exact(hrc.2 j u _ (by simpa[Value.cells]using hu) (List.getElem?_eq_getElem hj')).2
   ·intro j u c hu hc
    exact(hrc.2 j u c (by simpa[Value.cells]using hu) hc).1
  case bool=>
   cases hT
   unfold Value.okWide Cell.okWide Cell.ok at hval
   rw[hu]at hval
   refine one (by simp[isAgg,hu]) rfl ?_
   cases v<;>first | rfl | (exact hval.elim)
  case int k=>
   cases hT
   unfold Value.okWide Cell.okWide Cell.ok at hval
   rw[hu]at hval
   refine one (by simp[isAgg,hu]) rfl ?_
   cases v<;>first | rfl | (exact hval.elim)
  case string=>
   cases hT
   unfold Value.okWide Cell.okWide Cell.ok at hval
   rw[hu]at hval
   refine one (by simp[isAgg,hu]) rfl ?_
   cases v<;>first | rfl | (exact hval.elim)
  case slice e=>
   obtain⟨r,hr,ht1⟩:=bind_some hT
   split at ht1<;>cases ht1
   unfold Value.okWide Cell.okWide Cell.ok at hval
   rw[hu]at hval
   refine one (by simp[isAgg,hu]) rfl ?_
   cases v<;>first | rfl | (exact hval.elim)
theorem zko{m base:Nat}:∀(ts:List TypeId) (vs:List Value) (ds:List (DataW H)) (p:List MemPlace) (tys:List (Bool×Ty)),DataW.TrodAll enc P w 0 (fun _=>true) true ts vs ds p→tysOf P m ts=some tys →
  (∀(j:Nat) t v,ts[j]? = some t→vs[j]? = some v→Value.okWide P w .any base t v)→Places S p →
  ∃xs,OkArgs tys xs∧vs.length=xs.length∧∀(j:Nat) (v:Value) (c:AV),vs[j]? = some v→xs[j]? = some c→CP w S v c
 | [],vs,ds,p,tys,hA,hT,hval,hp=>by
  obtain⟨rfl,_,_⟩:=trodAll_nil hA
  cases hT
  exact⟨[],rfl,rfl,fun j v c h=>by simp at h⟩
 | t::ts,vs,ds,p,tys,hA,hT,hval,hp=>by
  obtain⟨v,vs1,d,ds1,a,b,rfl,rfl,rfl,h1,h2⟩:=trodAll_cons hA
  obtain⟨ty,hty,hT1⟩:=bind_some hT
  obtain⟨r,hr,rfl⟩:=map_some hT1
  obtain⟨x,hx,hC⟩:=zu1 (S:=S) h1 hty (hval 0 t v rfl rfl) fun k o h=>hp k o (List.mem_append_left _ h)
  obtain⟨xs,ho,hl,hc⟩:=zko (m:=m) (base:=base) ts vs1 ds1 b r h2 hr (fun j t v ht hv=>hval (j+1) t v (by simpa using ht) (by simpa using hv)) fun k o h=>hp k o (List.mem_append_right _ h)
  refine⟨x::xs,⟨x,xs,rfl,hx,ho⟩,by simp[hl],fun j u c hu hcc=>?_⟩
  cases j with
  | zero=>simp at hu hcc;subst hu;subst hcc;exact hC
  | succ j=>exact hc j u c (by simpa using hu) (by simpa using hcc)
theorem zn2(hl:laidOutB P=true){W W':World}(hb:Below W.heap.size W W'){sp:Nat→Bool}:∀(ts:List TypeId) (vs:List Value) (ds:List (DataW H)) (p:List MemPlace),
  (ts.all fun t=>P.readableRec t&&decide (t<P.types.size))=true→DataW.TrodAll enc P W 0 (fun _=>true) true ts vs ds p→(∀x∈p,x.block<W.heap.size)→(∀x∈p,sp x.block=true)→DataW.TrodAll enc P W' 0 sp true ts vs ds p
 | [],_,_,_,_,hA,_,_=>by
  obtain⟨rfl,rfl,rfl⟩:=trodAll_nil hA
  exact rfl
 | t::ts,vs,ds,p,hr,hA,hlt,hsp=>by
  obtain⟨v,vs1,d,ds1,a,b,rfl,rfl,rfl,h1,h2⟩:=trodAll_cons hA
  rw[List.all_cons,Bool.and_eq_true,Bool.and_eq_true,decide_eq_true_eq]at hr
  exact⟨a,b,WideElems.Trod_stays hl hr.1.1 hr.1.2 h1 (fun x hx=>hb.same (hlt x (List.mem_append_left _ hx))) (fun x hx=>hsp x (List.mem_append_left _ hx)),
   zn2 hl hb ts vs1 ds1 b hr.2 h2 (fun x hx=>hlt x (List.mem_append_right _ hx)) (fun x hx=>hsp x (List.mem_append_right _ hx)),rfl⟩
theorem zrm:∀(ts:List TypeId) (vs:List Value) (ds:List (DataW H)) (p:List MemPlace),DataW.TrodAll enc P w 0 (fun _=>true) true ts vs ds p→ds.length=ts.length
 | [],_,_,_,hA=>by
  obtain⟨rfl,rfl,rfl⟩:=trodAll_nil hA
  rfl
 | t::ts,vs,ds,p,hA=>by
  obtain⟨v,vs1,d,ds1,a,b,rfl,rfl,rfl,h1,h2⟩:=trodAll_cons hA
  simp[zrm ts vs1 ds1 b h2]
theorem zu2{f:FuncId}{fn:Func}{s:ChangeSpec}{m tb:Nat}{tys:List (Bool×Ty)}{fresh handsOn again:Bool}(hvars:s.vars=[])(hT:tysOf P m fn.params.toList=some tys)(hl:laidOutB P=true)
  (hread:(fn.params.toList.all fun t=>P.readableRec t&&decide (t<P.types.size))=true) (hr:fn.resultTypes=#[tb]) (hb:P.underlying tb=some .bool)
  (hfn:∀ds:List (DataW H),ds.length=fn.params.toList.length→s.fn H ds={ results:=[.lit (.bool true)],args:=ds })
  (hcall:∀xs,OkArgs tys xs→PCall P f xs (·=.b true)) {W:World} {args:Array Value} {ds gs:List (DataW H)} {before:List MemPlace} {base:Nat}
  (hval:∀(j:Nat) t v,fn.params[j]? = some t→args[j]? = some v→Value.okWide P W .any base t v) (hW:DataW.Whole enc P fn.params.toList s.vars false W args.toList ds gs before) :
  Calls P f args W fun e W'=>∃v,e=.returned v∧s.post enc P fn false fresh handsOn again W args v W':=by
 have hW':=hW
 obtain⟨p,q,hA,hV,rfl,hfz,hnd⟩:=hW
 rw[hvars]at hV
 obtain⟨rfl,rfl⟩:=trodVars_none hV
 have hlt:∀x∈p,x.block<W.heap.size:=fun x hx=>hW'.lt x (List.mem_append_left _ hx)
 obtain⟨xs,ho,hlen,hC⟩:=zko (S:=fun k o=>MemPlace.cell k o∈p) _ _ _ _ _ hA hT (fun j t v ht hv=>hval j t v (by simpa using ht) (by simpa using hv)) (fun k o h=>h)
 have hc:=(hcall xs ho).2 W (fun k o=>MemPlace.cell k o∈p) args (by simpa using hlen) (fun j v c hv hc=>hC j v c (by simpa using hv) hc) (fun k o h=>hlt _ h)
 refine hc.mono fun e W' ⟨v,r,he,hrr,hbel,hCr⟩=>?_
 subst he hrr
 have hv:v=.bool true:=by cases hCr;rfl
 subst hv
 have hlf:=hfn ds (zrm _ _ _ _ hA)
 refine⟨_,rfl,zji (pa:=p) (pv:=[]) hW' (fun b sp hd=>?_) (fun sp hsp=>?_) (fun sp _=>?_) rfl hbel (ok_one hr rfl (okWide_bool_mk hb _))⟩
 ·rw[List.append_nil,hlf,hr]
  exact trodAll_mk1 (shut_bool hb _)
 ·rw[List.append_nil,hlf]
  exact zn2 hl hbel _ _ _ _ hread hA hlt fun x hx=>hsp x (List.mem_append_left _ hx)
 ·rw[List.append_nil,hlf,hvars]
  exact rfl
end
end
theorem zjt:∀(els:List (List AV)),(∀row∈els,Ok (.int .u32) row)→∃l:List UInt32,els=u32s l
 | [],_=>⟨[],rfl⟩
 | r::els,h=>by
  obtain⟨l,rfl⟩:=zjt els fun row hr=>h row (List.mem_cons_of_mem _ hr)
  obtain⟨n,rfl,hw⟩:=h r List.mem_cons_self
  have h1:0≤n∧n<4294967296:=by
   simp[Lit.wf,IntKind.min,IntKind.max,IntKind.signed,IntKind.bits]at hw
   omega
  refine⟨w32 n.toNat::l,?_⟩
  have:(w32 n.toNat).toNat=n.toNat:=zag (by omega)
  simp only[u32s,List.map_cons,this,u32]
  rw[Int.toNat_of_nonneg h1.1]
theorem zvb{P:Program}{ν:Nat→FuncId}{T:Tbl}(hT:TOk P ν T)(hm:P.follows .mixedOrders=true){u:Nat}{af:AFx}{xs ys:List AV}{r:AV}(hu:T u=some af)(hl:af.lent=none)(h:callF T u ys=some r)(hx:xs.map wkA=ys):PCall P (ν u) xs (·=r):=by
 subst hx
 have h1:=zhk hT hm hu hl h
 exact PCall.wk (ex:=false) h1
abbrev Fz:=Bool×List UInt32×List UInt32
abbrev celF(x:Fz):List AV:=[.b x.1,.sl (u32s x.2.1) .an,.sl (u32s x.2.2) .an]
abbrev efz(x:Fz):AV:=.agg (celF x)
def fv(x:Fz):Rat:=mkRat (wv x.1 x.2.1) (val x.2.2)
def fz(q:Rat):Fz:=(decide (q.num<0),ofN q.num.natAbs,ofN q.den)
@[simp] theorem zd5(q:Rat):fv (fz q)=q:=by
 unfold fv fz
 rw[zgf,zae,Rat.mkRat_self]
def fsz(x:Fz):Nat:=max x.2.1.length x.2.2.length
theorem zdo(x:Fz):x.2.1.length≤fsz x:=Nat.le_max_left ..
theorem zds(x:Fz):x.2.2.length≤fsz x:=Nat.le_max_right ..
def sz(q:Rat):Nat:=max (ofN q.num.natAbs).length (ofN q.den).length
theorem zfl(q:Rat):(ofN q.num.natAbs).length≤sz q:=Nat.le_max_left ..
theorem zfm(q:Rat):(ofN q.den).length≤sz q:=Nat.le_max_right ..
theorem zh2{n:Nat}(h:n≠0):1≤(ofN n).length:=by
 have:ofN n≠[]:=fun e=>h (zau.1 e)
 exact List.length_pos_iff.2 this
theorem zxl(q:Rat):1≤sz q:=Nat.le_trans (zh2 q.den_nz) (zfm q)
theorem zxm{z:Int}{d:Nat}(h:d≠0):(mkRat z d).num.natAbs=z.natAbs/Nat.gcd z.natAbs d:=by
 rw[Rat.num_mkRat,if_neg h,Int.natAbs_ediv_of_dvd (Int.ofNat_dvd_left.2 (Nat.gcd_dvd_right ..)),Int.natAbs_natCast,Nat.gcd_comm]
theorem zxn{z:Int}{d:Nat}(h:d≠0):(mkRat z d).den=d/Nat.gcd z.natAbs d:=by
 rw[Rat.den_mkRat,if_neg h,Nat.gcd_comm]
theorem zxo{z:Int}{d:Nat}(h:d≠0):sgI (mkRat z d).num=sgI z:=by
 rw[Rat.num_mkRat,if_neg h]
 have hg:0<Nat.gcd d z.natAbs:=Nat.gcd_pos_of_pos_left _ (Nat.pos_of_ne_zero h)
 obtain⟨k,hk⟩:((Nat.gcd d z.natAbs:Nat):Int) ∣ z:=Int.ofNat_dvd_left.2 (Nat.gcd_dvd_right ..)
 generalize Nat.gcd d z.natAbs=g at *
 have hg':(0:Int)<g:=by omega
 subst hk
 rw[Int.mul_ediv_cancel_left _ (by omega)]
 unfold sgI
 rcases Int.lt_trichotomy k 0 with h1 | h1 | h1
 ·have:=Int.mul_neg_of_pos_of_neg hg' h1
  rw[if_pos h1,if_pos this]
 ·subst h1;simp
 ·have:=Int.mul_pos hg' h1
  rw[if_neg (by omega),if_neg (by omega),if_neg (by omega),if_neg (by omega)]
theorem zuk(z:Int):decide (z<0)=decide (sgI z<0):=by
 unfold sgI
 split
 ·simp[*]
 ·split<;>simp[*]
theorem z4s{z:Int}{d:Nat}(h:d≠0):decide ((mkRat z d).num<0)=decide (z<0):=by
 rw[zuk,zuk z,zxo h]
theorem z4t(n:Bool)(x:Nat){d:Nat}(h:d≠0):fz (mkRat (sg n x) d)=(n&&decide (x≠0),ofN (x/Nat.gcd x d),ofN (d/Nat.gcd x d)):=by
 unfold fz
 rw[z4s h,zxm h,zxn h,zov,zow]
theorem ze2:ofN 1=[1]:=by
 rw[zf0 (by decide),show 1/4294967296=0 from rfl,zdn]
 rfl
theorem zul:fz 0=(false,[],[1]):=by
 unfold fz
 rw[Rat.zero_num,Rat.zero_den,ze2]
 simp
theorem zf2:sz 0=1:=by
 unfold sz
 rw[Rat.zero_num,Rat.zero_den,ze2]
 simp
theorem zbv(q:Rat):fsz (fz q)=sz q:=rfl
theorem zz8{z:Int}{d L:Nat}(hz:(ofN z.natAbs).length≤L)(hd:(ofN d).length≤L)(h1:1≤L):sz (mkRat z d)≤L:=by
 unfold sz
 by_cases h:d=0
 ·subst h
  rw[Rat.mkRat_zero,Rat.zero_num,Rat.zero_den,ze2]
  simp
  omega
 ·rw[zxm h,zxn h]
  exact Nat.max_le.2 ⟨Nat.le_trans (zas (Nat.div_le_self _ _)) hz,Nat.le_trans (zas (Nat.div_le_self _ _)) hd⟩
theorem zbo{x:Fz}{L:Nat}(h:fsz x≤L)(h1:1≤L):sz (fv x)≤L:=
 zz8 (Nat.le_trans (zb4 _ _) (Nat.le_trans (zdo x) h)) (Nat.le_trans (zac _) (Nat.le_trans (zds x) h)) h1
theorem za9{x y L M:Nat}(hx:(ofN x).length≤L)(hy:(ofN y).length≤M):(ofN (x*y)).length≤L+M:=by
 have:=za8 (x:=(x:Int)) (y:=(y:Int)) (L:=L) (M:=M) (by simpa using hx) (by simpa using hy)
 simpa[Int.natAbs_mul]using this
theorem zge(p q:Rat):sz (p+q)≤sz p+sz q+1:=by
 rw[Rat.add_def']
 have h1:=zfl p;have h2:=zfm p;have h3:=zfl q;have h4:=zfm q;have h5:=zxl p
 refine zz8 ?_ (Nat.le_trans (za9 h2 h4) (by omega)) (by omega)
 refine zcq ?_ ?_
 ·exact za8 h1 (by simpa using h4)
 ·rw[Nat.add_comm]
  exact za8 h3 (by simpa using h2)
theorem zdr(p q:Rat):sz (p*q)≤sz p+sz q:=by
 rw[Rat.mul_def']
 have h1:=zfl p;have h2:=zfm p;have h3:=zfl q;have h4:=zfm q;have h5:=zxl p
 exact zz8 (za8 h1 h3) (za9 h2 h4) (by omega)
theorem zja(p:Rat):sz (-p)=sz p:=by
 unfold sz
 rw[Rat.neg_num,Rat.neg_den,Int.natAbs_neg]
theorem z4u(p q:Rat):sz (p-q)≤sz p+sz q+1:=by
 rw[Rat.sub_eq_add_neg]
 have:=zge p (-q)
 rwa [zja]at this
theorem zxp(p:Rat):sz p⁻¹≤sz p:=by
 unfold sz
 rw[Rat.num_inv,Rat.den_inv]
 by_cases h:p.num=0
 ·simp[h,ze2]
  have:=zh2 p.den_nz
  omega
 ·rw[if_neg h,Int.natAbs_mul,Int.natAbs_sign_of_ne_zero h,Nat.one_mul,Int.natAbs_natCast,Nat.max_comm]
  exact Nat.le_refl _
theorem zl9(p q:Rat):sz (p/q)≤sz p+sz q:=by
 rw[Rat.div_def]
 exact Nat.le_trans (zdr _ _) (Nat.add_le_add_left (zxp q) _)
def sgQ(q:Rat):Int:=sgI q.num
theorem z4v{z:Int}{d:Nat}(h:d≠0):sgQ (mkRat z d)=sgI z:=zxo h
theorem zwn{z:Int}:sgI z=0↔z=0:=by
 unfold sgI
 split
 ·constructor<;>intro h<;>omega
 ·split<;>constructor<;>intro h<;>omega
theorem zgo{q:Rat}:sgQ q=0↔q=0:=by
 unfold sgQ
 rw[zwn,Rat.num_eq_zero]
def rowF(l:List Fz):List (List AV):=l.map celF
@[simp] theorem zh3(l:List Fz):(rowF l).length=l.length:=by simp[rowF]
@[simp] theorem zf3(l:List Fz):wkL (rowF l)=rowF l:=by rw[zbs];simp[rowF,wkR,wkA]
@[simp] theorem rowF_get?(l:List Fz)(i:Nat):(rowF l)[i]? = (l[i]?).map celF:=by simp[rowF]
@[simp] theorem z7k(l:List Fz)(i:Nat)(h:i<(rowF l).length):(rowF l)[i]=celF (l[i]'(by simpa using h)):=by simp[rowF]
theorem zh4(l:List Fz)(x:Fz):rowF l++[celF x]=rowF (l++[x]):=by simp[rowF]
theorem zwo(l:List Fz)(i:Nat)(x:Fz):(rowF l).set i (celF x)=rowF (l.set i x):=by simp[rowF,List.map_set]
@[simp] theorem z4w(l:List Fz)(n:Nat):(rowF l).take n=rowF (l.take n):=by simp[rowF]
@[simp] theorem zb8:rowF []=[]:=rfl
def matF(m:List (List Fz)):List (List AV):=m.map fun r=>[.sl (rowF r) .an]
@[simp] theorem zz9(l:List (List Fz)):(matF l).length=l.length:=by simp[matF]
@[simp] theorem z0a(l:List (List Fz)):wkL (matF l)=matF l:=by rw[zbs];simp[matF,wkR,wkA]
@[simp] theorem z7l(l:List (List Fz))(i:Nat)(h:i<(matF l).length):(matF l)[i]=[.sl (rowF (l[i]'(by simpa using h))) .an]:=by simp[matF]
@[simp] theorem z7m:matF []=[]:=rfl
abbrev tyF:Ty:=.cons .bool (.cons (.sl (.int .u32)) (.cons (.sl (.int .u32)) .nil))
theorem zw8{cs:List AV}(h:Ok tyF cs):∃x:Fz,wkR cs=celF x:=by
 obtain⟨c1,c2,rfl,⟨b,rfl⟩,c3,c4,rfl,⟨els,f,rfl,_,_,he⟩,c5,c6,rfl,⟨els2,f2,rfl,_,_,he2⟩,rfl⟩:=h
 obtain⟨l,rfl⟩:=zjt els he
 obtain⟨l2,rfl⟩:=zjt els2 he2
 refine⟨(b,l,l2),?_⟩
 simp[wkA,wkR]
theorem zlb:∀(els:List (List AV)),(∀r∈els,Ok tyF r)→∃l:List Fz,wkL els=rowF l
 | [],_=>⟨[],rfl⟩
 | r::els,h=>by
  obtain⟨l,hl⟩:=zlb els fun r hr=>h r (List.mem_cons_of_mem _ hr)
  obtain⟨x,hx⟩:=zw8 (h r List.mem_cons_self)
  refine⟨x::l,?_⟩
  simp only[wkL,hx,hl]
  rfl
theorem zlc{cs:List AV}(h:Ok (.sl tyF) cs):∃l:List Fz,wkR cs=[.sl (rowF l) .an]:=by
 obtain⟨els,f,rfl,_,_,he⟩:=h
 obtain⟨l,hl⟩:=zlb els he
 exact⟨l,by simp[wkR,wkA,hl]⟩
theorem zpm{P:Program}{ν:Nat→FuncId}{l l':List (Nat×AFx)}(hT:TOk P ν fun u=>l'.lookup u)(hp:Part l l')(hm:P.follows .mixedOrders=true){u:Nat}{af:AFx}{xs ys:List AV}{r:AV}
  (hu:l'.lookup u=some af) (hl:af.lent=none) (h:callF (fun u=>l.lookup u) u ys=some r) (hx:xs.map wkA=ys):PCall P (ν u) xs (·=r):=
 zvb hT hm hu hl (hp.call (by rw[hu];rfl) h) hx
class CSpan (T:Tbl):Prop where
theorem cop2{X:Nat}(h:X%2=1)(k:Nat):Nat.Coprime (2^k) X:=by
 refine Nat.Coprime.pow_left k ?_
 unfold Nat.Coprime
 rw[Nat.gcd_rec,h]
 rfl
theorem zh5{k m Y:Nat}(hY:Y%2=1):Nat.gcd (2^k*m) Y=Nat.gcd m Y:=Nat.Coprime.gcd_mul_left_cancel m (cop2 hY k)
theorem z0b{m n X Y:Nat}(hX:X%2=1)(hY:Y%2=1):Nat.gcd (2^m*X) (2^n*Y)=2^(min m n)*Nat.gcd X Y:=by
 rcases Nat.le_total m n with h | h
 ·rw[Nat.min_eq_left h,show n=m+(n-m) by omega,Nat.pow_add,Nat.mul_assoc,Nat.gcd_mul_left,Nat.gcd_comm X,zh5 hX,Nat.gcd_comm Y]
 ·rw[Nat.min_eq_right h,show m=n+(m-n) by omega,Nat.pow_add,Nat.mul_assoc,Nat.gcd_mul_left,zh5 hY]
theorem zoz{X Y k m:Nat}(hY:Y%2=1)(h:Y≤X)(e:X-Y=2^k*m):Nat.gcd m Y=Nat.gcd X Y:=by
 rw[←zh5 hY (k:=k),←e,Nat.gcd_sub_self_left h]
theorem zwp{n:Nat}(h:n≠0):∃k m,n=2^k*m∧m%2=1:=by
 induction n using Nat.strongRecOn with
 | _ n ih=>
  by_cases h2:n%2=1
  ·exact⟨0,n,by simp,h2⟩
  ·obtain⟨k,m,e,hm⟩:=ih (n/2) (by omega) (by omega)
   refine⟨k+1,m,?_,hm⟩
   rw[Nat.pow_succ,Nat.mul_comm (2^k),Nat.mul_assoc,←e]
   omega
section
variable{T:Tbl}
theorem zh8(G:Nat):∀y:Nat×Nat,(y.1<18446744073709551616∧y.2<18446744073709551616∧Nat.gcd y.1 y.2=G) →
  loopN T 0 0 (.norm false [0]) l198_0 ⟨[(0,u64 y.1),(1,u64 y.2)],[],2⟩=some (.n,⟨[(0,u64 G)],[],2⟩):=by
 refine za4 (fun y:Nat×Nat=>⟨[(0,u64 y.1),(1,u64 y.2)],[],2⟩) _ (fun y=>y.2) _ ?_
 rintro⟨x,y⟩ ⟨hx,hy,hG⟩
 simp only at hx hy hG ⊢
 by_cases h:y=0
 ·right
  subst h
  rw[Nat.gcd_zero_right]at hG
  subst hG
  constructor<;>simp -implicitDefEqProofs[l198_0]
 ·left
  have hm:=Nat.mod_lt x (Nat.pos_of_ne_zero h)
  refine⟨(y,x%y),⟨hy,by simp only;omega,by simp only;rw[←hG,Nat.gcd_comm y,←Nat.gcd_rec,Nat.gcd_comm]⟩,hm,?_,trivial⟩
  simp -implicitDefEqProofs[l198_0,h]
end
section
variable{T:Tbl}[CCommon T]
theorem zle(x y:Nat)(hx:x<18446744073709551616)(hy:y<18446744073709551616):callF T 198 [u64 x,u64 y]=some (u64 (Nat.gcd x y)):=by
 have h:=zh8 (T:=T) (Nat.gcd x y) (x,y) ⟨hx,hy,rfl⟩
 simp only at h
 rw[f198 _ rfl,b198]
 simp -implicitDefEqProofs[h]
theorem zpp(a:List UInt32):callF T 200 [.sl (u32s (ofN (val a))) .an]=some (.b (decide (val a=1))):=by
 rw[f200 _ rfl,b200]
 generalize val a=n
 by_cases h0:n=0
 ·subst h0
  simp -implicitDefEqProofs
 ·rw[zf0 h0]
  by_cases h1:n/4294967296=0
  ·have e:ofN (n/4294967296)=[]:=zau.2 h1
   have e2:n%4294967296=n:=Nat.mod_eq_of_lt (by omega)
   simp -implicitDefEqProofs[e,u32s,zbu,e2]
  ·have h2:¬ ofN (n/4294967296)=[]:=fun e=>h1 (zau.1 e)
   have h3:¬ n=1:=by rintro rfl;simp at h1
   have h4:¬ ((ofN (n/4294967296)).length:Int)+1=1:=by
    have:=List.length_pos_iff.2 h2
    omega
   simp -implicitDefEqProofs[u32s,h3,h4]
end
section
variable{T:Tbl}[CNat T][CProd T][CTwos T][CQuot T][CQuotD T][CCommon T]
theorem zvl(G:Nat):∀y:List UInt32×List UInt32,(y.1.length≤90000∧y.2.length≤90000∧(∃n,y.1=ofN n)∧(∃n,y.2=ofN n)∧Nat.gcd (val y.1) (val y.2)=G) →
  ∃r,(∃a b:List UInt32,r=(Ex.n,(⟨[(0,.sl (u32s a) .an),(1,.sl (u32s b) .an)],[],2⟩:St))∧a.length≤90000∧b.length≤2∧(∃n,a=ofN n)∧(∃n,b=ofN n)∧Nat.gcd (val a) (val b)=G) ∧
   loopN T 0 0 (.norm false [0,1]) l199_0 ⟨[(0,.sl (u32s y.1) .an),(1,.sl (u32s y.2) .an)],[],2⟩=some r:=by
 refine zap (fun y:List UInt32×List UInt32=>⟨[(0,.sl (u32s y.1) .an),(1,.sl (u32s y.2) .an)],[],2⟩) _ (fun y=>val y.2) _ ?_
 rintro⟨a,b⟩ ⟨ha,hb,hk,hn,hG⟩
 simp only at ha hb hk hn hG ⊢
 by_cases h:2<b.length
 ·left
  have h':(2:Int)<b.length:=by omega
  have hv:val b≠0:=by
   obtain⟨n,rfl⟩:=hn
   rw[zae]
   rintro rfl
   simp at h
  have hd:=zfh (T:=T) a b ha hb
  rw[if_neg hv]at hd
  have hm:=Nat.mod_lt (val a) (Nat.pos_of_ne_zero hv)
  refine⟨(b,ofN (val a%val b)),⟨hb,?_,hn,⟨_,rfl⟩,?_⟩,?_,?_⟩
  ·have:=zas (Nat.le_of_lt hm)
   have:=zac b
   simp only;omega
  ·simp only
   rw[zae,←hG,Nat.gcd_comm (val b),←Nat.gcd_rec,Nat.gcd_comm]
  ·simp only[zae]
   exact hm
  ·clear hG hm hn hv hk
   simp -implicitDefEqProofs[l199_0,h',hd]
 ·right
  have h':¬ (2:Int)<b.length:=by omega
  refine⟨_,⟨a,b,rfl,ha,by omega,hk,hn,hG⟩,?_,?_⟩<;>clear hG<;>simp -implicitDefEqProofs[l199_0,h']
theorem zm0(a b:List UInt32)(ha:a.length≤90000)(hb:b.length≤90000):callF T 199 [.sl (u32s a) .an,.sl (u32s b) .an]=some (.sl (u32s (ofN (Nat.gcd (val a) (val b)))) .an):=by
 have h1:=zbn (T:=T) a (by omega)
 have h2:=zbn (T:=T) b (by omega)
 have la:=zac a
 have lb:=zac b
 obtain⟨G,hG⟩:∃G,G=Nat.gcd (val a) (val b):=⟨_,rfl⟩
 obtain⟨_,⟨x,y,rfl,hx,hy,⟨m,rfl⟩,⟨n,rfl⟩,hg⟩,hr⟩:=zvl (T:=T) G (ofN (val a),ofN (val b)) ⟨by simp only;omega,by simp only;omega,⟨_,rfl⟩,⟨_,rfl⟩,by simp only[zae];exact hG.symm⟩
 simp only at hr
 rw[zae,zae]at hg
 rw[f199 _ rfl,b199,←hG]
 clear hG
 by_cases h0:n=0
 ·subst h0
  rw[Nat.gcd_zero_right]at hg
  subst hg
  simp -implicitDefEqProofs[h1,h2,hr]
 ·have hv:val (ofN n)≠0:=by rw[zae];exact h0
  have hd:=zfh (T:=T) (ofN m) (ofN n) hx (by omega)
  rw[if_neg hv,zae,zae]at hd
  have hn64:n<18446744073709551616:=by
   have:=za0 (ofN n)
   rw[zae]at this
   exact Nat.lt_of_lt_of_le this (Nat.pow_le_pow_right (by decide) hy)
  have hm:=Nat.mod_lt m (Nat.pos_of_ne_zero h0)
  have s1:=zlk (T:=T) (ofN n) (by omega)
  rw[zae,if_pos hn64]at s1
  have s2:=zlk (T:=T) (ofN (m%n)) (by have:=zas (Nat.le_of_lt hm);omega)
  rw[zae,if_pos (by omega)]at s2
  have s3:=zle (T:=T) n (m%n) hn64 (by omega)
  have e:Nat.gcd n (m%n)=G:=by rw[←hg,Nat.gcd_comm n,←Nat.gcd_rec,Nat.gcd_comm]
  rw[e]at s3
  have s4:=zga (T:=T) G (by
   rw[←hg]
   exact Nat.lt_of_le_of_lt (Nat.gcd_le_right _ (Nat.pos_of_ne_zero h0)) hn64)
  have hl:¬ ofN n=[]:=fun e=>h0 (zau.1 e)
  simp -implicitDefEqProofs[h1,h2,hr,hd,s1,s2,s3,s4,hl,h0]
theorem zh9(a b:List UInt32)(ha:a.length≤90000)(hb:b.length≤90000):callF T 201 [.sl (u32s a) .an,.sl (u32s b) .an] =
  some (.tup [.sl (u32s (ofN (val a/Nat.gcd (val a) (val b)))) .an,.sl (u32s (ofN (val b/Nat.gcd (val a) (val b)))) .an]):=by
 have hg:=zm0 (T:=T) a b ha hb
 have ho:=zpp (T:=T) (ofN (Nat.gcd (val a) (val b)))
 rw[zae]at ho
 have ll:(ofN (Nat.gcd (val a) (val b))).length≤90000:=by
  by_cases h:val a=0
  ·rw[h,Nat.gcd_zero_left]
   have:=zac b
   omega
  ·have:=zas (Nat.gcd_le_left (val b) (Nat.pos_of_ne_zero h))
   have:=zac a
   omega
 have d1:=zfh (T:=T) a (ofN (Nat.gcd (val a) (val b))) ha ll
 have d2:=zfh (T:=T) b (ofN (Nat.gcd (val a) (val b))) hb ll
 have n1:=zbn (T:=T) a (by omega)
 have n2:=zbn (T:=T) b (by omega)
 rw[zae]at d1 d2
 rw[f201 _ rfl,b201]
 by_cases h0:Nat.gcd (val a) (val b)=0
 ·rw[h0]at hg ⊢
  simp only[zdn]at hg
  simp -implicitDefEqProofs[hg]
 ·rw[if_neg h0]at d1 d2
  have hl:¬ ofN (Nat.gcd (val a) (val b))=[]:=fun e=>h0 (zau.1 e)
  by_cases h1:Nat.gcd (val a) (val b)=1
  ·rw[h1]at hg ho hl ⊢
   simp -implicitDefEqProofs[hg,ho,n1,n2,hl]
  ·generalize Nat.gcd (val a) (val b)=g at *
   simp -implicitDefEqProofs[hg,ho,d1,d2,hl,h0,h1]
end
section
variable {T : Tbl} [CWhole T]
theorem zbc          (n : Bool) (k : Nat) : callF T 55 [.b n, .sl (u32s (ofN k)) .an] = some (ez (sg n k)) := by
  rw [f55 _ rfl, b55, zug  ]
  have h : (0 < (ofN k).length) = (k ≠ 0) := by
    rw [eq_iff_iff, List.length_pos_iff]
    exact not_congr zau       
  cases n <;> simp -implicitDefEqProofs [h]
end
section
variable {T : Tbl} [CNat T] [CWhole T]
theorem zfy        (n : Bool) (a : List UInt32) (ha : a.length ≤ 1000000) : callF T 38 [wh n a] = some (ez (wv n a)) := by
  have h := zbn      (T := T) a (by omega)
  have hs := zbc          (T := T) n (val a)
  rw [f38 _ rfl, b38]
  simp -implicitDefEqProofs [h, hs, wv]
end
section
variable {T : Tbl} [CNat T] [CWhole T]
theorem zl0       (n : Bool) (a : List UInt32) (ha : a.length ≤ 1000000) : callF T 40 [wh n a] = some (ez (-wv n a)) := by
  have h := zbn      (T := T) a (by omega)
  have hs := zbc          (T := T) (!n) (val a)
  rw [z4r   ] at hs
  rw [f40 _ rfl, b40]
  simp -implicitDefEqProofs [h, hs, wv]
end
section
variable {T : Tbl} [CNat T] [CWhole T]
theorem zi7        (n m : Bool) (a b : List UInt32) (ha : a.length ≤ 90000) (hb : b.length ≤ 90000) : callF T 23 [wh n a, wh m b] = some (ez (wv n a + wv m b)) := by
  rw [f23 _ rfl, b23]
  by_cases h : n = m
  · subst h
    have hn := zvx      (T := T) [a, b] (by simp) (by simp; omega)
    have hs := zbc          (T := T) n (val a + val b)
    rw [zh1        ] at hs
    have e : lls [a, b] = [[.sl (u32s a) .an], [.sl (u32s b) .an]] := rfl
    have e2 : sumL [a, b] = val a + val b := by simp [sumL]
    rw [e, e2] at hn
    simp -implicitDefEqProofs [hn, hs, wv]
  · have hg := zza     (T := T) a b (by omega) (by omega)
    by_cases hlt : val a < val b
    · have hs := zbc          (T := T) m (val b - val a)
      rw [zl6       h hlt] at hs
      simp -implicitDefEqProofs [h, hg, hlt, zcn    , hs, wv]
    · have hs := zbc          (T := T) n (val a - val b)
      rw [zl7       h hlt] at hs
      simp -implicitDefEqProofs [h, hg, hlt, zcn    , hs, wv]
end
section
variable {T : Tbl} [CNat T] [CWhole T]
theorem zqm        (n m : Bool) (a b : List UInt32) (ha : a.length ≤ 90000) (hb : b.length ≤ 90000) : callF T 25 [wh n a, wh m b] = some (ez (wv n a - wv m b)) := by
  obtain ⟨z, hz⟩ : ∃ z, z = -wv m b := ⟨_, rfl⟩
  have h1 := zl0       (T := T) m b (by omega)
  have hl := zb4    m b
  rw [← zng        , ← hz] at hl
  have h2 := zi7        (T := T) n (decide (z < 0)) a (ofN z.natAbs) (by omega) (by omega)
  have e : wv n a - wv m b = wv n a + z := by omega
  rw [zgf  , ← e] at h2
  rw [← hz] at h1
  rw [f25 _ rfl, b25]
  simp -implicitDefEqProofs [h1, h2]
end
section
variable {T : Tbl} [CProd T] [CWhole T]
theorem zl1       (n m : Bool) (a b : List UInt32) (ha : a.length ≤ 100000) (hb : b.length ≤ 100000) : callF T 27 [wh n a, wh m b] = some (ez (wv n a * wv m b)) := by
  have h1 := zeh      (T := T) a b ha hb
  have hs := zbc          (T := T) (n != m) (val a * val b)
  rw [zuh   ] at hs
  rw [f27 _ rfl, b27]
  simp -implicitDefEqProofs [h1, hs, wv]
end
section
variable {T : Tbl} [CNat T] [CWhole T]
theorem zfz        (n : Bool) (a : List UInt32) (ha : a.length ≤ 1000000) : callF T 37 [wh n a] = some (.i .i64 (sgI (wv n a))) := by
  have h1 := zfg      (T := T) a (by omega)
  rw [f37 _ rfl, b37]
  unfold wv
  rw [zxk   ]
  by_cases h : val a = 0
  · simp -implicitDefEqProofs [h1, h]
  · cases n <;> simp -implicitDefEqProofs [h1, h]
end
section
variable {T : Tbl} [CNat T] [CWhole T]
theorem zwi      (k : Int) (h1 : -9223372036854775808 ≤ k) (h2 : k < 9223372036854775808) : callF T 41 [.i .i64 k] = some (ez k) := by
  rw [f41 _ rfl, b41]
  by_cases h : k < 0
  · have hn := zga    (T := T) k.natAbs (by omega)
    have hs := zbc          (T := T) true k.natAbs
    have e : sg true k.natAbs = k := by simp [sg]; omega
    have e2 : sub64 0 (k % 18446744073709551616).toNat = k.natAbs := by unfold sub64; omega
    rw [e] at hs
    simp -implicitDefEqProofs [h, e2, hn, hs]
  · have hn := zga    (T := T) k.natAbs (by omega)
    have hs := zbc          (T := T) false k.natAbs
    have e : sg false k.natAbs = k := by simp [sg]; omega
    have e2 : (k % 18446744073709551616).toNat = k.natAbs := by omega
    rw [e] at hs
    simp -implicitDefEqProofs [h, e2, hn, hs]
end
section
variable {T : Tbl} [CNat T] [CText T] [CWhole T]
theorem zqn        (n : Bool) (a : List UInt32) (ha : a.length ≤ 1000) : callF T 34 [wh n a] = some (.s (textZ (wv n a))) := by
  have h1 : callF T 68 [.sl (u32s a) .an] = some (.s (textN (val a))) := by rw [p68, zl4       a ha]
  have h2 := zfz        (T := T) n a (by omega)
  have h3 := ze1         ha
  have h4 : 1 + (textN (val a)).length ≤ 9223372036854775807 := by omega
  rw [f34 _ rfl, b34]
  unfold textZ
  rw [zxj   ]
  by_cases h : wv n a < 0
  · have h5 : sgI (wv n a) = -1 := by unfold sgI; rw [if_pos h]
    simp -implicitDefEqProofs [h1, h2, h, h5, h4]
  · have h5 : ¬ sgI (wv n a) < 0 := by unfold sgI; rw [if_neg h]; split <;> omega
    simp -implicitDefEqProofs [h1, h2, h, h5]
end
section
variable{T:Tbl}[CNat T][CProd T][CTwos T][CQuot T][CQuotD T][CWhole T][CCommon T][CFrac T]
theorem zm2(p q:Int)(hp:(ofN p.natAbs).length≤90000)(hq:(ofN q.natAbs).length≤90000):callF T 23 [ez p,ez q]=some (ez (p+q)):=by
 have:=zi7 (T:=T) (decide (p<0)) (decide (q<0)) _ _ hp hq
 rwa [zgf,zgf]at this
theorem zm3(p q:Int)(hp:(ofN p.natAbs).length≤90000)(hq:(ofN q.natAbs).length≤90000):callF T 25 [ez p,ez q]=some (ez (p-q)):=by
 have:=zqm (T:=T) (decide (p<0)) (decide (q<0)) _ _ hp hq
 rwa [zgf,zgf]at this
theorem zpq(p:Int)(hp:(ofN p.natAbs).length≤1000000):callF T 40 [ez p]=some (ez (-p)):=by
 have:=zl0 (T:=T) (decide (p<0)) _ hp
 rwa [zgf]at this
theorem zpr{x d:Nat}(h:d≠0):decide (x/Nat.gcd x d≠0)=decide (x≠0):=by
 have hg:0<Nat.gcd x d:=Nat.gcd_pos_of_pos_right _ (Nat.pos_of_ne_zero h)
 obtain⟨k,hk⟩:=Nat.gcd_dvd_left x d
 generalize Nat.gcd x d=g at *
 subst hk
 rw[Nat.mul_div_cancel_left _ hg,decide_eq_decide]
 have:g≠0:=by omega
 exact⟨fun h1 h2=>h1 ((Nat.mul_eq_zero.1 h2).resolve_left this),fun h1 h2=>h1 (by rw[h2,Nat.mul_zero])⟩
theorem zb3(n:Bool)(a d:List UInt32)(ha:a.length≤90000)(hd:d.length≤90000)(h:val d≠0) :
  callF T 202 [wh n a,.sl (u32s d) .an]=some (efz (fz (mkRat (wv n a) (val d)))):=by
 have e:=z4t n (val a) h
 change fz (mkRat (wv n a) (val d))=_ at e
 have hc:=zh9 (T:=T) a d ha hd
 have hl:(ofN (val a/Nat.gcd (val a) (val d))).length≤1000000:=by
  have:=zas (Nat.div_le_self (val a) (Nat.gcd (val a) (val d)))
  have:=zac a
  omega
 have hn:=zfy (T:=T) n _ hl
 have e2:wv n (ofN (val a/Nat.gcd (val a) (val d)))=sg n (val a/Nat.gcd (val a) (val d)):=by unfold wv;rw[zae]
 rw[e2,zug,zpr h]at hn
 rw[e,f202 _ rfl,b202]
 generalize ofN (val a/Nat.gcd (val a) (val d))=A at *
 generalize ofN (val d/Nat.gcd (val a) (val d))=D at *
 clear e e2
 simp -implicitDefEqProofs[hc,hn]
theorem zbg(x:Fz)(hx:fsz x≤100000):∃y:Fz,val y.2.2≠0∧fv y=fv x∧fsz y≤max 1 (fsz x)∧callF T 203 [efz x]=some (.tup [wh y.1 y.2.1,.sl (u32s y.2.2) .an]):=by
 obtain⟨n,a,d⟩:=x
 have h1:=zdo (n,a,d)
 have h2:=zds (n,a,d)
 simp only at h1 h2
 have hz:=zfg (T:=T) d (by omega)
 by_cases h:val d=0
 ·refine⟨(false,[],[1]),by simp,?_,?_,?_⟩
  ·unfold fv
   simp only[h,Rat.mkRat_zero]
   rfl
  ·show 1≤_
   omega
  ·have ho:=zga (T:=T) 1 (by decide)
   rw[ze2]at ho
   rw[f203 _ rfl,b203]
   simp -implicitDefEqProofs[hz,h,ho]
 ·refine⟨(n,a,d),h,rfl,by omega,?_⟩
  rw[f203 _ rfl,b203]
  simp -implicitDefEqProofs[hz,h]
theorem zhn(k:Int)(h1:-9223372036854775808≤k)(h2:k<9223372036854775808):callF T 205 [.i .i64 k]=some (efz (fz (k:Rat))):=by
 have hw:=zwi (T:=T) k h1 h2
 have ho:=zga (T:=T) 1 (by decide)
 have e:fz (k:Rat)=(decide (k<0),ofN k.natAbs,ofN 1):=rfl
 rw[e,f205 _ rfl,b205]
 simp -implicitDefEqProofs[hw,ho]
theorem zee:callF T 205 [.i .i64 0]=some (efz (fz 0)):=zhn 0 (by decide) (by decide)
theorem zef(x:Fz)(hx:fsz x≤90000):callF T 207 [efz x]=some (efz (fz (fv x))):=by
 obtain⟨⟨n,a,d⟩,h1,h2,h3,hp⟩:=zbg (T:=T) x (by omega)
 simp only at h1 hp
 have la:=zdo (n,a,d)
 have ld:=zds (n,a,d)
 simp only at la ld
 have hc:=zb3 (T:=T) n a d (by omega) (by omega) h1
 rw[←h2]
 change _=some (efz (fz (mkRat (wv n a) (val d))))
 rw[f207 _ rfl,b207]
 generalize fz (mkRat (wv n a) (val d))=R at *
 clear h1 h2 h3
 simp -implicitDefEqProofs[hp,hc]
theorem zcl(x:Fz)(hx:fsz x≤10000):callF T 207 [efz x]=some (efz (fz (fv x))):=zef (T:=T) x (Nat.le_trans hx (by decide))
theorem zps(x:Fz)(hx:fsz x≤90000):callF T 209 [efz x]=some (.i .i64 (sgQ (fv x))):=by
 obtain⟨⟨n,a,d⟩,h1,h2,h3,hp⟩:=zbg (T:=T) x (by omega)
 simp only at h1 hp
 have la:=zdo (n,a,d)
 simp only at la
 have hc:=zfz (T:=T) n a (by omega)
 rw[←h2]
 unfold fv
 rw[z4v h1,f209 _ rfl,b209]
 clear h1 h2 h3
 simp -implicitDefEqProofs[hp,hc]
theorem zho(x:Fz)(hx:fsz x≤10000):callF T 209 [efz x]=some (.i .i64 (sgQ (fv x))):=zps (T:=T) x (Nat.le_trans hx (by decide))
theorem zcm(n:Bool)(a d:List UInt32)(ha:a.length≤90000)(hd:d.length≤90000):callF T 210 [wh n a,.sl (u32s d) .an]=some (ez (wv n a*(val d:Int))):=by
 have hm:=zl1 (T:=T) n false a d (by omega) (by omega)
 rw[show wv false d=(val d:Int) from rfl]at hm
 generalize wv n a*(val d:Int)=z at *
 rw[f210 _ rfl,b210]
 simp -implicitDefEqProofs[hm]
theorem zsr(x:Fz)(hx:fsz x≤90000):callF T 213 [efz x]=some (efz (fz (-fv x))):=by
 have h1:=zef (T:=T) x hx
 have hl:(ofN (fv x).num.natAbs).length≤1000000:=by
  have:=zbo (x:=x) (L:=90000) hx (by decide)
  have:=zfl (fv x)
  omega
 have h2:callF T 40 [.agg [.b (decide ((fv x).num<0)),.sl (u32s (ofN (fv x).num.natAbs)) .an]]=some (.agg [.b (decide (-(fv x).num<0)),.sl (u32s (ofN (-(fv x).num).natAbs)) .an]):=zpq (T:=T) (fv x).num hl
 generalize fv x=q at *
 have e:fz (-q)=(decide (-q.num<0),ofN (-q.num).natAbs,ofN q.den):=rfl
 have e':fz q=(decide (q.num<0),ofN q.num.natAbs,ofN q.den):=rfl
 rw[e,f213 _ rfl,b213]
 rw[e']at h1
 generalize ofN q.num.natAbs=A at *
 generalize ofN q.den=D at *
 simp -implicitDefEqProofs[h1,h2]
theorem zju(x:Fz)(hx:fsz x≤10000):callF T 213 [efz x]=some (efz (fz (-fv x))):=zsr (T:=T) x (Nat.le_trans hx (by decide))
theorem zdz(x x':Fz)(hx:fsz x≤30000)(hx':fsz x'≤30000):callF T 215 [efz x,efz x']=some (efz (fz (fv x+fv x'))):=by
 obtain⟨⟨n,a,d⟩,h1,h2,h3,hp⟩:=zbg (T:=T) x (by omega)
 obtain⟨⟨m,b,e⟩,h1',h2',h3',hp'⟩:=zbg (T:=T) x' (by omega)
 simp only at h1 hp h1' hp'
 have la:=zdo (n,a,d)
 have ld:=zds (n,a,d)
 have lb:=zdo (m,b,e)
 have le:=zds (m,b,e)
 simp only at la ld lb le
 have c1:=zcm (T:=T) n a e (by omega) (by omega)
 have c2:=zcm (T:=T) m b d (by omega) (by omega)
 have c4:=zeh (T:=T) d e (by omega) (by omega)
 have l1:(ofN (wv n a*(val e:Int)).natAbs).length≤60000:=by
  have:=za8 (x:=wv n a) (y:=(val e:Int)) (L:=30000) (M:=30000) (Nat.le_trans (zb4 n a) (by omega)) (Nat.le_trans (zb4 false e) (by omega))
  omega
 have l2:(ofN (wv m b*(val d:Int)).natAbs).length≤60000:=by
  have:=za8 (x:=wv m b) (y:=(val d:Int)) (L:=30000) (M:=30000) (Nat.le_trans (zb4 m b) (by omega)) (Nat.le_trans (zb4 false d) (by omega))
  omega
 have l3:(ofN (val d*val e)).length≤60000:=by
  have:=za9 (x:=val d) (y:=val e) (L:=30000) (M:=30000) (Nat.le_trans (zac d) (by omega)) (Nat.le_trans (zac e) (by omega))
  omega
 have e1:fv x+fv x'=mkRat (wv n a*(val e:Int)+wv m b*(val d:Int)) (val d*val e):=by
  rw[←h2,←h2']
  exact Rat.mkRat_add_mkRat _ _ h1 h1'
 have hne:=Nat.mul_ne_zero h1 h1'
 generalize wv n a*(val e:Int)=z1 at *
 generalize wv m b*(val d:Int)=z2 at *
 generalize val d*val e=D at *
 have c3:=zm2 (T:=T) z1 z2 (by omega) (by omega)
 have c5:=zb3 (T:=T) (decide (z1+z2<0)) (ofN (z1+z2).natAbs) (ofN D) (by have:=zcq l1 l2;omega) (by omega) (by rw[zae];exact hne)
 rw[zgf,zae,←e1]at c5
 generalize fv x+fv x'=q at *
 generalize z1+z2=z at *
 rw[f215 _ rfl,b215]
 clear h1 h2 h3 h1' h2' h3' e1 l1 l2 l3 hne
 simp -implicitDefEqProofs[hp,hp',c1,c2,c3,c4,c5]
theorem zjv(x x':Fz)(hx:fsz x≤1000)(hx':fsz x'≤1000):callF T 215 [efz x,efz x']=some (efz (fz (fv x+fv x'))):=zdz (T:=T) x x' (Nat.le_trans hx (by decide)) (Nat.le_trans hx' (by decide))
theorem zss(x x':Fz)(hx:fsz x≤30000)(hx':fsz x'≤30000):callF T 216 [efz x,efz x']=some (efz (fz (fv x-fv x'))):=by
 obtain⟨⟨n,a,d⟩,h1,h2,h3,hp⟩:=zbg (T:=T) x (by omega)
 obtain⟨⟨m,b,e⟩,h1',h2',h3',hp'⟩:=zbg (T:=T) x' (by omega)
 simp only at h1 hp h1' hp'
 have la:=zdo (n,a,d)
 have ld:=zds (n,a,d)
 have lb:=zdo (m,b,e)
 have le:=zds (m,b,e)
 simp only at la ld lb le
 have c1:=zcm (T:=T) n a e (by omega) (by omega)
 have c2:=zcm (T:=T) m b d (by omega) (by omega)
 have c4:=zeh (T:=T) d e (by omega) (by omega)
 have l1:(ofN (wv n a*(val e:Int)).natAbs).length≤60000:=by
  have:=za8 (x:=wv n a) (y:=(val e:Int)) (L:=30000) (M:=30000) (Nat.le_trans (zb4 n a) (by omega)) (Nat.le_trans (zb4 false e) (by omega))
  omega
 have l2:(ofN (wv m b*(val d:Int)).natAbs).length≤60000:=by
  have:=za8 (x:=wv m b) (y:=(val d:Int)) (L:=30000) (M:=30000) (Nat.le_trans (zb4 m b) (by omega)) (Nat.le_trans (zb4 false d) (by omega))
  omega
 have l3:(ofN (val d*val e)).length≤60000:=by
  have:=za9 (x:=val d) (y:=val e) (L:=30000) (M:=30000) (Nat.le_trans (zac d) (by omega)) (Nat.le_trans (zac e) (by omega))
  omega
 have e1:fv x-fv x'=mkRat (wv n a*(val e:Int)-wv m b*(val d:Int)) (val d*val e):=by
  rw[←h2,←h2',Rat.sub_eq_add_neg]
  unfold fv
  rw[Rat.neg_mkRat,Rat.mkRat_add_mkRat _ _ h1 h1',Int.neg_mul]
  rfl
 have hne:=Nat.mul_ne_zero h1 h1'
 generalize wv n a*(val e:Int)=z1 at *
 generalize wv m b*(val d:Int)=z2 at *
 generalize val d*val e=D at *
 have c3:=zm3 (T:=T) z1 z2 (by omega) (by omega)
 have c5:=zb3 (T:=T) (decide (z1-z2<0)) (ofN (z1-z2).natAbs) (ofN D) (by
  have:=zcq (x:=z1) (y:=-z2) (L:=60000) l1 (by rw[Int.natAbs_neg];exact l2)
  rw[←Int.sub_eq_add_neg]at this
  omega) (by omega) (by rw[zae];exact hne)
 rw[zgf,zae,←e1]at c5
 generalize fv x-fv x'=q at *
 generalize z1-z2=z at *
 rw[f216 _ rfl,b216]
 clear h1 h2 h3 h1' h2' h3' e1 l1 l2 l3 hne
 simp -implicitDefEqProofs[hp,hp',c1,c2,c3,c4,c5]
theorem zvm(x x':Fz)(hx:fsz x≤1000)(hx':fsz x'≤1000):callF T 216 [efz x,efz x']=some (efz (fz (fv x-fv x'))):=zss (T:=T) x x' (Nat.le_trans hx (by decide)) (Nat.le_trans hx' (by decide))
theorem zst(x x':Fz)(hx:fsz x≤30000)(hx':fsz x'≤30000):callF T 217 [efz x,efz x']=some (efz (fz (fv x*fv x'))):=by
 obtain⟨⟨n,a,d⟩,h1,h2,h3,hp⟩:=zbg (T:=T) x (by omega)
 obtain⟨⟨m,b,e⟩,h1',h2',h3',hp'⟩:=zbg (T:=T) x' (by omega)
 simp only at h1 hp h1' hp'
 have la:=zdo (n,a,d)
 have ld:=zds (n,a,d)
 have lb:=zdo (m,b,e)
 have le:=zds (m,b,e)
 simp only at la ld lb le
 have c3:=zl1 (T:=T) n m a b (by omega) (by omega)
 have c4:=zeh (T:=T) d e (by omega) (by omega)
 have l1:(ofN (wv n a*wv m b).natAbs).length≤60000:=by
  have:=za8 (x:=wv n a) (y:=wv m b) (L:=30000) (M:=30000) (Nat.le_trans (zb4 n a) (by omega)) (Nat.le_trans (zb4 m b) (by omega))
  omega
 have l3:(ofN (val d*val e)).length≤60000:=by
  have:=za9 (x:=val d) (y:=val e) (L:=30000) (M:=30000) (Nat.le_trans (zac d) (by omega)) (Nat.le_trans (zac e) (by omega))
  omega
 have e1:fv x*fv x'=mkRat (wv n a*wv m b) (val d*val e):=by
  rw[←h2,←h2']
  exact Rat.mkRat_mul_mkRat _ _ _ _
 have hne:=Nat.mul_ne_zero h1 h1'
 generalize wv n a*wv m b=z at *
 generalize val d*val e=D at *
 have c5:=zb3 (T:=T) (decide (z<0)) (ofN z.natAbs) (ofN D) (by omega) (by omega) (by rw[zae];exact hne)
 rw[zgf,zae,←e1]at c5
 generalize fv x*fv x'=q at *
 rw[f217 _ rfl,b217]
 clear h1 h2 h3 h1' h2' h3' e1 l1 l3 hne
 simp -implicitDefEqProofs[hp,hp',c3,c4,c5]
theorem zeg(x x':Fz)(hx:fsz x≤1000)(hx':fsz x'≤1000):callF T 217 [efz x,efz x']=some (efz (fz (fv x*fv x'))):=zst (T:=T) x x' (Nat.le_trans hx (by decide)) (Nat.le_trans hx' (by decide))
theorem zy4{n m:Bool}{x y:Nat}{d e:Nat}(hy:y≠0) :
  mkRat (sg n x) d/mkRat (sg m y) e=mkRat (sg (decide (sg n x*(e:Int)<0) != m) (sg n x*(e:Int)).natAbs) (d*y):=by
 have h1:sg (decide (sg n x*(e:Int)<0) != m) (sg n x*(e:Int)).natAbs=sg n x*(e:Int)*sg m 1:=by
  have:=zuh (decide (sg n x*(e:Int)<0)) m (sg n x*(e:Int)).natAbs 1
  rw[Nat.mul_one]at this
  rw[this]
  congr 1
  generalize sg n x*(e:Int)=z
  by_cases h:z<0
  ·simp only[h,decide_true,sg,if_true];omega
  ·simp only[h,decide_false,sg,Bool.false_eq_true,if_false];omega
 rw[h1,Rat.div_def,←Rat.divInt_ofNat,←Rat.divInt_ofNat,←Rat.divInt_ofNat,Rat.inv_divInt,Rat.divInt_mul_divInt]
 cases m
 ·simp only[sg,Bool.false_eq_true,if_false,Int.mul_one,Int.natCast_mul,Int.natCast_one]
 ·simp only[sg,if_true,Int.natCast_one,Int.mul_neg,Int.mul_one,Int.natCast_mul]
  rw[←Rat.neg_divInt_neg,Int.neg_neg]
theorem zsu(x x':Fz)(hx:fsz x≤30000)(hx':fsz x'≤30000):callF T 218 [efz x,efz x']=some (.tup [efz (fz (fv x/fv x')),.b (decide (fv x'≠0))]):=by
 obtain⟨⟨n,a,d⟩,h1,h2,h3,hp⟩:=zbg (T:=T) x (by omega)
 obtain⟨⟨m,b,e⟩,h1',h2',h3',hp'⟩:=zbg (T:=T) x' (by omega)
 simp only at h1 hp h1' hp'
 have la:=zdo (n,a,d)
 have ld:=zds (n,a,d)
 have lb:=zdo (m,b,e)
 have le:=zds (m,b,e)
 simp only at la ld lb le
 have cs:=zfz (T:=T) m b (by omega)
 rw[show wv m b=sg m (val b) from rfl,zxk]at cs
 by_cases hb:val b=0
 ·have e0:fv x'=0:=by
   rw[←h2']
   unfold fv
   rw[Rat.mkRat_eq_zero h1']
   show sg m (val b)=0
   rw[hb];cases m<;>rfl
  have ho:=zee (T:=T)
  rw[if_pos hb]at cs
  rw[e0,Rat.div_def,Rat.inv_zero,Rat.mul_zero,f218 _ rfl,b218]
  clear h1 h2 h3 h1' h2' h3' e0
  generalize fz 0=R at *
  simp -implicitDefEqProofs[hp,hp',cs,ho]
 ·rw[if_neg hb]at cs
  have c1:=zcm (T:=T) n a e (by omega) (by omega)
  have c4:=zeh (T:=T) d b (by omega) (by omega)
  have l1:(ofN (wv n a*(val e:Int)).natAbs).length≤60000:=by
   have:=za8 (x:=wv n a) (y:=(val e:Int)) (L:=30000) (M:=30000) (Nat.le_trans (zb4 n a) (by omega)) (Nat.le_trans (zb4 false e) (by omega))
   omega
  have l3:(ofN (val d*val b)).length≤60000:=by
   have:=za9 (x:=val d) (y:=val b) (L:=30000) (M:=30000) (Nat.le_trans (zac d) (by omega)) (Nat.le_trans (zac b) (by omega))
   omega
  have hne0:fv x'≠0:=by
   rw[←h2']
   unfold fv
   rw[Ne,Rat.mkRat_eq_zero h1']
   show ¬ sg m (val b)=0
   cases m<;>simp[sg,hb]
  have e1:fv x/fv x'=mkRat (sg (decide (wv n a*(val e:Int)<0) != m) (wv n a*(val e:Int)).natAbs) (val d*val b):=by
   rw[←h2,←h2']
   exact zy4 hb
  have hne:=Nat.mul_ne_zero h1 hb
  generalize wv n a*(val e:Int)=z at *
  generalize val d*val b=D at *
  have c5:=zb3 (T:=T) (decide (z<0) != m) (ofN z.natAbs) (ofN D) (by omega) (by omega) (by rw[zae];exact hne)
  rw[show wv (decide (z<0) != m) (ofN z.natAbs)=sg (decide (z<0) != m) z.natAbs by unfold wv;rw[zae],zae,←e1]at c5
  have hdec:decide (fv x'≠0)=true:=by simpa using hne0
  have hs:((if m=true then (-1:Int) else 1) == 0)=false:=by cases m<;>rfl
  rw[hdec]
  generalize fv x/fv x'=q at *
  rw[f218 _ rfl,b218]
  clear h1 h2 h3 h1' h2' h3' e1 l1 l3 hne hne0 hdec
  have hs2:¬ (if m=true then (-1:Int) else 1)=0:=by cases m<;>decide
  generalize (if m=true then (-1:Int) else 1)=sgn at *
  simp -implicitDefEqProofs[hp,hp',cs,c1,c4,c5,hs,hs2]
theorem zjw(x x':Fz)(hx:fsz x≤1000)(hx':fsz x'≤1000):callF T 218 [efz x,efz x']=some (.tup [efz (fz (fv x/fv x')),.b (decide (fv x'≠0))]):=zsu (T:=T) x x' (Nat.le_trans hx (by decide)) (Nat.le_trans hx' (by decide))
end
def nrm(l:List Fz):List Fz:=l.map fun x=>fz (fv x)
def fzs(l:List Rat):List Fz:=l.map fz
theorem zcp{m:List Fz}{n:Nat}(h:m.length=n)(x:Fz):wkL (rowF (List.take n m)++[celF x])=rowF (m++[x]):=by
 rw[List.take_of_length_le (by omega),zh4,zf3]
theorem zbt{α β:Type}(l:List α)(f:α→β){i:Nat}(h:i<l.length):(l.take (i+1)).map f=(l.take i).map f++[f (l[i]'h)]:=by
 rw[List.take_succ_eq_append_getElem h,List.map_append];rfl
@[simp] theorem ztr:rowsT []=[]:=rfl
def textQ(q:Rat):List UInt8:=if q.den=1 then textZ q.num else textZ q.num++47::textN q.den
section
variable{T:Tbl}[CNat T][CProd T][CTwos T][CQuot T][CQuotD T][CText T][CWhole T][CCommon T][CFrac T][CJoin T][CRow T]
theorem zna(x:Fz)(hx:fsz x≤900):callF T 251 [efz x]=some (.s (textQ (fv x))):=by
 have h1:=zcl (T:=T) x (by omega)
 have hs:=zbo (x:=x) (L:=900) hx (by decide)
 generalize fv x=q at *
 have l1:=zfl q
 have l2:=zfm q
 have e':fz q=(decide (q.num<0),ofN q.num.natAbs,ofN q.den):=rfl
 have h2:=zqn (T:=T) (decide (q.num<0)) (ofN q.num.natAbs) (by omega)
 rw[zgf]at h2
 have h3:=zga (T:=T) 1 (by decide)
 have h4:=zfv (T:=T) (ofN q.den) (ofN 1) (by omega) (by rw[ze2];decide)
 rw[zae,zae]at h4
 have h5:callF T 68 [.sl (u32s (ofN q.den)) .an]=some (.s (textN q.den)):=by
  rw[p68,zl4 _ (by omega),zae]
 have t1:(textN q.den).length≤10000:=by
  have:=ze1 (a:=ofN q.den) (by omega)
  rwa [zae]at this
 have t2:(textZ q.num).length≤20000:=by
  have:=ze1 (a:=ofN q.num.natAbs) (by omega)
  rw[zae]at this
  unfold textZ
  split
  ·simp;omega
  ·omega
 rw[f251 _ rfl,b251]
 rw[e']at h1
 unfold textQ
 obtain⟨D,hD⟩:∃D,D=ofN q.den:=⟨_,rfl⟩
 rw[←hD]at h1 h4 h5
 obtain⟨A,hA⟩:∃A,A=ofN q.num.natAbs:=⟨_,rfl⟩
 rw[←hA]at h1 h2
 obtain⟨O,hO⟩:∃O,O=ofN 1:=⟨_,rfl⟩
 rw[←hO]at h3 h4
 have c1:¬ 9223372036854775807<(textN q.den).length:=by omega
 by_cases hd:q.den=1
 ·have hc:cmpN q.den 1=0:=by rw[hd];rfl
  rw[hc]at h4
  rw[if_pos hd]
  clear hD hA hO hc e'
  simp -implicitDefEqProofs[h1,h2,h3,h4]
 ·have hc:cmpN q.den 1=1:=by
   unfold cmpN
   have:=q.den_pos
   rw[if_neg (by omega),if_pos (by omega)]
  rw[hc]at h4
  rw[if_neg hd]
  have b1:1+(textN q.den).length≤9223372036854775807:=by omega
  have b2:(textZ q.num).length+((textN q.den).length+1)≤9223372036854775807:=by omega
  have b3:(textN q.den).length+1≤9223372036854775807:=by omega
  clear hD hA hO hc e'
  generalize textN q.den=t at *
  generalize textZ q.num=s at *
  simp -implicitDefEqProofs[h1,h2,h3,h4,h5,b1,b2,b3,binS]
def stZe(n i:Nat):St:=⟨[(3,.bs (.loc 9) 1 3 0 n),(10,.i .i64 n),(11,.i .i64 i)],[(.loc 9,⟨1,.own,3,rowF (List.replicate i (fz 0))++List.replicate (n-i) [.b false,.sl [] .an,.sl [] .an]⟩)],3⟩
theorem zlw(n:Nat)(hn:n≤300):loopN T 0 0 (.norm false [3]) l263_0 (stZe n 0)=some (.n,⟨[(3,.bs (.loc 9) 1 3 0 n)],[(.loc 9,⟨1,.own,3,rowF (List.replicate n (fz 0))⟩)],3⟩):=by
 refine za6 (stZe n) n _ (fun i hi=>?_) ?_
 ·have h0:=zee (T:=T)
  have hw:=zcy hi (by omega)
  have e:(rowF (List.replicate i (fz 0))++List.replicate (n-i) [AV.b false,.sl [] .an,.sl [] .an]).set i (celF (fz 0))=rowF (List.replicate (i+1) (fz 0))++List.replicate (n-(i+1)) [AV.b false,.sl [] .an,.sl [] .an]:=by
   rw[List.set_append_right _ _ (by simp),zh3,List.length_replicate,Nat.sub_self,show n-i=(n-(i+1))+1 by omega,List.replicate_succ (n:=n-(i+1)),List.set_cons_zero,List.replicate_succ' (n:=i),←zh4,List.append_assoc]
   rfl
  have hl:(rowF (List.replicate i (fz 0))++List.replicate (n-i) [AV.b false,.sl [] .an,.sl [] .an]).length=n:=by simp;omega
  have hk:wkL ((rowF (List.replicate i (fz 0))++List.replicate (n-i) [AV.b false,.sl [] .an,.sl [] .an]).set i (celF (fz 0)))=(rowF (List.replicate i (fz 0))++List.replicate (n-i) [AV.b false,.sl [] .an,.sl [] .an]).set i (celF (fz 0)):=by
   rw[e,zbs,List.map_append,←zbs,zf3]
   simp[wkR,wkA]
  have hg:(rowF (List.replicate i (fz 0))++List.replicate (n-i) [AV.b false,.sl [] .an,.sl [] .an])[i]? = some [AV.b false,.sl [] .an,.sl [] .an]:=by
   rw[List.getElem?_append_right (by simp),zh3,List.length_replicate,Nat.sub_self,List.getElem?_replicate,if_pos (by omega)]
  unfold stZe
  rw[←e]
  clear e
  generalize rowF (List.replicate i (fz 0))++List.replicate (n-i) [AV.b false,.sl [] .an,.sl [] .an]=B at *
  obtain⟨hb,hgE⟩:=List.getElem?_eq_some_iff.1 hg
  generalize fz 0=z at *
  simp -implicitDefEqProofs[l263_0,hi,hw,h0,hl,hk,hg,hgE]
 ·have e:rowF (List.replicate n (fz 0))++List.replicate (n-n) [AV.b false,.sl [] .an,.sl [] .an]=rowF (List.replicate n (fz 0)):=by simp
  unfold stZe
  rw[e]
  constructor<;>simp -implicitDefEqProofs[l263_0]
def stNm(l:List Fz)(i:Nat):St:=⟨[(3,.bs (.loc 3) 1 3 0 i),(6,.sl (rowF l) .an),(7,.i .i64 l.length),(8,.i .i64 i)],[(.loc 3,⟨1,.own,3,rowF (nrm (l.take i))⟩)],3⟩
theorem zts(l:List Fz)(hl:l.length≤1000)(hw:∀x∈l,fsz x≤1000) :
  loopN T 0 0 (.norm false [3]) l266_0 (stNm l 0)=some (.n,⟨[(3,.bs (.loc 3) 1 3 0 l.length)],[(.loc 3,⟨1,.own,3,rowF (nrm l)⟩)],3⟩):=by
 refine za6 (stNm l) l.length _ (fun i hi=>?_) ?_
 ·have hg:l[i]? = some (l[i]'hi):=List.getElem?_eq_getElem hi
  have hws:=zcy hi (by omega)
  have hn:=zcl (T:=T) (l[i]'hi) (Nat.le_trans (hw _ (List.getElem_mem hi)) (by decide))
  have e:nrm (l.take (i+1))=nrm (l.take i)++[fz (fv (l[i]'hi))]:=zbt l _ hi
  have hp:=zcp (m:=nrm (l.take i)) (n:=i) (by simp[nrm];omega) (fz (fv (l[i]'hi)))
  have hml:(nrm (l.take i)).length=i:=by simp[nrm];omega
  unfold stNm
  rw[e]
  clear e
  generalize nrm (l.take i)=M at *
  generalize fz (fv (l[i]'hi))=z at *
  have hb:i≤4294967295:=by omega
  simp -implicitDefEqProofs[l266_0,hi,hg,hws,hn,hp,hml,hb]
 ·unfold stNm
  rw[List.take_of_length_le (Nat.le_refl _)]
  generalize nrm l=M
  constructor<;>simp -implicitDefEqProofs[l266_0]
theorem zgc(l:List Fz)(hl:l.length≤1000)(hw:∀x∈l,fsz x≤1000):callH T 2266 [.sl (rowF l) .an] []=some (.bs (.loc 3) 1 3 0 l.length,[(.loc 3,⟨1,.own,3,rowF (nrm l)⟩)]):=by
 have h:=zts (T:=T) l hl hw
 rw[show l266_0=l2266_0 from rfl]at h
 unfold stNm at h
 simp[nrm]at h
 rw[f2266 _ _ rfl,b2266]
 simp -implicitDefEqProofs[h,nrm]
def scl(c:Rat)(l:List Fz):List Fz:=l.map fun x=>fz (c*fv x)
def stSl(c:Fz)(l:List Fz)(i:Nat):St:=⟨[(2,.ptr (.loc 2) 1 3 0 0),(5,.bs (.loc 5) 2 3 0 i),(8,.sl (rowF l) .an),(9,.i .i64 l.length),(10,.i .i64 i)],[(.loc 2,⟨1,.str,3,[celF c]⟩),(.loc 5,⟨2,.own,3,rowF (scl (fv c) (l.take i))⟩)],4⟩
def dotQ:List Fz→List Fz→Rat
 | x::a,y::b=>fv x*fv y+dotQ a b
 | _,_=>0
def dotK(a b:List Fz)(i:Nat):Rat:=dotQ (a.take i) (b.take i)
abbrev nocell:List AV:=[.b false,.sl [] .an,.sl [] .an]
def stDt(a b:List Fz)(i:Nat):St:=⟨[(1,.sl (rowF b) .an),(4,.ptr (.loc 4) 1 3 0 0),(6,.ptr (.loc 6) 2 3 0 0),(16,.sl (rowF a) .an),(17,.i .i64 a.length),(18,.i .i64 i)],
 [(.loc 4,⟨1,.str,3,[nocell]⟩),(.loc 6,⟨2,.str,3,[celF (fz (dotK a b i))]⟩)],4⟩
def stSm(a b:List Fz)(i:Nat):St:=⟨[(0,.sl (rowF a) .an),(1,.sl (rowF b) .an),(12,.i .i64 a.length),(13,.i .i64 i)],[],2⟩
def txts(l:List Fz):List (List UInt8):=l.map fun x=>textQ (fv x)
def stTt(l:List Fz)(i:Nat):St:=⟨[(3,.bs (.loc 3) 1 1 0 i),(6,.sl (rowF l) .an),(7,.i .i64 l.length),(8,.i .i64 i)],[(.loc 3,⟨1,.own,1,rowsT (txts (l.take i))⟩)],3⟩
theorem zlx(l:List Fz)(hl:l.length≤1000)(hw:∀x∈l,fsz x≤400) :
  loopN T 0 0 (.norm false [3]) l274_0 (stTt l 0)=some (.n,⟨[(3,.bs (.loc 3) 1 1 0 l.length)],[(.loc 3,⟨1,.own,1,rowsT (txts l)⟩)],3⟩):=by
 refine za6 (stTt l) l.length _ (fun i hi=>?_) ?_
 ·have hg:l[i]? = some (l[i]'hi):=List.getElem?_eq_getElem hi
  have hws:=zcy hi (by omega)
  have hn:=zna (T:=T) (l[i]'hi) (Nat.le_trans (hw _ (List.getElem_mem hi)) (by decide))
  have e:txts (l.take (i+1))=txts (l.take i)++[textQ (fv (l[i]'hi))]:=zbt l _ hi
  have hml:(txts (l.take i)).length=i:=by simp[txts];omega
  have hp:=zqq (txts (l.take i)) (textQ (fv (l[i]'hi)))
  rw[hml]at hp
  unfold stTt
  rw[e]
  clear e
  generalize txts (l.take i)=M at *
  generalize textQ (fv (l[i]'hi))=z at *
  have hb:i≤4294967295:=by omega
  simp -implicitDefEqProofs[l274_0,hi,hg,hws,hn,hp,hml,hb]
 ·unfold stTt
  rw[List.take_of_length_le (Nat.le_refl _)]
  generalize txts l=M
  constructor<;>simp -implicitDefEqProofs[l274_0]
theorem ztt{q:Rat}(h:sz q≤400):(textQ q).length≤10000:=by
 have key:∀{a:List UInt32},a.length≤400→(textN (val a)).length≤4000:=by
  intro a ha
  obtain⟨K,hK⟩:∃K,K=3999:=⟨_,rfl⟩
  have h1:=za0 a
  have h2:4294967296^a.length≤(10^10)^a.length:=Nat.pow_le_pow_left (by decide) _
  rw[←Nat.pow_mul]at h2
  have h3:10^(10*a.length)≤10^(K+1):=Nat.pow_le_pow_right (by decide) (by omega)
  have h4:=zl8 (k:=K) (Nat.lt_of_lt_of_le h1 (Nat.le_trans h2 h3))
  clear h1 h2 h3
  omega
 have h1:=key (a:=ofN q.num.natAbs) (Nat.le_trans (zfl q) h)
 have h2:=key (a:=ofN q.den) (Nat.le_trans (zfm q) h)
 rw[zae]at h1 h2
 have h3:(textZ q.num).length≤4001:=by
  unfold textZ
  split
  ·simp;omega
  ·omega
 unfold textQ
 split
 ·omega
 ·simp;omega
theorem zoq(l:List Fz)(hl:l.length≤1000)(hw:∀x∈l,fsz x≤400):callF T 274 [.sl (rowF l) .an]=some (.s (List.intercalate [44] (txts l))):=by
 have h:=zlx (T:=T) l hl hw
 unfold stTt at h
 have e:txts (l.take 0)=[]:=rfl
 rw[e]at h
 simp only[ztr,Int.natCast_zero]at h
 have hj:callF T 183 [.sl (rowsT (txts l)) .an,.s [44]]=some (.s (List.intercalate [44] (txts l))):=by
  rw[p183,zqr _ _ (fun t ht=>?_) (by simp[txts,hl]) (by decide)]
  obtain⟨x,hx,rfl⟩:=List.mem_map.1 ht
  exact ztt (Nat.le_trans (zbo (hw x hx) (by decide)) (Nat.le_refl _))
 have ht:List.take l.length (rowsT (txts l))=rowsT (txts l):=List.take_of_length_le (by simp[txts])
 have hl2:(txts l).length=l.length:=by simp[txts]
 rw[f274 _ rfl,b274]
 simp -implicitDefEqProofs[h,ht,hl2,hj]
end
theorem zv9{α:Type}{L acc:List α}(hl:L.length=acc.length){i:Nat}(h:i<L.length) :
  (L.take i++acc.drop i).set i (L[i]'h)=L.take (i+1)++acc.drop (i+1):=by
 rw[List.set_append_right _ _ (by simp;omega),List.length_take,Nat.min_eq_left (by omega),Nat.sub_self,List.drop_eq_getElem_cons (show i<acc.length by omega),List.set_cons_zero,List.take_succ_eq_append_getElem h,List.append_assoc]
 rfl
theorem zzr{α:Type}{L acc:List α}(hl:L.length=acc.length){i:Nat}(h:i<L.length):(L.take i++acc.drop i)[i]? = some (acc[i]'(by omega)):=by
 rw[List.getElem?_append_right (by simp;omega),List.length_take,Nat.min_eq_left (by omega),Nat.sub_self,List.getElem?_drop,Nat.add_zero,List.getElem?_eq_getElem]
theorem zfw{l:List Rat}{i:Nat}{q:Rat}(h:l[i]? = some q):(fzs l)[i]? = some (fz q):=by
 unfold fzs
 rw[List.getElem?_map,h]
 rfl
theorem zzs(l:List Rat)(i:Nat)(q:Rat):(fzs l).set i (fz q)=fzs (l.set i q):=by
 unfold fzs
 rw[List.map_set]
@[simp] theorem zam(l:List Rat):(fzs l).length=l.length:=by simp[fzs]
theorem zdm(l:List Fz):nrm l=fzs (l.map fv):=by unfold nrm fzs;rw[List.map_map];rfl
def mixP(c:Rat)(acc:List Rat)(r:List Fz):List Rat:=List.zipWith (fun q x=>q+c*fv x) acc r
def addP(acc:List Rat)(r:List Fz):List Rat:=List.zipWith (fun q x=>q+fv x) acc r
theorem zbw{acc:List Rat}{r:List Fz}(h:r.length=acc.length):(addP acc r).length=acc.length:=by simp[addP,h]
theorem zzt{acc:List Rat}{r:List Fz}{S B:Nat}(ha:∀q∈acc,sz q≤S)(hr:∀x∈r,fsz x≤B)(hB:1≤B):∀q∈addP acc r,sz q≤S+(B+1):=by
 intro q hq
 obtain⟨i,hi,rfl⟩:=List.getElem_of_mem hq
 simp only[addP,List.length_zipWith]at hi
 simp only[addP,List.getElem_zipWith]
 have h1:=ha _ (List.getElem_mem (show i<acc.length by omega))
 have h2:=zbo (hr _ (List.getElem_mem (show i<r.length by omega))) hB
 have h3:=zge (acc[i]'(by omega)) (fv (r[i]'(by omega)))
 omega
section
variable{T:Tbl}[CNat T][CProd T][CTwos T][CQuot T][CQuotD T][CText T][CWhole T][CCommon T][CFrac T][CJoin T][CRow T]
def stAi(k j n:Nat)(rest:List (List Fz))(r:List Fz)(L acc:List Rat)(i:Nat):St:=
 ⟨[(4,.bs (.fld (.loc 15) 3) 1 3 0 n),(17,.sl (matF rest) .an),(18,.i .i64 k),(19,.i .i64 j),(28,.sl (rowF r) .an),(29,.i .i64 n),(30,.i .i64 i)],
  [(.fld (.loc 15) 3,⟨1,.own,3,rowF (fzs (L.take i++acc.drop i))⟩)],3⟩
theorem ztu(k j n i:Nat)(rest:List (List Fz))(r M:List Fz)(x y z:Fz)(hi:i<n)(hn:n≤1000)(hir:i<r.length)(hg:r[i]? = some x)(c1:callF T 215 [efz y,efz x]=some (efz z))(hge:M[i]? = some y)(hml:M.length=n) :
  evX (orc T) T 0 l267_0 ⟨[(4,.bs (.fld (.loc 15) 3) 1 3 0 n),(17,.sl (matF rest) .an),(18,.i .i64 k),(19,.i .i64 j),(28,.sl (rowF r) .an),(29,.i .i64 n),(30,.i .i64 i)],[(.fld (.loc 15) 3,⟨1,.own,3,rowF M⟩)],3⟩ =
   some (.n,⟨[(4,.bs (.fld (.loc 15) 3) 1 3 0 n),(17,.sl (matF rest) .an),(18,.i .i64 k),(19,.i .i64 j),(28,.sl (rowF r) .an),(29,.i .i64 n),(30,.i .i64 (i+1:Nat))],[(.fld (.loc 15) 3,⟨1,.own,3,rowF (M.set i z)⟩)],3⟩):=by
 have hws:=zcy hi (by omega)
 have hi':(i:Int)<n:=by omega
 obtain⟨_,hgE⟩:=List.getElem?_eq_some_iff.1 hge
 obtain⟨_,hgR⟩:=List.getElem?_eq_some_iff.1 hg
 have hset:=zwo M i z
 simp -implicitDefEqProofs[l267_0,hi,hi',hir,hg,hgR,hws,c1,hge,hgE,hml,hset]
theorem ztv(k j:Nat)(rest:List (List Fz))(r:List Fz)(acc:List Rat)(hr:r.length=acc.length)(hn:acc.length≤1000){S B:Nat}
  (ha:∀q∈acc,sz q≤S) (hw:∀x∈r,fsz x≤B) (hB:1≤B) (hS:S+(B+1)≤1000) :
  loopN T 0 2 (.norm false [4,17,18,19]) l267_0 (stAi k j acc.length rest r (addP acc r) acc 0) =
   some (.n,⟨[(4,.bs (.fld (.loc 15) 3) 1 3 0 acc.length),(17,.sl (matF rest) .an),(18,.i .i64 k),(19,.i .i64 j)],[(.fld (.loc 15) 3,⟨1,.own,3,rowF (fzs (addP acc r))⟩)],3⟩):=by
 have hL:=zbw hr
 refine za6 (stAi k j acc.length rest r (addP acc r) acc) acc.length _ (fun i hi=>?_) ?_
 ·have hir:i<r.length:=by omega
  have s1:=ha _ (List.getElem_mem hi)
  have s2:=hw _ (List.getElem_mem hir)
  have c1:=zjv (T:=T) (fz (acc[i]'hi)) (r[i]'hir) (by rw[zbv];omega) (by omega)
  have e1:(addP acc r)[i]'(by omega)=acc[i]'hi+fv (r[i]'hir):=by simp[addP]
  rw[zd5,←e1]at c1
  have hu:=congrArg fzs (zv9 hL (show i<(addP acc r).length by omega))
  rw[←zzs]at hu
  unfold stAi
  rw[←hu]
  exact ztu k j _ i rest r _ _ _ _ hi hn hir (List.getElem?_eq_getElem hir) c1 (zfw (zzr hL (show i<(addP acc r).length by omega))) (by simp;omega)
 ·have e:(addP acc r).take acc.length++acc.drop acc.length=addP acc r:=by rw[List.take_of_length_le (by omega),List.drop_length,List.append_nil]
  unfold stAi
  rw[e]
  generalize fzs (addP acc r)=M at *
  constructor<;>simp -implicitDefEqProofs[l267_0]
def stAo(n:Nat)(rest:List (List Fz))(acc:List Rat)(j:Nat):St:=
 ⟨[(4,.bs (.fld (.loc 15) 3) 1 3 0 n),(17,.sl (matF rest) .an),(18,.i .i64 rest.length),(19,.i .i64 j)],[(.fld (.loc 15) 3,⟨1,.own,3,rowF (fzs ((rest.take j).foldl addP acc))⟩)],3⟩
theorem ztw{B:Nat}(hB:1≤B):∀(l:List (List Fz)) (acc:List Rat) (S:Nat),(∀q∈acc,sz q≤S)→(∀r∈l,∀x∈r,fsz x≤B)→∀q∈l.foldl addP acc,sz q≤S+l.length*(B+1)
 | [],acc,S,ha,_=>by simpa using ha
 | r::l,acc,S,ha,hw=>by
  intro q hq
  have:=ztw hB l (addP acc r) (S+(B+1)) (zzt ha (hw r List.mem_cons_self) hB) (fun r hr=>hw r (List.mem_cons_of_mem _ hr)) q hq
  rw[List.length_cons,Nat.succ_mul]
  omega
theorem zj4:∀(l:List (List Fz)) (acc:List Rat),(∀r∈l,r.length=acc.length)→(l.foldl addP acc).length=acc.length
 | [],_,_=>rfl
 | r::l,acc,h=>by
  have h1:=zbw (h r List.mem_cons_self)
  have:=zj4 l (addP acc r) (fun r hr=>by rw[h1];exact h r (List.mem_cons_of_mem _ hr))
  rw[List.foldl_cons,this,h1]
theorem ztx(rest:List (List Fz))(acc:List Rat)(hn:acc.length≤1000)(hk:rest.length≤1000){S B:Nat}
  (ha:∀q∈acc,sz q≤S) (hw:∀r∈rest,∀x∈r,fsz x≤B) (hB:1≤B) (hS:S+rest.length*(B+1)≤1000) (hall:∀r∈rest,r.length=acc.length) :
  loopN T 0 0 (.norm false [4]) l267_1 (stAo acc.length rest acc 0)=some (.n,⟨[(4,.bs (.fld (.loc 15) 3) 1 3 0 acc.length)],[(.fld (.loc 15) 3,⟨1,.own,3,rowF (fzs (rest.foldl addP acc))⟩)],3⟩):=by
 refine za6 (stAo acc.length rest acc) rest.length _ (fun j hj=>?_) ?_
 ·have hg:rest[j]? = some (rest[j]'hj):=List.getElem?_eq_getElem hj
  have hws:=zcy hj (by omega)
  have hm:=List.getElem_mem hj
  have hlen:=zj4 (rest.take j) acc (fun r hr=>hall r (List.mem_of_mem_take hr))
  have hr:(rest[j]'hj).length=acc.length:=hall _ hm
  have hsz:=ztw hB (rest.take j) acc S ha (fun r hr=>hw r (List.mem_of_mem_take hr))
  rw[List.length_take,Nat.min_eq_left (by omega)]at hsz
  have hj2:(j+1)*(B+1)≤rest.length*(B+1):=Nat.mul_le_mul_right _ hj
  rw[Nat.succ_mul]at hj2
  have hin:=ztv (T:=T) rest.length j rest (rest[j]'hj) ((rest.take j).foldl addP acc) (by omega) (by omega) hsz (hw _ hm) hB (by omega)
  have e:(rest.take (j+1)).foldl addP acc=addP ((rest.take j).foldl addP acc) (rest[j]'hj):=by
   rw[List.take_succ_eq_append_getElem hj,List.foldl_append];rfl
  unfold stAo
  rw[e]
  unfold stAi at hin
  rw[List.take_zero,List.drop_zero,List.nil_append,hlen]at hin
  clear e hsz hlen hj2
  generalize fzs ((rest.take j).foldl addP acc)=M at *
  generalize fzs (addP ((rest.take j).foldl addP acc) (rest[j]'hj))=M' at *
  generalize acc.length=n at *
  simp only[Int.natCast_zero]at hin
  have hr':((rest[j]'hj).length:Int)=n:=by omega
  simp -implicitDefEqProofs[l267_1,hj,hg,hws,hin,hr,hr']
 ·unfold stAo
  rw[List.take_of_length_le (Nat.le_refl _)]
  generalize fzs (rest.foldl addP acc)=M at *
  constructor<;>simp -implicitDefEqProofs[l267_1]
theorem zzu(r0:List Fz)(rest:List (List Fz))(hn:r0.length≤1000)(hk:rest.length≤1000){B:Nat}(hw0:∀x∈r0,fsz x≤B)(hw:∀r∈rest,∀x∈r,fsz x≤B)(hB:1≤B)
  (hS:B+rest.length*(B+1)≤1000) (hall:∀r∈rest,r.length=r0.length) :
  callF T 267 [.sl (matF (r0::rest)) .an]=some (.tup [.sl (rowF (fzs (rest.foldl addP (r0.map fv)))) .an,.b true]):=by
 have hno:=zgc (T:=T) r0 hn (fun x hx=>Nat.le_trans (hw0 x hx) (by omega))
 rw[zdm]at hno
 have h:=ztx (T:=T) rest (r0.map fv) (by simpa using hn) hk (S:=B) (by
  intro q hq
  obtain⟨x,hx,rfl⟩:=List.mem_map.1 hq
  exact zbo (hw0 x hx) hB) hw hB hS (by simpa using hall)
 have hfl:=zj4 rest (r0.map fv) (by simpa using hall)
 unfold stAo at h
 rw[List.take_zero,List.foldl_nil]at h
 rw[List.length_map]at h hfl
 have hl2:(fzs (rest.foldl addP (r0.map fv))).length=r0.length:=by rw[zam];exact hfl
 have ht:List.take r0.length (fzs (rest.foldl addP (r0.map fv)))=fzs (rest.foldl addP (r0.map fv)):=List.take_of_length_le (by omega)
 rw[f267 _ rfl,b267]
 clear hw0 hw hS hall hfl
 generalize fzs (rest.foldl addP (r0.map fv))=M at *
 generalize fzs (r0.map fv)=N at *
 have e1:(matF (r0::rest))[0]? = some [.sl (rowF r0) .an]:=rfl
 have e2:(matF (r0::rest)).length=rest.length+1:=by simp
 have e4:¬ (rest.length:Int)+1=0:=by omega
 have e7:Option.all (fun r:List AV=>decide (r.length=1)) (matF (r0::rest)).head? = true:=rfl
 have e8:(List.take (rest.length+1) (matF (r0::rest))).tail=matF rest:=by rw[List.take_of_length_le (by simp)];rfl
 have e6:(1:Int)≤(rest.length:Int)+1:=by omega
 generalize matF (r0::rest)=RR at *
 obtain⟨_,e5⟩:=List.getElem?_eq_some_iff.1 e1
 simp only[Int.natCast_zero]at h
 simp -implicitDefEqProofs[hno,h,hl2,ht,e1,e2,e4,e5,e6,e7,e8]
end
def mixF(p:List (Fz×List Fz))(acc:List Rat):List Rat:=p.foldl (fun a q=>mixP (fv q.1) a q.2) acc
section
variable{T:Tbl}[CNat T][CProd T][CTwos T][CQuot T][CQuotD T][CText T][CWhole T][CCommon T][CFrac T][CJoin T][CRow T]
def stMi(C:List Fz)(k j n:Nat)(l:List (List Fz))(r:List Fz)(L acc:List Rat)(i:Nat):St:=
 ⟨[(0,.sl (rowF C) .an),(10,.bs (.fld (.loc 40) 9) 1 3 0 n),(11,.i .i64 k),(41,.sl (matF l) .an),(42,.i .i64 j),(43,.i .i64 k),(54,.sl (rowF r) .an),(55,.i .i64 n),(56,.i .i64 i)],
  [(.fld (.loc 40) 9,⟨1,.own,3,rowF (fzs (L.take i++acc.drop i))⟩)],3⟩
def stMo(C:List Fz)(n:Nat)(l:List (List Fz))(acc:List Rat)(k:Nat):St:=
 ⟨[(0,.sl (rowF C) .an),(10,.bs (.fld (.loc 40) 9) 1 3 0 n),(41,.sl (matF l) .an),(42,.i .i64 l.length),(43,.i .i64 k)],[(.fld (.loc 40) 9,⟨1,.own,3,rowF (fzs (mixF ((C.zip l).take k) acc))⟩)],3⟩
def stMc(C:List Fz)(l:List (List Fz))(n i:Nat):St:=⟨[(0,.sl (rowF C) .an),(1,.sl (matF l) .an),(2,.i .i64 n),(28,.sl (matF l) .an),(29,.i .i64 l.length),(30,.i .i64 i)],[],2⟩
end
abbrev agS(t h:Fz)(y0 y1 f0 f1:List Fz):AV:=
 .agg [.b t.1,.sl (u32s t.2.1) .an,.sl (u32s t.2.2) .an,.b h.1,.sl (u32s h.2.1) .an,.sl (u32s h.2.2) .an,.sl (rowF y0) .an,.sl (rowF y1) .an,.sl (rowF f0) .an,.sl (rowF f1) .an]
def prodQ(l:List Fz):Rat:=l.foldl (fun p x=>p*fv x) 1
section
variable{T:Tbl}[CNat T][CProd T][CTwos T][CQuot T][CQuotD T][CText T][CWhole T][CCommon T][CFrac T][CJoin T][CRow T][CSpan T]
def stTm(l:List Fz)(i:Nat):St:=⟨[(2,.ptr (.loc 2) 1 3 0 0),(3,.ptr (.loc 3) 2 3 0 0),(7,.sl (rowF l) .an),(8,.i .i64 l.length),(9,.i .i64 i)],[(.loc 2,⟨1,.str,3,[nocell]⟩),(.loc 3,⟨2,.str,3,[celF (fz (prodQ (l.take i)))]⟩)],4⟩
def rightS(h:Fz)(y0 y1 f0 f1:List Fz):Bool:=decide (0<fv h)&&decide (y0.length≤300)&&decide (y1.length=y0.length)&&decide (f0.length=y0.length)&&decide (f1.length=y0.length)
end
theorem zpn(a b:List AV):wkR (a++b)=wkR a++wkR b:=by rw[zjn,zjn,zjn,List.map_append]
abbrev tyS:Ty:=.cons tyF (.cons tyF (.cons (.sl tyF) (.cons (.sl tyF) (.cons (.sl tyF) (.cons (.sl tyF) .nil)))))
theorem zvc{x:AV}(h:OkArg (true,repTy 2 (.int .i64)) x):∃(a b:Int),x=.agg [.i .i64 a,.i .i64 b]∧(-9223372036854775808≤a∧a<9223372036854775808)∧(-9223372036854775808≤b∧b<9223372036854775808):=by
 obtain⟨cs,rfl,c1,c1',rfl,⟨a,rfl,wa⟩,c2,c2',rfl,⟨b,rfl,wb⟩,rfl⟩:=h
 refine⟨a,b,rfl,?_,?_⟩
 ·simp[Lit.wf,IntKind.min,IntKind.max,IntKind.signed,IntKind.bits]at wa
  omega
 ·simp[Lit.wf,IntKind.min,IntKind.max,IntKind.signed,IntKind.bits]at wb
  omega
class CRef5 (T:Tbl):Prop where
section
variable{T:Tbl}[CNat T][CProd T][CTwos T][CQuot T][CQuotD T][CText T][CWhole T][CCommon T][CFrac T][CJoin T][CRow T]
theorem zqg(r1:List Fz)(rest:List (List Fz))(n:Nat)(M:List Fz)(hne:r1.length≠n) :
  loopN T 0 0 (.norm false [4]) l267_1 ⟨[(4,.bs (.fld (.loc 15) 3) 1 3 0 n),(17,.sl (matF (r1::rest)) .an),(18,.i .i64 ((rest.length:Int)+1)),(19,.i .i64 0)],[(.fld (.loc 15) 3,⟨1,.own,3,rowF M⟩)],3⟩ =
   some (.r,⟨[(2,.sl [] .an),(3,.b false)],[],2⟩):=by
 refine za4 (fun _:Unit=>⟨[(4,.bs (.fld (.loc 15) 3) 1 3 0 n),(17,.sl (matF (r1::rest)) .an),(18,.i .i64 ((rest.length:Int)+1)),(19,.i .i64 0)],[(.fld (.loc 15) 3,⟨1,.own,3,rowF M⟩)],3⟩) (fun _=>True) (fun _=>0) (fun _=>_) ?_ () trivial
 intro _ _
 right
 have e1:(matF (r1::rest))[0]? = some [.sl (rowF r1) .an]:=rfl
 have e2:(matF (r1::rest)).length=rest.length+1:=by simp
 have p1:(0:Int)<(rest.length:Int)+1:=by omega
 have q1:¬ (r1.length:Int)=(n:Int):=by omega
 generalize matF (r1::rest)=RR at *
 obtain⟨h0,e5⟩:=List.getElem?_eq_some_iff.1 e1
 constructor<;>simp -implicitDefEqProofs[l267_1,e1,e2,e5,p1,q1,hne,h0]
theorem zly(r0 r1:List Fz)(rest:List (List Fz))(hn:r0.length≤1000)(hw0:∀x∈r0,fsz x≤1000)(hk:rest.length≤1000)(hne:r1.length≠r0.length) :
  callF T 267 [.sl (matF (r0::r1::rest)) .an]=some (.tup [.sl [] .an,.b false]):=by
 have hno:=zgc (T:=T) r0 hn hw0
 have h:=zqg (T:=T) r1 rest r0.length (nrm r0) hne
 rw[f267 _ rfl,b267]
 have e1:(matF (r0::r1::rest))[0]? = some [.sl (rowF r0) .an]:=rfl
 have e2:(matF (r0::r1::rest)).length=rest.length+1+1:=by simp
 have e4:¬ (rest.length:Int)+1+1=0:=by omega
 have e7:Option.all (fun r:List AV=>decide (r.length=1)) (matF (r0::r1::rest)).head? = true:=rfl
 have e8:(List.take (rest.length+1+1) (matF (r0::r1::rest))).tail=matF (r1::rest):=by rw[List.take_of_length_le (by simp)];rfl
 have e6:(1:Int)≤(rest.length:Int)+1+1:=by omega
 have p0:(0:Int)<(rest.length:Int)+1+1:=by omega
 have hl2:(nrm r0).length=r0.length:=by simp[nrm]
 generalize matF (r0::r1::rest)=RR at *
 obtain⟨_,e5⟩:=List.getElem?_eq_some_iff.1 e1
 clear hw0
 generalize nrm r0=N at *
 have e9:(matF (r1::rest)).length=rest.length+1:=by simp
 have hwk:=z0a (r1::rest)
 generalize matF (r1::rest)=R2 at *
 simp -implicitDefEqProofs[hno,h,hl2,e1,e2,e4,e5,e6,e7,e8,e9,p0,hwk]
end
section
variable{T:Tbl}
theorem zp6(m:Nat)(hm:m%2=1)(K:Nat)(hK:2^K*m<4294967296)(hK2:K≤32):∀v:Nat,v≤K →
  loopN T 0 0 (.norm false [3]) l224_0 ⟨[(0,u32 (2^v*m)),(3,.i .i64 (K-v:Nat))],[],2⟩=some (.n,⟨[(3,.i .i64 K)],[],2⟩):=by
 refine za4 (fun v:Nat=>⟨[(0,u32 (2^v*m)),(3,.i .i64 (K-v:Nat))],[],2⟩) _ (fun v=>v) _ ?_
 intro v hv
 cases v with
 | zero=>
  right
  rw[Nat.pow_zero,Nat.one_mul,Nat.sub_zero]
  constructor<;>simp -implicitDefEqProofs[l224_0,hm]
 | succ v=>
  left
  have hle:2^(v+1)*m≤2^K*m:=Nat.mul_le_mul_right _ (Nat.pow_le_pow_right (by decide) hv)
  have e:2^(v+1)*m=2^v*m*2:=by rw[Nat.pow_succ,Nat.mul_assoc,Nat.mul_comm 2 m,Nat.mul_assoc]
  have hw:IntKind.wrap .i64 (((K-(v+1):Nat):Int)+1)=((K-v:Nat):Int):=by rw[zad _ (by omega)];omega
  refine⟨v,by omega,Nat.lt_succ_self v,?_,rfl⟩
  rw[e]at hle ⊢
  generalize 2^v*m=x at *
  have e1:x*2%2=0:=by omega
  have e2:x*2/2%4294967296=x:=by omega
  have e3:x<4294967296:=by omega
  simp -implicitDefEqProofs[l224_0,e1,e2,e3,hw]
end
section
variable{T:Tbl}[CRef06 T]
theorem zm6(m K:Nat)(hm:m%2=1)(hK:2^K*m<4294967296):callF T 224 [u32 (2^K*m)]=some (.i .i64 K):=by
 have hK2:K≤32:=by
  rcases Nat.lt_or_ge 32 K with h | h
  ·have h1:2^32≤2^K:=Nat.pow_le_pow_right (by decide) (by omega)
   have h2:2^K≤2^K*m:=Nat.le_mul_of_pos_right _ (by omega)
   have h3:(2:Nat)^32=4294967296:=rfl
   omega
  ·exact h
 have h:=zp6 (T:=T) m hm K hK hK2 K (Nat.le_refl _)
 rw[Nat.sub_self]at h
 simp only[Int.natCast_zero]at h
 have h0:2^K*m≠0:=Nat.mul_ne_zero (by have:=Nat.pow_pos (n:=K) (show 0<2 by decide);omega) (by omega)
 rw[f224 _ rfl,b224]
 generalize 2^K*m=x at *
 simp -implicitDefEqProofs[h,h0]
end
theorem zm7{P m a S:List UInt32}{i:Nat}(hm:m.length=i)(hi:i<a.length):(P++(m++(a.drop i++S)))[P.length+i]? = some (a[i]'hi):=by
 rw[List.getElem?_append_right (by omega),Nat.add_sub_cancel_left,List.getElem?_append_right (by omega),hm,Nat.sub_self,List.drop_eq_getElem_cons hi]
 rfl
theorem zv6{P m a S:List UInt32}{i:Nat}(hm:m.length=i)(hi:i+1<a.length):(P++(m++(a.drop i++S)))[P.length+(i+1)]? = some (a[i+1]'hi):=by
 rw[List.getElem?_append_right (by omega),Nat.add_sub_cancel_left,List.getElem?_append_right (by omega),hm,Nat.add_sub_cancel_left,List.drop_eq_getElem_cons (show i<a.length by omega),List.drop_eq_getElem_cons hi]
 rfl
theorem zm8{P m a S:List UInt32}{i:Nat}(hm:m.length=i)(hi:i<a.length)(w:UInt32):(P++(m++(a.drop i++S))).set (P.length+i) w=P++((m++[w])++(a.drop (i+1)++S)):=by
 rw[List.set_append_right _ _ (by omega),Nat.add_sub_cancel_left,List.set_append_right _ _ (by omega),hm,Nat.sub_self,List.drop_eq_getElem_cons hi,List.cons_append,List.set_cons_zero]
 simp
section
variable{T:Tbl}
def stDw(Q:List UInt32)(o n s i:Nat):St:=⟨[(0,.bs (.bor 0) 0 1 o n),(1,.i .i64 s),(5,.i .i64 i)],[(.bor 0,⟨0,.own,1,u32s Q⟩)],4⟩
theorem zv7(Q:List UInt32)(o n s i:Nat)(x y:UInt32)(hi:i+1<n)(hn:n≤1000000)(hs:s<32)(hx:Q[o+i]? = some x)(hy:Q[o+(i+1)]? = some y) :
  evX (orc T) T 1 l225_0 (stDw Q o n s i)=some (.n,stDw (Q.set (o+i) (w32 ((x.toNat+y.toNat*4294967296)/2^s%4294967296))) o n s (i+1)):=by
 have h1:(i:Int)<n:=by omega
 have h2:(i:Int)+1<n:=by omega
 have hw:IntKind.wrap .i64 ((i:Int)+1)=((i+1:Nat):Int):=zad _ (by omega)
 have lx:=zaj x
 have ly:=zaj y
 have m2:y.toNat*4294967296%18446744073709551616=y.toNat*4294967296:=Nat.mod_eq_of_lt (by omega)
 have m3:(y.toNat*4294967296+x.toNat)%18446744073709551616=x.toNat+y.toNat*4294967296:=by rw[Nat.add_comm];exact Nat.mod_eq_of_lt (by omega)
 have hmin:min s 64=s:=by omega
 obtain⟨b1,hgx⟩:=List.getElem?_eq_some_iff.1 hx
 have i1:i<n:=by omega
 unfold stDw
 simp -implicitDefEqProofs[l225_0,h1,h2,i1,hi,hw,hx,hy,m2,m3,hmin,b1,hgx,zej]
theorem zv8(Q:List UInt32)(o n s i:Nat)(x:UInt32)(hi:i+1=n)(hn:n≤1000000)(hs:s<32)(hx:Q[o+i]? = some x) :
  evX (orc T) T 1 l225_0 (stDw Q o n s i)=some (.n,stDw (Q.set (o+i) (w32 (x.toNat/2^s%4294967296))) o n s (i+1)):=by
 have h1:(i:Int)<n:=by omega
 have h2:¬ (i:Int)+1<n:=by omega
 have hw:IntKind.wrap .i64 ((i:Int)+1)=((i+1:Nat):Int):=zad _ (by omega)
 have hmin:min s 64=s:=by omega
 obtain⟨b1,hgx⟩:=List.getElem?_eq_some_iff.1 hx
 have i1:i<n:=by omega
 have i2:¬ i+1<n:=by omega
 unfold stDw
 simp -implicitDefEqProofs[l225_0,h1,h2,i1,i2,hw,hx,hmin,b1,hgx,zej]
theorem zzn(P a S:List UInt32)(s:Nat)(hs:s<32)(hl:a.length≤1000000):∀y:Nat×List UInt32,
  (y.1≤a.length∧y.2.length=y.1∧val y.2+4294967296^y.1*(val (a.drop y.1)/2^s)=val a/2^s) →
  ∃r,(∃m:List UInt32,r=(Ex.n,(⟨[(0,.bs (.bor 0) 0 1 P.length a.length)],[(.bor 0,⟨0,.own,1,u32s (P++(m++S))⟩)],4⟩:St))∧m.length=a.length∧val m=val a/2^s) ∧
   loopN T 1 0 (.norm false [0]) l225_0 (stDw (P++(y.2++(a.drop y.1++S))) P.length a.length s y.1)=some r:=by
 refine zap (fun y:Nat×List UInt32=>stDw (P++(y.2++(a.drop y.1++S))) P.length a.length s y.1) _ (fun y=>a.length-y.1) _ ?_
 rintro⟨i,m⟩ ⟨hi,hm,hv⟩
 simp only at hi hm hv
 by_cases h0:i<a.length
 ·left
  have hx:=zaj (a[i]'h0)
  have hd:=List.drop_eq_getElem_cons h0
  have fin:∀y R:Nat,val (a.drop (i+1))=y+4294967296*R→val (m++[w32 (((a[i]'h0).toNat+y*4294967296)/2^s%4294967296)])+4294967296^(i+1)*(val (a.drop (i+1))/2^s)=val a/2^s:=by
   intro y R hR
   have hmod:((a[i]'h0).toNat+y*4294967296)/2^s%4294967296<4294967296:=Nat.mod_lt _ (by decide)
   have hdw:=zl3 (x:=(a[i]'h0).toNat) (y:=y) (R:=R) hs hx
   rw[hd,zak,hR,hdw,←hR]at hv
   rw[zah,hm,Nat.pow_succ]
   rw[zak,za5,Nat.mul_zero,Nat.add_zero,zag hmod]
   rw[Nat.mul_add]at hv
   rw[←hv,Nat.mul_assoc,Nat.add_assoc]
  by_cases h1:i+1<a.length
  ·have hd1:=List.drop_eq_getElem_cons h1
   refine⟨(i+1,m++[w32 (((a[i]'h0).toNat+(a[i+1]'h1).toNat*4294967296)/2^s%4294967296)]),⟨h0,by simp[hm],fin _ (val (a.drop (i+1+1))) (by rw[hd1,zak])⟩,by simp only;omega,?_⟩
   simp only
   rw[zv7 _ _ _ _ _ _ _ h1 hl hs (zm7 hm h0) (zv6 hm h1),zm8 hm h0]
  ·have f0:=fin 0 0 (by rw[List.drop_of_length_le (by omega),za5,Nat.mul_zero])
   rw[Nat.zero_mul,Nat.add_zero]at f0
   refine⟨(i+1,m++[w32 ((a[i]'h0).toNat/2^s%4294967296)]),⟨h0,by simp[hm],f0⟩,by simp only;omega,?_⟩
   simp only
   rw[zv8 _ _ _ _ _ _ (by omega) hl hs (zm7 hm h0),zm8 hm h0]
 ·right
  have:i=a.length:=by omega
  subst this
  rw[List.drop_length,za5,Nat.zero_div,Nat.mul_zero,Nat.add_zero]at hv
  refine⟨_,⟨m,rfl,hm,hv⟩,?_,?_⟩<;>simp -implicitDefEqProofs[l225_0,stDw]
theorem zp7(P a S:List UInt32)(hl:a.length≤1000000){n:Nat}(hn:n≤a.length)(h0:∀(i:Nat) (x:UInt32),n≤i→a[i]? = some x→x.toNat=0)(h1:∀x:UInt32,0<n→a[n-1]? = some x→x.toNat≠0) :
  ∀k:Nat,(n≤k∧k≤a.length)→loopN T 1 2 (.norm false [0]) l225_1 ⟨[(0,.bs (.bor 0) 0 1 P.length k)],[(.bor 0,⟨0,.own,1,u32s (P++(a++S))⟩)],4⟩ =
   some (.n,⟨[(0,.bs (.bor 0) 0 1 P.length n)],[(.bor 0,⟨0,.own,1,u32s (P++(a++S))⟩)],4⟩):=by
 refine za4 (fun k:Nat=>⟨[(0,.bs (.bor 0) 0 1 P.length k)],[(.bor 0,⟨0,.own,1,u32s (P++(a++S))⟩)],4⟩) _ (fun k=>k) _ ?_
 rintro k ⟨hk,hka⟩
 have hget:∀j,j<a.length→(P++(a++S))[P.length+j]? = a[j]? := by
  intro j hj
  rw[List.getElem?_append_right (by omega),Nat.add_sub_cancel_left,List.getElem?_append_left hj]
 by_cases h2:k=0
 ·right
  have:n=0:=by omega
  subst this;subst h2
  generalize P++(a++S)=Q at *
  constructor<;>simp -implicitDefEqProofs[l225_1]
 ·have hw:IntKind.wrap .i64 ((k:Int)-1)=((k-1:Nat):Int):=by rw[zad _ (by omega)];omega
  have hg:a[k-1]? = some (a[k-1]'(by omega)):=List.getElem?_eq_getElem _
  have hq:=hget (k-1) (by omega)
  rw[hg]at hq
  have hpos:0<k:=by omega
  have hlt:k-1<k:=by omega
  generalize P++(a++S)=Q at *
  by_cases h3:k=n
  ·right
   subst h3
   have hx:=h1 _ hpos hg
   constructor<;>simp -implicitDefEqProofs[l225_1,hpos,hw,hq,hx,hlt]
  ·left
   have hx:=h0 (k-1) _ (by omega) hg
   refine⟨k-1,⟨by omega,by omega⟩,hlt,?_,rfl⟩
   simp -implicitDefEqProofs[l225_1,hpos,hw,hq,hx,hlt]
end
section
variable{T:Tbl}[CRef06 T]
theorem zp8(P a S:List UInt32)(s:Nat)(hs:s<32)(hl:a.length≤1000000) :
  ∃S',S'.length+(ofN (val a/2^s)).length=a.length+S.length ∧
   callH T 225 [.bs (.bor 0) 0 1 P.length a.length,.i .i64 s] [(.bor 0,⟨0,.own,1,u32s (P++(a++S))⟩)] =
    some (.bs (.bor 0) 0 1 P.length (ofN (val a/2^s)).length,[(.bor 0,⟨0,.own,1,u32s (P++(ofN (val a/2^s)++S'))⟩)]):=by
 obtain⟨_,⟨m,rfl,hm,hv⟩,hr⟩:=zzn (T:=T) P a S s hs hl (0,[]) ⟨Nat.zero_le _,rfl,by simp⟩
 obtain⟨n,h1,h2,h3,h4⟩:=zfk m
 have ht:=zp7 (T:=T) P m S (by omega) h1 h3 h4 m.length ⟨h1,Nat.le_refl _⟩
 rw[hv]at h2
 have hlen:(ofN (val a/2^s)).length=n:=by rw[←h2];simp;omega
 have e:P++(m++S)=P++(ofN (val a/2^s)++(m.drop n++S)):=by rw[←h2,←List.append_assoc (m.take n),List.take_append_drop]
 refine⟨m.drop n++S,by simp;omega,?_⟩
 rw[hlen,←e]
 rw[hm]at ht
 unfold stDw at hr
 simp only[List.nil_append,List.drop_zero,Int.natCast_zero]at hr
 rw[f225 _ _ rfl,b225]
 clear e h3 h4 h2
 generalize P++(m++S)=Q at *
 generalize P++(a++S)=R at *
 simp -implicitDefEqProofs[hr,ht]
theorem zhw{P a S:List UInt32}{j:Nat}(hj:j<a.length):(P++(a++S))[P.length+j]? = a[j]? := by
 rw[List.getElem?_append_right (by omega),Nat.add_sub_cancel_left,List.getElem?_append_left hj]
theorem zp9(Q:List UInt32)(o n j0:Nat)(hn:n≤1000000)(hj:j0<n)(hz:∀j,j<j0→∃x:UInt32,Q[o+j]? = some x∧x.toNat=0)(h1:∃x:UInt32,Q[o+j0]? = some x∧x.toNat≠0) :
  ∀j:Nat,j≤j0→loopN T 1 0 (.norm false [0,4]) l226_0 ⟨[(0,.bs (.bor 0) 0 1 (o+j) (n-j)),(4,.i .i64 (32*j:Nat))],[(.bor 0,⟨0,.own,1,u32s Q⟩)],4⟩ =
   some (.n,⟨[(0,.bs (.bor 0) 0 1 (o+j0) (n-j0)),(4,.i .i64 (32*j0:Nat))],[(.bor 0,⟨0,.own,1,u32s Q⟩)],4⟩):=by
 refine za4 (fun j:Nat=>⟨[(0,.bs (.bor 0) 0 1 (o+j) (n-j)),(4,.i .i64 (32*j:Nat))],[(.bor 0,⟨0,.own,1,u32s Q⟩)],4⟩) _ (fun j=>j0-j) _ ?_
 intro j hj2
 have hpos:0<n-j:=by omega
 by_cases h:j=j0
 ·right
  subst h
  obtain⟨x,hx,hx0⟩:=h1
  constructor<;>simp -implicitDefEqProofs[l226_0,hpos,hx,hx0]
 ·left
  obtain⟨x,hx,hx0⟩:=hz j (by omega)
  have hw:IntKind.wrap .i64 (((32*j:Nat):Int)+32)=((32*(j+1):Nat):Int):=by rw[zad _ (by omega)];omega
  have e1:1<n-j:=by omega
  have e2:n-j-1=n-(j+1):=by omega
  have e3:(1:Int)≤((n-j:Nat):Int):=by omega
  refine⟨j+1,by omega,by show j0-(j+1)<j0-j;omega,?_,rfl⟩
  generalize 32*j=c at *
  generalize 32*(j+1)=c' at *
  rw[←Nat.add_assoc,←e2]
  generalize n-j=k at *
  have e4:1≤k:=by omega
  simp -implicitDefEqProofs[l226_0,hpos,hx,hx0,hw,e1,e3,e4]
theorem zls:∀(a:List UInt32),val a≠0→∃j,∃h:j<a.length,(∀i (hi:i<j),(a[i]'(by omega)).toNat=0)∧(a[j]'h).toNat≠0∧val a=4294967296^j*val (a.drop j)
 | [],h=>by simp at h
 | x::a,h=>by
  by_cases hx:x.toNat=0
  ·have h2:val a≠0:=by
    intro e
    apply h
    rw[zak,hx,e]
   obtain⟨j,hj,h3,h4,h5⟩:=zls a h2
   refine⟨j+1,by simpa using hj,?_,by simpa using h4,?_⟩
   ·intro i hi
    cases i with
    | zero=>simpa using hx
    | succ i=>simpa using h3 i (by omega)
   ·rw[zak,hx,h5,List.drop_succ_cons,Nat.pow_succ,Nat.zero_add,Nat.mul_comm (4294967296^j) 4294967296,Nat.mul_assoc]
  ·exact⟨0,by simp,fun i hi=>by omega,by simpa using hx,by simp⟩
theorem zfj(P a S:List UInt32)(hl:a.length≤100000)(h:val a≠0):∃(P' S':List UInt32) (m k:Nat),val a=2^k*m∧m%2=1∧k≤32*a.length∧(ofN m).length≤a.length∧P'.length+(ofN m).length+S'.length=P.length+a.length+S.length ∧
  callH T 226 [.bs (.bor 0) 0 1 P.length a.length] [(.bor 0,⟨0,.own,1,u32s (P++(a++S))⟩)] =
   some (.tup [.bs (.bor 0) 0 1 P'.length (ofN m).length,.i .i64 k],[(.bor 0,⟨0,.own,1,u32s (P'++(ofN m++S'))⟩)]):=by
 obtain⟨j,hj,hz,hne,hv⟩:=zls a h
 obtain⟨s,c,hsc,hc⟩:=zwp hne
 have hx:=zaj (a[j]'hj)
 have hs:s<32:=by
  rcases Nat.lt_or_ge s 32 with h1 | h1
  ·exact h1
  ·have h2:2^32≤2^s:=Nat.pow_le_pow_right (by decide) h1
   have h3:2^s≤2^s*c:=Nat.le_mul_of_pos_right _ (by omega)
   have h4:(2:Nat)^32=4294967296:=rfl
   omega
 have hd:=List.drop_eq_getElem_cons hj
 -- the rest is odd
 have hm:∃m,val (a.drop j)=2^s*m∧m%2=1:=by
  refine⟨c+2^(32-s)*val (a.drop (j+1)),?_,?_⟩
  ·rw[hd,zak,hsc,Nat.mul_add,←Nat.mul_assoc,←Nat.pow_add,show s+(32-s)=32 by omega]
  ·have:2^(32-s)=2*2^(31-s):=by rw[←Nat.pow_succ'];congr 1;omega
   rw[this,Nat.mul_assoc]
   omega
 obtain⟨m,hm1,hm2⟩:=hm
 have hdiv:val (a.drop j)/2^s=m:=by rw[hm1,Nat.mul_div_cancel_left _ (Nat.pow_pos (by decide))]
 have hlen:(a.drop j).length=a.length-j:=by simp
 obtain⟨S',hS',hdown⟩:=zp8 (T:=T) (P++a.take j) (a.drop j) S s hs (by omega)
 rw[hdiv]at hS' hdown
 have hPl:(P++a.take j).length=P.length+j:=by simp;omega
 have hbox:(P++a.take j)++(a.drop j++S)=P++(a++S):=by
  rw[List.append_assoc,←List.append_assoc (a.take j),List.take_append_drop]
 rw[hPl,hlen,hbox]at hdown
 have hml:(ofN m).length≤a.length:=by
  have h1:m≤val (a.drop j):=by rw[hm1];exact Nat.le_mul_of_pos_left _ (Nat.pow_pos (by decide))
  have h2:=zas h1
  have h3:=zac (a.drop j)
  omega
 refine⟨P++a.take j,S',m,32*j+s,?_,hm2,by omega,hml,by simp at hS' ⊢;omega,?_⟩
 ·rw[hv,hm1,znf,Nat.pow_add,Nat.mul_assoc]
 ·have hst:=zp9 (T:=T) (P++(a++S)) P.length a.length j (by omega) hj (fun i hi=>⟨_,by rw[zhw (by omega)];exact List.getElem?_eq_getElem (by omega),hz i hi⟩) ⟨_,by rw[zhw hj];exact List.getElem?_eq_getElem hj,hne⟩ 0 (Nat.zero_le _)
  have hzr:=zm6 (T:=T) c s hc (by rw[←hsc];exact hx)
  rw[←hsc]at hzr
  have hg:(P++(a++S))[P.length+j]? = some (a[j]'hj):=by rw[zhw hj];exact List.getElem?_eq_getElem hj
  have hpos:0<a.length-j:=by omega
  have hw:IntKind.wrap .i64 (((32*j:Nat):Int)+s)=((32*j+s:Nat):Int):=by rw[zad _ (by omega)];omega
  simp only[Nat.mul_zero,Nat.add_zero,Nat.sub_zero,Int.natCast_zero]at hst
  rw[hPl,f226 _ _ rfl,b226]
  generalize a[j]'hj=x at *
  clear hsc hv hm1 hd hz hne hbox hS' h hdiv hx
  generalize 32*j=c1 at *
  generalize c1+s=c2 at *
  generalize P++(a++S)=Q at *
  generalize P++a.take j++(ofN m++S')=Q' at *
  simp -implicitDefEqProofs[hst,hzr,hg,hpos,hw,hdown]
end
theorem zxe{P m a S b:List UInt32}{i c s d:Nat}(hm:m.length=i)(h0:i<a.length)(hv:val m+val (b.take i)=val (a.take i)+4294967296^i*c)(hs:s<4294967296)(h:s+(atW b i+c)=(a[i]'h0).toNat+4294967296*d) :
  val (m++[w32 s])+val (b.take (i+1))=val (a.take (i+1))+4294967296^(i+1)*d:=by
 have e1:=zaf (List.getElem?_eq_getElem h0)
 have e2:=zbb b i
 rw[zah,hm,e1,e2,Nat.pow_succ]
 simp only[zak,za5,Nat.mul_zero,Nat.add_zero,zag hs]
 generalize 4294967296^i=p at *
 have e3:p*s+p*(atW b i+c)=p*(a[i]'h0).toNat+p*4294967296*d:=by rw[←Nat.mul_add,h,Nat.mul_add,Nat.mul_assoc]
 rw[Nat.mul_add]at e3
 omega
section
variable{T:Tbl}[CRef02 T][CRef04 T][CRef05 T][CRef07 T][CRef06 T]
def stLw(Q R:List UInt32)(o n o2 n2 c i:Nat):St:=⟨[(0,.bs (.bor 0) 0 1 o n),(1,.bs (.bor 1) 1 1 o2 n2),(4,u64 c),(5,.i .i64 i)],[(.bor 0,⟨0,.own,1,u32s Q⟩),(.bor 1,⟨1,.own,1,u32s R⟩)],6⟩
theorem zzo(Q R b:List UInt32)(o n o2 n2 c i:Nat)(x:UInt32)(hi:i<n)(hn:n≤1000000)(hb:b.length≤1000000)(hc:c≤1)(hx:Q[o+i]? = some x)(hR:List.take n2 (List.drop o2 R)=b)(hR2:o2+n2≤R.length) :
  evX (orc T) T 2 l2097_0 (stLw Q R o n o2 n2 c i)=some (.n,stLw (Q.set (o+i) (w32 (if x.toNat<atW b i+c then x.toNat+4294967296-(atW b i+c) else x.toNat-(atW b i+c)))) R o n o2 n2 (if x.toNat<atW b i+c then 1 else 0) (i+1)):=by
 have h1:(i:Int)<n:=by omega
 have hw:IntKind.wrap .i64 ((i:Int)+1)=((i+1:Nat):Int):=zad _ (by omega)
 have cb:=zct (T:=T) b i hb
 have lx:=zaj x
 have lb:=zhu b i
 generalize atW b i=y at *
 have m2:y%18446744073709551616=y:=Nat.mod_eq_of_lt (by omega)
 have m3:(y+c)%18446744073709551616=y+c:=Nat.mod_eq_of_lt (by omega)
 have m4:(x.toNat+4294967296)%18446744073709551616=x.toNat+4294967296:=Nat.mod_eq_of_lt (by omega)
 obtain⟨b1,hgx⟩:=List.getElem?_eq_some_iff.1 hx
 unfold stLw
 by_cases hlt:x.toNat<y+c
 ·have hs:sub64 (x.toNat+4294967296) (y+c)=x.toNat+4294967296-(y+c):=zed (by omega) (by omega)
  simp -implicitDefEqProofs[l2097_0,h1,hi,hw,cb,m2,m3,m4,hx,b1,hgx,hR,hR2,hlt,hs]
 ·have hs:sub64 x.toNat (y+c)=x.toNat-(y+c):=zed (by omega) (by omega)
  simp -implicitDefEqProofs[l2097_0,h1,hi,hw,cb,m2,m3,m4,hx,b1,hgx,hR,hR2,hlt,hs]
theorem zzp(P a S R b:List UInt32)(o2 n2:Nat)(hl:a.length≤1000000)(hb:b.length≤1000000)(hR:List.take n2 (List.drop o2 R)=b)(hR2:o2+n2≤R.length):∀y:Nat×Nat×List UInt32,
  (y.1≤a.length∧y.2.1≤1∧y.2.2.length=y.1∧val y.2.2+val (b.take y.1)=val (a.take y.1)+4294967296^y.1*y.2.1) →
  ∃r,(∃(c:Nat) (m:List UInt32),r=(Ex.n,(⟨[],[(.bor 0,⟨0,.own,1,u32s (P++(m++S))⟩),(.bor 1,⟨1,.own,1,u32s R⟩)],6⟩:St)) ∧
   m.length=a.length∧c≤1∧val m+val (b.take a.length)=val a+4294967296^a.length*c) ∧
   loopN T 2 0 (.norm false []) l2097_0 (stLw (P++(y.2.2++(a.drop y.1++S))) R P.length a.length o2 n2 y.2.1 y.1)=some r:=by
 refine zap (fun y:Nat×Nat×List UInt32=>stLw (P++(y.2.2++(a.drop y.1++S))) R P.length a.length o2 n2 y.2.1 y.1) _ (fun y=>a.length-y.1) _ ?_
 rintro⟨i,c,m⟩ ⟨hi,hc,hm,hv⟩
 simp only at hi hc hm hv
 by_cases h0:i<a.length
 ·left
  have lx:=zaj (a[i]'h0)
  have lb:=zhu b i
  have hstep:=zzo (T:=T) (P++(m++(a.drop i++S))) R b P.length a.length o2 n2 c i (a[i]'h0) h0 hl hb hc (zm7 hm h0) hR hR2
  rw[zm8 hm h0]at hstep
  by_cases hlt:(a[i]'h0).toNat<atW b i+c
  ·rw[if_pos hlt,if_pos hlt]at hstep
   exact⟨(i+1,1,m++[w32 ((a[i]'h0).toNat+4294967296-(atW b i+c))]),⟨h0,Nat.le_refl _,by simp[hm],by simp only;exact zxe (P:=P) (S:=S) hm h0 hv (by omega) (by omega)⟩,by simp only;omega,hstep⟩
  ·rw[if_neg hlt,if_neg hlt]at hstep
   exact⟨(i+1,0,m++[w32 ((a[i]'h0).toNat-(atW b i+c))]),⟨h0,Nat.zero_le _,by simp[hm],by simp only;exact zxe (P:=P) (S:=S) hm h0 hv (by omega) (by omega)⟩,by simp only;omega,hstep⟩
 ·right
  have:i=a.length:=by omega
  subst this
  rw[List.take_of_length_le (Nat.le_refl a.length)]at hv
  refine⟨_,⟨c,m,rfl,hm,hc,hv⟩,?_,?_⟩<;>simp -implicitDefEqProofs[l2097_0,stLw]
theorem zhx(P a S P2 b S2:List UInt32)(hl:a.length≤1000000)(hb:b.length≤a.length)(hab:val b≤val a) :
  ∃m:List UInt32,m.length=a.length∧val m=val a-val b ∧
   callH T 2097 [.bs (.bor 0) 0 1 P.length a.length,.bs (.bor 1) 1 1 P2.length b.length] [(.bor 0,⟨0,.own,1,u32s (P++(a++S))⟩),(.bor 1,⟨1,.own,1,u32s (P2++(b++S2))⟩)] =
    some (.tup [],[(.bor 0,⟨0,.own,1,u32s (P++(m++S))⟩),(.bor 1,⟨1,.own,1,u32s (P2++(b++S2))⟩)]):=by
 obtain⟨_,⟨c,m,rfl,hm,hc,hv⟩,hr⟩:=zzp (T:=T) P a S (P2++(b++S2)) b P2.length b.length hl (by omega) (by simp) (by simp) (0,0,[]) ⟨Nat.zero_le _,Nat.zero_le _,rfl,by simp⟩
 rw[List.take_of_length_le hb]at hv
 have hlo:=za0 m
 rw[hm]at hlo
 have hval:val m=val a-val b:=by
  rcases Nat.eq_zero_or_pos c with h1 | h1
  ·subst h1;omega
  ·have:c=1:=by omega
   subst this
   omega
 refine⟨m,hm,hval,?_⟩
 unfold stLw at hr
 simp only[List.nil_append,List.drop_zero,Int.natCast_zero]at hr
 rw[f2097 _ _ rfl,b2097]
 generalize P++(a++S)=Q at *
 generalize P++(m++S)=Q2 at *
 generalize P2++(b++S2)=R at *
 clear hv hlo hval
 simp -implicitDefEqProofs[hr]
theorem zlt(a:List UInt32):callF T 229 [.sl (u32s (ofN (val a))) .an]=some (.b (decide (val a=1))):=by
 rw[f229 _ rfl,b229]
 generalize val a=n
 by_cases h0:n=0
 ·subst h0
  simp -implicitDefEqProofs
 ·rw[zf0 h0]
  by_cases h1:n/4294967296=0
  ·have e:ofN (n/4294967296)=[]:=zau.2 h1
   have e2:n%4294967296=n:=Nat.mod_eq_of_lt (by omega)
   simp -implicitDefEqProofs[e,u32s,zbu,e2]
  ·have h2:¬ ofN (n/4294967296)=[]:=fun e=>h1 (zau.1 e)
   have h3:¬ n=1:=by rintro rfl;simp at h1
   have h4:¬ ((ofN (n/4294967296)).length:Int)+1=1:=by
    have:=List.length_pos_iff.2 h2
    omega
   simp -implicitDefEqProofs[u32s,h3,h4]
theorem zi2(a g:List UInt32)(ha:a.length≤10000)(hg:g.length≤10000)(h0:val g≠0):callF T 230 [.sl (u32s a) .an,.sl (u32s (ofN (val g))) .an]=some (.sl (u32s (ofN (val a/val g))) .an):=by
 have ho:=zlt (T:=T) g
 have hn:=zbh (T:=T) a (by omega)
 have hd:=ztk (T:=T) a (ofN (val g)) (by omega) (by have:=zac g;omega) (by rw[zae];omega)
 rw[zae]at hd
 rw[f230 _ rfl,b230]
 by_cases h1:val g=1
 ·rw[h1]at ho hd ⊢
  simp -implicitDefEqProofs[ho,hn]
 ·simp -implicitDefEqProofs[ho,h1,hd]
theorem zlu(a:List UInt32)(k:Nat)(ha:a.length≤10000)(hk:k≤1000000):callF T 227 [.sl (u32s a) .an,.i .i64 k]=some (.sl (u32s (ofN (2^k*val a))) .an):=by
 have hq:(k:Int).tdiv 32=(k:Int)/32:=Int.tdiv_eq_ediv_of_nonneg (by omega)
 have hm2:(k:Int).tmod 32=(k:Int)%32:=Int.tmod_eq_emod_of_nonneg (by omega)
 have s0:¬ (k:Int)%32<0:=by omega
 have s1:((k:Int)%32).toNat=k%32:=by omega
 have s2:min (k%32) 32=k%32:=by omega
 have w1:IntKind.wrap .i64 ((k:Int)/32)=((k/32:Nat):Int):=by rw[zad (k/32) (by omega)];omega
 have h2:2^(k%32)<4294967296:=by
  have:=Nat.pow_lt_pow_right (show 1<2 by decide) (Nat.mod_lt k (show 0<32 by decide))
  have h4:(2:Nat)^32=4294967296:=rfl
  omega
 have s3:2^(k%32)%4294967296=2^(k%32):=Nat.mod_eq_of_lt h2
 have hmul:=zfi (T:=T) (List.replicate (k/32) 0++a) [w32 (2^(k%32))] (by simp;omega) (by simp)
 have hv:val (List.replicate (k/32) 0++a)*val [w32 (2^(k%32))]=2^k*val a:=by
  rw[zah,zbe,List.length_replicate,zak,za5,zag h2,Nat.mul_zero,Nat.add_zero,Nat.zero_add,znf,Nat.mul_comm,←Nat.mul_assoc,←Nat.pow_add,show k%32+32*(k/32)=k by omega]
 rw[hv]at hmul
 have b2:k/32+a.length≤4294967296:=by omega
 have b3:((k/32:Nat):Int)≤4294967296:=by omega
 have hu:u32s [w32 (2^(k%32))]=[[u32 (2^(k%32))]]:=by simp[u32s,zag h2]
 rw[hu]at hmul
 have ht:List.take (k/32+a.length) (List.replicate (k/32) 0++a)=List.replicate (k/32) 0++a:=List.take_of_length_le (by simp)
 rw[f227 _ rfl,b227]
 generalize 2^k*val a=V at *
 clear hv hu
 generalize k/32=q at *
 simp -implicitDefEqProofs[hq,hm2,w1,s0,s1,s2,s3,hmul,b2,b3,ht]
def nmX:BId:=.fld (.loc 12) 22
def nmY:BId:=.fld (.loc 14) 22
def nm2(f:Bool):BId×BId:=if f then (nmX,nmY) else (nmY,nmX)
def stGc(f:Bool)(P a S P2 b S2:List UInt32)(m n:Nat):St:=
 ⟨[(5,.bs (nm2 f).1 1 1 P.length a.length),(6,.bs (nm2 f).2 2 1 P2.length b.length),(7,.i .i64 m),(8,.i .i64 n)],[((nm2 f).1,⟨1,.own,1,u32s (P++(a++S))⟩),((nm2 f).2,⟨2,.own,1,u32s (P2++(b++S2))⟩)],4⟩
theorem zabn(f:Bool)(P S P2 S2:List UInt32)(X Y m n:Nat)(hX:(ofN X).length≤10000)(hY:(ofN Y).length≤10000)(h:Y<X) :
  ∃(P' S':List UInt32) (k x:Nat),X-Y=2^k*x∧x%2=1 ∧
   evX (orc T) T 0 l228_0 (stGc f P (ofN X) S P2 (ofN Y) S2 m n)=some (.n,stGc f P' (ofN x) S' P2 (ofN Y) S2 m n):=by
 have hc:=zd2 (T:=T) (ofN X) (ofN Y) (by omega) (by omega)
 rw[zae,zae,show cmpN X Y=1 by unfold cmpN;rw[if_neg (by omega),if_pos h]]at hc
 obtain⟨d,hd,hv,hless⟩:=zhx (T:=T) P (ofN X) S P2 (ofN Y) S2 (by omega) (zas (Nat.le_of_lt h)) (by rw[zae,zae];omega)
 rw[zae,zae]at hv
 obtain⟨P',S',x,k,e1,e2,e3,e4,e5,hodd⟩:=zfj (T:=T) P d S (by omega) (by omega)
 refine⟨P',S',k,x,by omega,e2,?_⟩
 have t1:List.take (ofN X).length (List.drop P.length (P++(ofN X++S)))=ofN X:=by simp
 have t2:List.take (ofN Y).length (List.drop P2.length (P2++(ofN Y++S2)))=ofN Y:=by simp
 have b1:P.length+(ofN X).length≤(P++(ofN X++S)).length:=by simp
 have b2:P2.length+(ofN Y).length≤(P2++(ofN Y++S2)).length:=by simp
 rw[hd]at hodd
 unfold stGc
 clear hv e1 e3 e4 e5 hd hX hY
 generalize P++(ofN X++S)=Q at *
 generalize P2++(ofN Y++S2)=R at *
 generalize P'++(ofN x++S')=Q' at *
 generalize P++(d++S)=Q2 at *
 generalize ofN X=A at *
 generalize ofN Y=B at *
 cases f<;>simp -implicitDefEqProofs[l228_0,nm2,nmX,nmY,hc,t1,t2,b1,b2,hless,hodd]
theorem zabo(f:Bool)(P S P2 S2:List UInt32)(X Y m n:Nat)(hX:(ofN X).length≤10000)(hY:(ofN Y).length≤10000)(h:X<Y) :
  ∃(P' S':List UInt32) (k x:Nat),Y-X=2^k*x∧x%2=1 ∧
   evX (orc T) T 0 l228_0 (stGc f P (ofN X) S P2 (ofN Y) S2 m n)=some (.n,stGc (!f) P' (ofN x) S' P (ofN X) S m n):=by
 have hc:=zd2 (T:=T) (ofN X) (ofN Y) (by omega) (by omega)
 rw[zae,zae,show cmpN X Y=-1 by unfold cmpN;rw[if_pos h]]at hc
 obtain⟨d,hd,hv,hless⟩:=zhx (T:=T) P2 (ofN Y) S2 P (ofN X) S (by omega) (zas (Nat.le_of_lt h)) (by rw[zae,zae];omega)
 rw[zae,zae]at hv
 obtain⟨P',S',x,k,e1,e2,e3,e4,e5,hodd⟩:=zfj (T:=T) P2 d S2 (by omega) (by omega)
 refine⟨P',S',k,x,by omega,e2,?_⟩
 have t1:List.take (ofN X).length (List.drop P.length (P++(ofN X++S)))=ofN X:=by simp
 have t2:List.take (ofN Y).length (List.drop P2.length (P2++(ofN Y++S2)))=ofN Y:=by simp
 have b1:P.length+(ofN X).length≤(P++(ofN X++S)).length:=by simp
 have b2:P2.length+(ofN Y).length≤(P2++(ofN Y++S2)).length:=by simp
 rw[hd]at hodd
 unfold stGc
 clear hv e1 e3 e4 e5 hd hX hY
 generalize P++(ofN X++S)=Q at *
 generalize P2++(ofN Y++S2)=R at *
 generalize P'++(ofN x++S')=Q' at *
 generalize P2++(d++S2)=Q2 at *
 generalize ofN X=A at *
 generalize ofN Y=B at *
 cases f<;>simp -implicitDefEqProofs[l228_0,nm2,nmX,nmY,hc,t1,t2,b1,b2,hless,hodd]
theorem zabp(f:Bool)(P S P2 S2:List UInt32)(X m n:Nat)(hX:(ofN X).length≤10000){G:Option (Ex×St)}
  (hG:G=some (.n,⟨[(5,.bs (nm2 f).1 1 1 P.length (ofN X).length),(7,.i .i64 m),(8,.i .i64 n)],[((nm2 f).1,⟨1,.own,1,u32s (P++(ofN X++S))⟩)],3⟩)) :
  isEx (evX (orc T) T 0 l228_0 (stGc f P (ofN X) S P2 (ofN X) S2 m n))=true∧finX 0 0 (Gh.norm false [5,7,8]) (evX (orc T) T 0 l228_0 (stGc f P (ofN X) S P2 (ofN X) S2 m n))=G:=by
 subst hG
 have hc:=zd2 (T:=T) (ofN X) (ofN X) (by omega) (by omega)
 rw[zae,show cmpN X X=0 by unfold cmpN;rw[if_neg (by omega),if_neg (by omega)]]at hc
 have t1:List.take (ofN X).length (List.drop P.length (P++(ofN X++S)))=ofN X:=by simp
 have t2:List.take (ofN X).length (List.drop P2.length (P2++(ofN X++S2)))=ofN X:=by simp
 have b1:P.length+(ofN X).length≤(P++(ofN X++S)).length:=by simp
 have b2:P2.length+(ofN X).length≤(P2++(ofN X++S2)).length:=by simp
 unfold stGc
 generalize P++(ofN X++S)=Q at *
 generalize P2++(ofN X++S2)=R at *
 generalize ofN X=A at *
 cases f<;>constructor<;>simp -implicitDefEqProofs[l228_0,nm2,nmX,nmY,hc,t1,t2,b1,b2]
structure Gc where
 f:Bool
 P:List UInt32
 S:List UInt32
 P2:List UInt32
 S2:List UInt32
 X:Nat
 Y:Nat
theorem zzq(G m n:Nat):∀y:Gc,((ofN y.X).length≤10000∧(ofN y.Y).length≤10000∧y.X%2=1∧y.Y%2=1∧Nat.gcd y.X y.Y=G) →
  ∃r,(∃(f:Bool) (P S:List UInt32),r=(Ex.n,(⟨[(5,.bs (nm2 f).1 1 1 P.length (ofN G).length),(7,.i .i64 m),(8,.i .i64 n)],[((nm2 f).1,⟨1,.own,1,u32s (P++(ofN G++S))⟩)],3⟩:St))) ∧
   loopN T 0 0 (.norm false [5,7,8]) l228_0 (stGc y.f y.P (ofN y.X) y.S y.P2 (ofN y.Y) y.S2 m n)=some r:=by
 refine zap (fun y:Gc=>stGc y.f y.P (ofN y.X) y.S y.P2 (ofN y.Y) y.S2 m n) _ (fun y=>y.X+y.Y) _ ?_
 rintro⟨f,P,S,P2,S2,X,Y⟩ ⟨hX,hY,oX,oY,hG⟩
 simp only at hX hY oX oY hG ⊢
 rcases Nat.lt_trichotomy X Y with h | h | h
 ·left
  obtain⟨P',S',k,x,e1,e2,he⟩:=zabo (T:=T) f P S P2 S2 X Y m n hX hY h
  have hle:x≤Y-X:=by rw[e1];exact Nat.le_mul_of_pos_left _ (Nat.pow_pos (by decide))
  refine⟨⟨!f,P',S',P,S,x,X⟩,⟨?_,hX,e2,oX,?_⟩,by simp only;omega,he⟩
  ·have:=zas (show x≤Y by omega)
   simp only;omega
  ·simp only
   rw[zoz oX (Nat.le_of_lt h) e1,←hG,Nat.gcd_comm]
 ·right
  subst h
  rw[Nat.gcd_self]at hG
  subst hG
  obtain⟨h1,h2⟩:=zabp (T:=T) f P S P2 S2 X m n hX rfl
  exact⟨_,⟨f,P,S,rfl⟩,h1,h2⟩
 ·left
  obtain⟨P',S',k,x,e1,e2,he⟩:=zabn (T:=T) f P S P2 S2 X Y m n hX hY h
  have hle:x≤X-Y:=by rw[e1];exact Nat.le_mul_of_pos_left _ (Nat.pow_pos (by decide))
  refine⟨⟨f,P',S',P2,S2,x,Y⟩,⟨?_,hY,e2,oY,?_⟩,by simp only;omega,he⟩
  ·have:=zas (show x≤X by omega)
   simp only;omega
  ·simp only
   rw[zoz oY (Nat.le_of_lt h) e1,←hG]
theorem ztl(a b:List UInt32)(ha:a.length≤10000)(hb:b.length≤10000):callF T 228 [.sl (u32s a) .an,.sl (u32s b) .an]=some (.sl (u32s (ofN (Nat.gcd (val a) (val b)))) .an):=by
 have n1:=zeq (T:=T) a (by omega)
 have n2:=zeq (T:=T) b (by omega)
 have la:=zac a
 have lb:=zac b
 rw[f228 _ rfl,b228]
 generalize val a=X at *
 generalize val b=Y at *
 have tX:List.take (ofN X).length (ofN X)=ofN X:=List.take_of_length_le (Nat.le_refl _)
 have tY:List.take (ofN Y).length (ofN Y)=ofN Y:=List.take_of_length_le (Nat.le_refl _)
 by_cases hX:X=0
 ·subst hX
  rw[Nat.gcd_zero_left]
  simp only[zdn]at n1
  generalize ofN Y=B at *
  simp -implicitDefEqProofs[n1,n2,tY]
 ·have eX:¬ ofN X=[]:=fun e=>hX (zau.1 e)
  by_cases hY:Y=0
  ·subst hY
   rw[Nat.gcd_zero_right]
   simp only[zdn]at n2
   generalize ofN X=A at *
   simp -implicitDefEqProofs[n1,n2,eX,tX]
  ·have eY:¬ ofN Y=[]:=fun e=>hY (zau.1 e)
   obtain⟨P1,S1,x,m,e1,e2,e3,e4,e5,o1⟩:=zfj (T:=T) [] (ofN X) [] (by omega) (by rw[zae];exact hX)
   obtain⟨P2,S2,y,n,g1,g2,g3,g4,g5,o2⟩:=zfj (T:=T) [] (ofN Y) [] (by omega) (by rw[zae];exact hY)
   rw[zae]at e1 g1
   obtain⟨_,⟨f,P,S,rfl⟩,hl⟩:=zzq (T:=T) (Nat.gcd x y) m n ⟨true,P1,S1,P2,S2,x,y⟩ ⟨by simp only;omega,by simp only;omega,e2,g2,rfl⟩
   have hG:Nat.gcd X Y=2^(min m n)*Nat.gcd x y:=by rw[e1,g1];exact z0b e2 g2
   have hgl:(ofN (Nat.gcd x y)).length≤10000:=by
    have:=zas (Nat.gcd_le_left y (show 0<x by omega))
    omega
   have hdb:=zlu (T:=T) (ofN (Nat.gcd x y)) (min m n) hgl (by omega)
   rw[zae,←hG]at hdb
   simp only[List.nil_append,List.append_nil,List.length_nil]at o1 o2
   unfold stGc at hl
   have t1:List.take (ofN (Nat.gcd x y)).length (List.drop P.length (P++(ofN (Nat.gcd x y)++S)))=ofN (Nat.gcd x y):=by simp
   have b1:P.length+(ofN (Nat.gcd x y)).length≤(P++(ofN (Nat.gcd x y)++S)).length:=by simp
   have hmin:(if n<m then (n:Int) else (m:Int))=((min m n:Nat):Int):=by split<;>omega
   clear e1 e2 e3 e4 e5 g1 g2 g3 g4 g5 hG hgl
   generalize min m n=K at *
   generalize P++(ofN (Nat.gcd x y)++S)=Q at *
   generalize P1++(ofN x++S1)=Q1 at *
   generalize P2++(ofN y++S2)=Q2 at *
   generalize ofN (Nat.gcd x y)=g at *
   generalize ofN (Nat.gcd X Y)=g' at *
   simp only[nm2,nmX,nmY,if_true]at hl
   generalize ofN X=A at *
   generalize ofN Y=B at *
   cases f<;>simp only[Bool.false_eq_true,if_false,if_true]at hl<;>simp -implicitDefEqProofs[n1,n2,eX,eY,o1,o2,hl,hdb,t1,b1,hmin,mm2]
end
section
variable{T:Tbl}[CRef08 T]
theorem zqa(n:Bool)(a:List UInt32)(ha:a.length≤1000000):callF T 39 [wh n a]=some (ez (wv n a)):=by
 have h:=zbh (T:=T) a ha
 have hl:(0<(ofN (val a)).length)=(val a≠0):=by
  rw[eq_iff_iff,List.length_pos_iff]
  exact not_congr zau
 rw[f39 _ rfl,b39]
 unfold wv
 rw[zug]
 cases n<;>simp -implicitDefEqProofs[h,hl]
theorem ztm(n m:Bool)(a b:List UInt32)(ha:a.length≤10000)(hb:b.length≤10000):callF T 24 [wh n a,wh m b]=some (ez (wv n a+wv m b)):=by
 have hc:=zd2 (T:=T) a b (by omega) (by omega)
 rw[f24 _ rfl,b24]
 have fin:∀(s:Bool) (k:Nat),sg s k=wv n a+wv m b→(ofN k).length≤1000000→callF T 39 [wh s (ofN k)]=some (ez (wv n a+wv m b)):=by
  intro s k h1 h2
  rw[zqa (T:=T) s (ofN k) h2]
  have:wv s (ofN k)=sg s k:=by unfold wv;rw[zae]
  rw[this,h1]
 have hla:=zac a
 have hlb:=zac b
 obtain⟨z,hz⟩:∃z,z=wv n a+wv m b:=⟨_,rfl⟩
 by_cases h:n=m
 ·subst h
  have h1:=zlq (T:=T) a b (by omega) (by omega)
  have h2:=fin n (val a+val b) (zh1 _ _ _) (by
   have:=zcq (x:=(val a:Int)) (y:=val b) (L:=10000) (by simpa using Nat.le_trans hla ha) (by simpa using Nat.le_trans hlb hb)
   have e:((val a:Int)+val b).natAbs=val a+val b:=by omega
   rw[e]at this
   omega)
  rw[←hz]at h2 ⊢
  simp -implicitDefEqProofs[h1,h2]
 ·by_cases hlt:val a<val b
  ·have h1:=zlr (T:=T) b a (by omega) (by omega) (by omega)
   have h2:=fin m (val b-val a) (zl6 h hlt) (by have:=zas (Nat.sub_le (val b) (val a));omega)
   rw[←hz]at h2 ⊢
   simp -implicitDefEqProofs[h,hc,zcn,hlt,h1,h2]
  ·have h1:=zlr (T:=T) a b (by omega) (by omega) (by omega)
   have h2:=fin n (val a-val b) (zl7 h hlt) (by have:=zas (Nat.sub_le (val a) (val b));omega)
   rw[←hz]at h2 ⊢
   simp -implicitDefEqProofs[h,hc,zcn,hlt,h1,h2]
end
theorem ztn(n:Bool)(x y:Nat):sg n (x*y)=sg n x*(y:Int):=by cases n<;>simp[sg,Int.neg_mul]
theorem zxf(q:Rat):val (fz q).2.2≠0:=by
 unfold fz
 rw[zae]
 exact q.den_nz
section
variable{T:Tbl}[CRef02 T][CRef04 T][CRef05 T][CRef07 T][CRef06 T][CRef08 T][CRef09 T]
theorem zcc(x:Fz)(hx:fsz x≤10000):callF T 231 [efz x]=some (efz (fz (fv x))):=by
 obtain⟨n,a,d⟩:=x
 have la:=zdo (n,a,d)
 have ld:=zds (n,a,d)
 simp only at la ld
 have n1:=zbh (T:=T) a (by omega)
 have n2:=zbh (T:=T) d (by omega)
 have la2:=zac a
 have ld2:=zac d
 have ho:=zlt (T:=T) d
 have hg:=ztl (T:=T) (ofN (val a)) (ofN (val d)) (by omega) (by omega)
 rw[zae,zae]at hg
 show _=some (efz (fz (mkRat (sg n (val a)) (val d))))
 by_cases hd:val d=0
 ·rw[hd,Rat.mkRat_zero,zul,f231 _ rfl,b231]
  rw[hd]at n2
  simp only[zdn]at n2
  simp -implicitDefEqProofs[n1,n2,show u32s [1]=[[u32 1]] from rfl]
 ·by_cases ha:val a=0
  ·have e0:mkRat (sg n (val a)) (val d)=0:=by rw[Rat.mkRat_eq_zero hd,ha];cases n<;>rfl
   have ed:¬ ofN (val d)=[]:=fun e=>hd (zau.1 e)
   rw[e0,zul,f231 _ rfl,b231]
   rw[ha]at n1
   simp only[zdn]at n1
   simp -implicitDefEqProofs[n1,n2,ed,show u32s [1]=[[u32 1]] from rfl]
  ·have ea:¬ ofN (val a)=[]:=fun e=>ha (zau.1 e)
   have ed:¬ ofN (val d)=[]:=fun e=>hd (zau.1 e)
   rw[z4t n (val a) hd,show decide (val a≠0)=true by simpa using ha,Bool.and_true]
   have gpos:Nat.gcd (val a) (val d)≠0:=by
    have:=Nat.gcd_pos_of_pos_right (val a) (Nat.pos_of_ne_zero hd)
    omega
   have glen:(ofN (Nat.gcd (val a) (val d))).length≤10000:=by
    have:=zas (Nat.gcd_le_right (val a) (Nat.pos_of_ne_zero hd))
    omega
   have o1:=zi2 (T:=T) (ofN (val a)) (ofN (Nat.gcd (val a) (val d))) (by omega) glen (by rw[zae];exact gpos)
   have o2:=zi2 (T:=T) (ofN (val d)) (ofN (Nat.gcd (val a) (val d))) (by omega) glen (by rw[zae];exact gpos)
   rw[zae,zae]at o1 o2
   rw[f231 _ rfl,b231]
   by_cases h1:val d=1
   ·rw[h1]at n2 ho ed ⊢
    rw[Nat.gcd_one_right,Nat.div_one,Nat.div_one]
    generalize ofN (val a)=A at *
    generalize ofN 1=O at *
    simp -implicitDefEqProofs[n1,n2,ho,ea,ed]
   ·generalize ofN (val a/Nat.gcd (val a) (val d))=A' at *
    generalize ofN (val d/Nat.gcd (val a) (val d))=D' at *
    generalize ofN (Nat.gcd (val a) (val d))=G at *
    generalize ofN (val a)=A at *
    generalize ofN (val d)=D at *
    simp -implicitDefEqProofs[n1,n2,ho,ea,ed,h1,hg,o1,o2]
theorem zop(n:Nat)(h:n<18446744073709551616):callF T 353 [u64 n]=some (.sl (u32s (ofN n)) .an):=by
 have e2:val [w32 n,w32 (n/4294967296)]=n:=by simp[zbu];omega
 have h2:=zbh (T:=T) [w32 n,w32 (n/4294967296)] (by simp)
 rw[e2]at h2
 have h3:n/4294967296%4294967296=n/4294967296:=Nat.mod_eq_of_lt (by omega)
 have h4:n/4294967296%18446744073709551616=n/4294967296:=Nat.mod_eq_of_lt (by omega)
 rw[f353 _ rfl,b353]
 simp -implicitDefEqProofs[h3,h4,zbd _ _ _ (show n/4294967296<4294967296 by omega),h2]
theorem zto(k:Int)(h1:-9223372036854775808≤k)(h2:k<9223372036854775808):callF T 232 [.i .i64 k]=some (efz (fz (k:Rat))):=by
 have hu:u32s [1]=[[u32 1]]:=rfl
 rw[f232 _ rfl,b232]
 by_cases hk:k<0
 ·have w1:IntKind.wrap .i64 (k+1)=k+1:=zad _ (by omega)
  have w2:IntKind.wrap .i64 (-(k+1))=-(k+1):=zad _ (by omega)
  have w3:(-(k+1)%18446744073709551616).toNat=k.natAbs-1:=by omega
  have c1:=zop (T:=T) (k.natAbs-1) (by omega)
  have c2:=zlq (T:=T) (ofN (k.natAbs-1)) [1] (by have:=zao (n:=k.natAbs-1) (k:=2) (by show _<18446744073709551616;omega);omega) (by decide)
  have e1:val (ofN (k.natAbs-1))+val [1]=k.natAbs:=by rw[zae];show _+(1+4294967296*0)=_;omega
  rw[e1,hu]at c2
  have c3:=zcc (T:=T) (true,ofN k.natAbs,[1]) (by
   have:=zao (n:=k.natAbs) (k:=2) (by show _<18446744073709551616;omega)
   unfold fsz;simp only[List.length_singleton];omega)
  have e2:fv (true,ofN k.natAbs,[1])=(k:Rat):=by
   unfold fv wv
   simp only[zae]
   rw[show val [1]=1 from rfl,show sg true k.natAbs=k by unfold sg;rw[if_pos rfl];omega]
   rw[←Rat.divInt_ofNat]
   exact Rat.num_divInt_den (k:Rat)
  rw[e2]at c3
  change callF T 231 [.agg [.b true,.sl (u32s (ofN k.natAbs)) .an,.sl (u32s [1]) .an]]=_ at c3
  rw[hu]at c3
  generalize fz (k:Rat)=z at *
  simp -implicitDefEqProofs[hk,w1,w2,w3,c1,c2,c3]
 ·have w3:(k%18446744073709551616).toNat=k.natAbs:=by omega
  have c1:=zop (T:=T) k.natAbs (by omega)
  have c3:=zcc (T:=T) (false,ofN k.natAbs,[1]) (by
   have:=zao (n:=k.natAbs) (k:=2) (by show _<18446744073709551616;omega)
   unfold fsz;simp only[List.length_singleton];omega)
  have e2:fv (false,ofN k.natAbs,[1])=(k:Rat):=by
   unfold fv wv
   simp only[zae]
   rw[show val [1]=1 from rfl,show sg false k.natAbs=k by unfold sg;simp;omega]
   rw[←Rat.divInt_ofNat]
   exact Rat.num_divInt_den (k:Rat)
  rw[e2]at c3
  change callF T 231 [.agg [.b false,.sl (u32s (ofN k.natAbs)) .an,.sl (u32s [1]) .an]]=_ at c3
  rw[hu]at c3
  generalize fz (k:Rat)=z at *
  simp -implicitDefEqProofs[hk,w3,c1,c3]
theorem zi3:callF T 232 [.i .i64 0]=some (efz (fz 0)):=zto 0 (by decide) (by decide)
theorem zi4(x y:Fz)(hx:fsz x≤10000):callF T 233 [efz x,efz y]=some (.b (decide (x=y))):=by
 obtain⟨n,a,d⟩:=x
 obtain⟨m,b,e⟩:=y
 have la:=zdo (n,a,d)
 have ld:=zds (n,a,d)
 simp only at la ld
 have c1:=zi1 (T:=T) a b (by omega)
 have c2:=zi1 (T:=T) d e (by omega)
 rw[f233 _ rfl,b233]
 by_cases h1:n=m
 ·subst h1
  by_cases h2:a=b
  ·subst h2
   by_cases h3:d=e
   ·subst h3
    simp -implicitDefEqProofs[c1,c2]
   ·simp -implicitDefEqProofs[c1,c2,h3]
  ·simp -implicitDefEqProofs[c1,h2]
 ·simp -implicitDefEqProofs[c1,c2,h1]
theorem zei(x:Fz)(k:Nat):callF T 247 [efz x,.i .i64 k]=some (.b (decide (k<fsz x))):=by
 obtain⟨n,a,d⟩:=x
 unfold fsz
 rw[f247 _ rfl,b247]
 by_cases h1:k<a.length
 ·have h3:k<max a.length d.length:=by omega
  simp -implicitDefEqProofs[h1,h3]
 ·by_cases h2:k<d.length
  ·have h3:k<max a.length d.length:=by omega
   simp -implicitDefEqProofs[h1,h2,h3]
  ·have h3:¬ k<max a.length d.length:=by omega
   simp -implicitDefEqProofs[h1,h2,h3]
theorem ztp(x y:Fz)(hx:fsz x≤1000)(hy:fsz y≤1000)(h1:val x.2.2≠0)(h2:val y.2.2≠0):callF T 239 [efz x,efz y]=some (efz (fz (fv x+fv y))):=by
 obtain⟨n,a,d⟩:=x
 obtain⟨m,b,e⟩:=y
 have la:=zdo (n,a,d)
 have ld:=zds (n,a,d)
 have lb:=zdo (m,b,e)
 have le:=zds (m,b,e)
 simp only at la ld lb le h1 h2
 have c1:=zfi (T:=T) a e (by omega) (by omega)
 have c2:=zfi (T:=T) b d (by omega) (by omega)
 have c4:=zfi (T:=T) d e (by omega) (by omega)
 have l1:(ofN (val a*val e)).length≤2000:=by
  have:=za9 (x:=val a) (y:=val e) (L:=1000) (M:=1000) (Nat.le_trans (zac a) (by omega)) (Nat.le_trans (zac e) (by omega))
  omega
 have l2:(ofN (val b*val d)).length≤2000:=by
  have:=za9 (x:=val b) (y:=val d) (L:=1000) (M:=1000) (Nat.le_trans (zac b) (by omega)) (Nat.le_trans (zac d) (by omega))
  omega
 have l4:(ofN (val d*val e)).length≤2000:=by
  have:=za9 (x:=val d) (y:=val e) (L:=1000) (M:=1000) (Nat.le_trans (zac d) (by omega)) (Nat.le_trans (zac e) (by omega))
  omega
 have c3:=ztm (T:=T) n m (ofN (val a*val e)) (ofN (val b*val d)) (by omega) (by omega)
 have e3:wv n (ofN (val a*val e))+wv m (ofN (val b*val d))=sg n (val a)*(val e:Int)+sg m (val b)*(val d:Int):=by
  unfold wv
  rw[zae,zae,ztn,ztn]
 have l3:(ofN (sg n (val a)*(val e:Int)+sg m (val b)*(val d:Int)).natAbs).length≤3000:=by
  rw[←e3]
  have:=zcq (x:=wv n (ofN (val a*val e))) (y:=wv m (ofN (val b*val d))) (L:=2000) (Nat.le_trans (zb4 _ _) l1) (Nat.le_trans (zb4 _ _) l2)
  omega
 rw[e3]at c3
 obtain⟨z,hz⟩:∃z,z=sg n (val a)*(val e:Int)+sg m (val b)*(val d:Int):=⟨_,rfl⟩
 rw[←hz]at c3 l3
 have c5:=zcc (T:=T) (decide (z<0),ofN z.natAbs,ofN (val d*val e)) (by unfold fsz;simp only;omega)
 have e1:fv (decide (z<0),ofN z.natAbs,ofN (val d*val e))=fv (n,a,d)+fv (m,b,e):=by
  unfold fv
  simp only[zae,zgf]
  rw[hz]
  exact(Rat.mkRat_add_mkRat _ _ h1 h2).symm
 rw[e1]at c5
 rw[f239 _ rfl,b239]
 clear e1 e3 hz l1 l2 l3 l4 h1 h2
 generalize fz (fv (n,a,d)+fv (m,b,e))=R at *
 generalize ofN (val a*val e)=A at *
 generalize ofN (val b*val d)=B at *
 generalize ofN (val d*val e)=D at *
 simp -implicitDefEqProofs[c1,c2,c3,c4,c5,zmz]
theorem zi5(p q:Rat)(hp:sz p≤1000)(hq:sz q≤1000):callF T 239 [efz (fz p),efz (fz q)]=some (efz (fz (p+q))):=by
 have:=ztp (T:=T) (fz p) (fz q) hp hq (zxf p) (zxf q)
 rwa [zd5,zd5]at this
end
end Go.Ab