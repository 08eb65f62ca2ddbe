/-
  A calculus of values, boxes and code, and what functions of the program compute, proved in it.
  Conditions: none beyond those that the theorems state. (Part 6.)
-/
import Derived.Test.YtfgfjicelfagcaaGreatDoorPart5
import Derived.Test.YtfgfjicelfagcaaGreatDoorProg
import Derived.KernelRfl
import Derived.Shelf.RegionOpenPlain
import Derived.Lib.Strings
import Derived.Lib.Slices
import Derived.Lib.Walk
import Derived.Lib.Builder
import Derived.Lib.AppendStr
import Derived.Lib.UnsafeStr
import Derived.Lib.MakeNoZero
import Derived.WalkKit
import Derived.Laws.Externs
import Derived.Laws.IdiomCopy
import Derived.Laws.BitsLemmas
import GoSem.Claims
import Derived.Deep.LoopGhost
import Derived.ProofKit
import Derived.OpenShut
import Derived.Shelf.Strings.Builder1
import Derived.Shelf.Strings.Builder2
import Derived.Shelf.Strings.OnBuilder
import Derived.Deep.DeepCutAuto
import Derived.Deep.DeepFit
import Derived.Deep.CutBlock
import Derived.Lib.OthersKept
import Derived.Test.YtfgfjicelfagcaaGreatDoorRows
import Derived.Test.YtfgfjicelfagcaaGreatDoorCards
import Derived.Test.YtfgfjicelfagcaaGreatDoorTie
import Derived.LaidMore
import Derived.Stop.Joined
import Derived.SevenTiedAt
import Derived.Lib.LaidU8
import Derived.Lib.IndexAny
import Derived.Lib.Bytealg

set_option linter.unusedSectionVars false
set_option linter.unusedVariables false
set_option linter.unusedSimpArgs false
set_option linter.unnecessarySimpa false

section
namespace Go.Proofs.YtfgfjicelfagcaaGreatDoor
open Go Go.Ab
set_option maxRecDepth 100000
def nus:List (Nat×Nat):=[(10,19),(13,21),(23,109),(25,87),(27,88),(36,66),(37,86),(38,139),(40,110),(41,137),(43,55),(44,92),(46,38),(50,22),(52,74),(54,54),(55,111),(56,128),(57,129),(60,112),(61,101),(62,149),(63,77),(68,93),(69,61),(70,84),(71,104),(72,85),(73,154),(74,59),(75,60),(76,48),(79,40),(80,39),(84,100),(85,140),(86,108),(87,107),(88,141),(89,130),(90,117),(91,156),(93,158),(94,159),(95,102),(96,103),(97,75),(101,118),(103,120),(105,80),(106,127),(107,78),(108,79),(113,52),(115,150),(116,151),(117,142),(118,131),(119,164),(120,165),(121,166),(122,126),(125,133),(126,134),(127,135),(128,136),(129,105),(172,68),(177,89),(178,90),(179,91),(185,113),(186,114),(187,115),(188,116),(198,155),(199,147),(200,148),(201,138),(202,123),(203,65),(204,94),(205,122),(210,67),(211,42),(212,25),(224,98),(225,99),(226,73),(227,76),(228,57),(229,56),(230,58),(231,36),(233,35),(249,37),(437,32),(477,26),(483,51),(485,43),(486,44),(487,45),(488,46),(491,24),(492,69),(493,33),(644,9),(645,13),(646,20),(647,27),(648,28),(649,47),(650,70),(651,71),(652,14),(653,34),(654,53),(656,4),(658,7),(677,11),(678,16),(679,17),(2043,55),(2071,104),(2092,157),(2097,75),(2106,127)]
def nu(u:Nat):FuncId:=(nus.lookup u).getD 0
def row115:AFx:=⟨3,26,[.t 6,.t 7],b115,none,false⟩
def row116:AFx:=⟨3,25,[.t 6,.t 7],b116,none,false⟩
def row117:AFx:=⟨4,27,[.t 8,.t 9],b117,none,false⟩
def row118:AFx:=⟨3,29,[.t 6,.t 7,.t 8],b118,none,false⟩
def row91:AFx:=⟨1,23,[.t 2],b91,none,false⟩
def row86:AFx:=⟨1,21,[.t 2],b86,none,false⟩
def row106:AFx:=⟨2,15,[.t 4],b106,none,false⟩
def row71:AFx:=⟨1,6,[.t 2],b71,none,false⟩
def row72:AFx:=⟨1,10,[.t 2],b72,none,false⟩
def row73:AFx:=⟨1,28,[.t 2,.t 3],b73,none,false⟩
def row70:AFx:=⟨1,7,[.t 2],b70,none,false⟩
def row87:AFx:=⟨2,49,[.t 4],b87,none,false⟩
def row85:AFx:=⟨2,52,[.t 4],b85,none,false⟩
def row56:AFx:=⟨1,18,[.t 2],b56,none,false⟩
def row88:AFx:=⟨2,49,[.t 4,.t 5],b88,none,false⟩
def row57:AFx:=⟨2,24,[.t 4,.t 5],b57,none,false⟩
def row2106:AFx:=⟨2,15,[.t 4],b2106,(some [false,false]),false⟩
def row89:AFx:=⟨5,45,[],b89,(some [true,false,false,false,false]),false⟩
def row60:AFx:=⟨2,30,[.t 4],b60,none,false⟩
def row92:AFx:=⟨2,57,[.t 4],b92,none,false⟩
def row94:AFx:=⟨2,65,[.t 4],b94,none,false⟩
def row90:AFx:=⟨2,37,[.t 4,.t 5,.t 6],b90,none,false⟩
def row119:AFx:=⟨5,76,[.t 10],b119,none,false⟩
def row120:AFx:=⟨4,66,[.t 8],b120,(some [true,false,false,false]),false⟩
def row121:AFx:=⟨3,44,[],b121,(some [true,false,false]),false⟩
def row93:AFx:=⟨2,70,[.t 4],b93,(some [true,false]),false⟩
def row2071:AFx:=⟨1,6,[.t 2],b2071,(some [false]),false⟩
def row2092:AFx:=⟨2,57,[.t 4],b2092,(some [false,false]),false⟩
def row62:AFx:=⟨2,65,[.t 4,.t 5,.t 6],b62,none,false⟩
def row101:AFx:=⟨1,19,[.t 2],b101,none,false⟩
def row68:AFx:=⟨0,0,[],.prim prim68,none,false⟩
def row103:AFx:=⟨2,37,[.t 4],b103,none,false⟩
def row125:AFx:=⟨2,17,[.t 4],b125,none,false⟩
def row43:AFx:=⟨1,23,[.t 2],b43,none,false⟩
def row84:AFx:=⟨2,13,[.t 4],b84,none,false⟩
def row52:AFx:=⟨2,30,[.t 4],b52,none,false⟩
def row54:AFx:=⟨2,26,[.t 4],b54,none,false⟩
def row61:AFx:=⟨2,68,[.t 4],b61,none,false⟩
def row122:AFx:=⟨2,32,[.t 4],b122,none,false⟩
def row95:AFx:=⟨1,19,[.t 2],b95,none,false⟩
def row96:AFx:=⟨2,30,[],b96,(some [true,false]),false⟩
def row97:AFx:=⟨2,37,[],b97,(some [true,false]),false⟩
def row63:AFx:=⟨2,54,[.t 4,.t 5],b63,none,false⟩
def row2043:AFx:=⟨1,23,[.t 2],b2043,(some [false]),false⟩
def row105:AFx:=⟨1,29,[.t 2],b105,(some [true]),false⟩
def row69:AFx:=⟨1,26,[.t 2],b69,none,false⟩
def row129:AFx:=⟨1,6,[.t 2],b129,none,false⟩
def row76:AFx:=⟨1,18,[.t 2],b76,none,false⟩
def row74:AFx:=⟨1,34,[.t 2],b74,none,false⟩
def row44:AFx:=⟨1,6,[.t 2],b44,none,false⟩
def row108:AFx:=⟨2,12,[.t 4],b108,none,false⟩
def row107:AFx:=⟨1,14,[.t 2],b107,none,false⟩
def row75:AFx:=⟨4,67,[.t 8],b75,none,false⟩
def row46:AFx:=⟨4,35,[.t 8],b46,none,false⟩
def row483:AFx:=⟨1,25,[.t 2],b483,none,false⟩
def row493:AFx:=⟨1,36,[.t 2],b493,none,false⟩
def row491:AFx:=⟨1,19,[.t 2],b491,none,false⟩
def row492:AFx:=⟨1,44,[.t 2],b492,none,false⟩
def row113:AFx:=⟨1,21,[.t 2],b113,none,false⟩
def row80:AFx:=⟨1,34,[.t 2],b80,none,false⟩
def row10:AFx:=⟨3,31,[.t 6],b10,none,false⟩
def row79:AFx:=⟨4,94,[.t 8],b79,none,false⟩
def row50:AFx:=⟨4,35,[.t 8],b50,none,false⟩
def row13:AFx:=⟨1,31,[.t 2],b13,none,false⟩
def row485:AFx:=⟨3,39,[.t 6],b485,none,false⟩
def row486:AFx:=⟨1,12,[.t 2],b486,none,false⟩
def row487:AFx:=⟨2,22,[.t 4],b487,none,false⟩
def row488:AFx:=⟨5,32,[.cell 10 (some 4)],b488,none,false⟩
def row477:AFx:=⟨3,80,[.cell 6 (some 4)],b477,none,false⟩
def row185:AFx:=⟨1,9,[.t 2],b185,none,false⟩
def row186:AFx:=⟨1,21,[.t 2],b186,none,false⟩
def row187:AFx:=⟨0,0,[],.prim prim187,none,false⟩
def row177:AFx:=⟨1,12,[.t 2],b177,none,false⟩
def row188:AFx:=⟨2,23,[.t 4],b188,none,false⟩
def row179:AFx:=⟨1,8,[.t 2],b179,none,false⟩
def row178:AFx:=⟨2,20,[.t 4],b178,none,false⟩
def row172:AFx:=⟨1,38,[.t 2],b172,none,false⟩
def row55:AFx:=⟨2,13,[.cell 4 (some 2)],b55,none,false⟩
def row38:AFx:=⟨1,9,[.cell 2 (some 2)],b38,none,false⟩
def row40:AFx:=⟨1,10,[.cell 2 (some 2)],b40,none,false⟩
def row23:AFx:=⟨2,39,[.cell 4 (some 2)],b23,none,false⟩
def row25:AFx:=⟨2,9,[.cell 4 (some 2)],b25,none,false⟩
def row27:AFx:=⟨2,16,[.cell 4 (some 2)],b27,none,false⟩
def row37:AFx:=⟨1,10,[.t 2],b37,none,false⟩
def row41:AFx:=⟨1,14,[.cell 2 (some 2)],b41,none,false⟩
def row36:AFx:=⟨2,9,[.t 4],b36,none,false⟩
def row198:AFx:=⟨2,12,[.t 4],b198,none,false⟩
def row199:AFx:=⟨2,56,[.t 4],b199,none,false⟩
def row200:AFx:=⟨1,12,[.t 2],b200,none,false⟩
def row201:AFx:=⟨2,37,[.t 4,.t 5],b201,none,false⟩
def row202:AFx:=⟨2,21,[.cell 4 (some 3)],b202,none,false⟩
def row203:AFx:=⟨1,13,[.cell 2 (some 2),.t 3],b203,none,false⟩
def row205:AFx:=⟨1,7,[.cell 2 (some 3)],b205,none,false⟩
def row210:AFx:=⟨2,9,[.cell 4 (some 2)],b210,none,false⟩
def row211:AFx:=⟨2,26,[.t 4],b211,none,false⟩
def row212:AFx:=⟨2,9,[.t 4],b212,none,false⟩
def row204:AFx:=⟨2,12,[.cell 4 (some 3),.t 5],b204,none,false⟩
def row224:AFx:=⟨1,14,[.t 2],b224,none,false⟩
def row225:AFx:=⟨2,56,[.t 4],b225,(some [true,false]),false⟩
def row226:AFx:=⟨1,24,[.t 2,.t 3],b226,(some [true]),false⟩
def row227:AFx:=⟨2,17,[.t 4],b227,none,false⟩
def row228:AFx:=⟨2,56,[.t 4],b228,none,false⟩
def row229:AFx:=⟨1,12,[.t 2],b229,none,false⟩
def row230:AFx:=⟨2,18,[.t 4],b230,none,false⟩
def row2097:AFx:=⟨2,37,[],b2097,(some [true,true]),false⟩
def row231:AFx:=⟨1,40,[.cell 2 (some 3)],b231,none,false⟩
def row233:AFx:=⟨2,24,[.t 4],b233,none,false⟩
def row249:AFx:=⟨1,12,[.cell 2 (some 3)],b249,none,false⟩
def row437:AFx:=⟨1,10,[.cell 2 (some 3)],b437,none,false⟩
def row644:AFx:=⟨2,79,[.cell 4 (some 4),.t 5,.cell 6 (some 4)],b644,none,false⟩
def row645:AFx:=⟨2,48,[.t 4],b645,none,false⟩
def row646:AFx:=⟨3,65,[.cell 6 (some 4),.cell 7 (some 4)],b646,none,false⟩
def row647:AFx:=⟨0,4,[.t 0],b647,(some []),true⟩
def row648:AFx:=⟨2,44,[.t 4],b648,(some [true,false]),false⟩
def row649:AFx:=⟨3,63,[.t 6],b649,(some [true,false,true]),false⟩
def row650:AFx:=⟨2,61,[.t 4],b650,(some [true,false]),false⟩
def row651:AFx:=⟨1,27,[.cell 2 (some 6)],b651,none,false⟩
def row656:AFx:=⟨3,94,[.t 6],b656,none,false⟩
def row658:AFx:=⟨0,54,[.t 0],b658,none,false⟩
def row652:AFx:=⟨2,60,[.cell 4 (some 4),.t 5],b652,none,false⟩
def row653:AFx:=⟨3,127,[.t 6],b653,(some [true,false,true]),false⟩
def row654:AFx:=⟨2,71,[.t 4],b654,(some [true,false]),false⟩
def row677:AFx:=⟨2,85,[.t 4],b677,none,false⟩
def row678:AFx:=⟨2,103,[.t 4],b678,none,false⟩
def row679:AFx:=⟨1,43,[.cell 2 (some 4)],b679,none,false⟩
def RowOk(P:Program)(ν:Nat→FuncId)(τ:Nat→Nat)(u:Nat)(af:AFx):Prop:=
 match af.body.isPrim with
 | some f=>∀xs r,f xs=some r→PCall P (ν u) xs (·=r)
 | none=>if af.body.isBad=true then (∀m∈methsA af,methOf P af.np m.1=some (ν m.2))∧(af.res.isEmpty=true→af.np=ν af.nt) else resFn P (ν u)=some (erF ν τ af)
theorem ok_pr{P:Program}{ν:Nat→FuncId}{τ:Nat→Nat}{u:Nat}{af:AFx}{f:List AV→Option AV}(h0:af.body.isPrim=some f)(h:∀xs r,f xs=some r→PCall P (ν u) xs (·=r)):RowOk P ν τ u af:=by unfold RowOk;rw[h0];exact h
theorem ok_fn{P:Program}{ν:Nat→FuncId}{τ:Nat→Nat}{u:Nat}{af:AFx}(h0:af.body.isPrim=none)(h1:af.body.isBad=false)(h:resFn P (ν u)=some (erF ν τ af)):RowOk P ν τ u af:=by unfold RowOk;rw[h0];simp only[h1];exact h
theorem ok_cons{P:Program}{ν:Nat→FuncId}{τ:Nat→Nat}{u:Nat}{af:AFx}{l:List (Nat×AFx)}(h:RowOk P ν τ u af)(hl:∀p∈l,RowOk P ν τ p.1 p.2) :
  ∀p∈(u,af)::l,RowOk P ν τ p.1 p.2:=by
 intro p hp
 rcases List.mem_cons.1 hp with rfl | hp
 ·exact h
 ·exact hl p hp
theorem ok_lookup{P:Program}{ν:Nat→FuncId}{l:List (Nat×AFx)}(hl:∀p∈l,RowOk P ν (tyNum fun u=>l.lookup u) p.1 p.2):TOk P ν (fun u=>l.lookup u):=fun _ _ h=>hl _ (zc8 h)
theorem sub_cons{l l2:List (Nat×AFx)}{u:Nat}{af:AFx}(h:l.lookup u=some af)(h2:∀p∈l2,l.lookup p.1=some p.2):∀p∈(u,af)::l2,l.lookup p.1=some p.2:=by
 intro p hp
 rcases List.mem_cons.1 hp with rfl | hp
 ·exact h
 ·exact h2 p hp
def gTab:List (Nat×AFx):=[(115,row115),(116,row116),(117,row117),(118,row118),(91,row91),(86,row86),(106,row106),(71,row71),(72,row72),(73,row73),(70,row70),(87,row87),(85,row85),(56,row56),(88,row88),(57,row57),(2106,row2106),(89,row89),(60,row60),(92,row92),(94,row94),(90,row90),(119,row119),(120,row120),(121,row121),(93,row93),(2071,row2071),(2092,row2092),(62,row62),(101,row101),(68,row68),(103,row103),(125,row125),(43,row43),(84,row84),(52,row52),(54,row54),(61,row61),(122,row122),(95,row95),(96,row96),(97,row97),(63,row63),(2043,row2043),(105,row105),(69,row69),(129,row129),(76,row76),(74,row74),(44,row44),(108,row108),(107,row107),(75,row75),(46,row46),(483,row483),(493,row493),(491,row491),(492,row492),(113,row113),(80,row80),(10,row10),(79,row79),(50,row50),(13,row13),(485,row485),(486,row486),(487,row487),(488,row488),(477,row477),(185,row185),(186,row186),(187,row187),(177,row177),(188,row188),(179,row179),(178,row178),(172,row172),(55,row55),(38,row38),(40,row40),(23,row23),(25,row25),(27,row27),(37,row37),(41,row41),(36,row36),(198,row198),(199,row199),(200,row200),(201,row201),(202,row202),(203,row203),(205,row205),(210,row210),(211,row211),(212,row212),(204,row204),(224,row224),(225,row225),(226,row226),(227,row227),(228,row228),(229,row229),(230,row230),(2097,row2097),(231,row231),(233,row233),(249,row249),(437,row437),(644,row644),(645,row645),(646,row646),(647,row647),(648,row648),(649,row649),(650,row650),(651,row651),(656,row656),(658,row658),(652,row652),(653,row653),(654,row654),(677,row677),(678,row678),(679,row679)]
def lTab:List (Nat×AFx):=[(115,row115),(116,row116),(117,row117),(118,row118),(91,row91),(86,row86),(106,row106),(71,row71),(72,row72),(73,row73),(70,row70),(87,row87),(85,row85),(56,row56),(88,row88),(57,row57),(2106,row2106),(89,row89),(60,row60),(94,row94),(90,row90),(119,row119),(120,row120),(121,row121),(93,row93),(2071,row2071),(2092,row2092),(62,row62),(68,row68),(43,row43),(84,row84),(52,row52),(54,row54),(61,row61),(122,row122),(95,row95),(96,row96),(97,row97),(63,row63),(2043,row2043),(105,row105),(69,row69),(129,row129),(76,row76),(74,row74),(44,row44),(108,row108),(107,row107),(75,row75),(46,row46),(483,row483),(493,row493),(491,row491),(492,row492),(113,row113),(80,row80),(10,row10),(79,row79),(50,row50),(13,row13),(485,row485),(486,row486),(487,row487),(488,row488),(477,row477),(185,row185),(186,row186),(187,row187),(177,row177),(188,row188),(179,row179),(178,row178),(172,row172),(55,row55),(38,row38),(40,row40),(23,row23),(25,row25),(27,row27),(37,row37),(41,row41),(36,row36),(198,row198),(199,row199),(200,row200),(201,row201),(202,row202),(203,row203),(205,row205),(210,row210),(211,row211),(212,row212),(204,row204),(224,row224),(225,row225),(226,row226),(227,row227),(228,row228),(229,row229),(230,row230),(2097,row2097),(231,row231),(233,row233),(249,row249),(437,row437),(644,row644),(645,row645),(646,row646),(647,row647),(648,row648),(649,row649),(650,row650),(651,row651),(656,row656),(658,row658),(652,row652),(653,row653),(654,row654),(677,row677),(678,row678),(679,row679)]
def tab:Tbl:=fun u=>gTab.lookup u
def tau_l:Nat→Nat:=tyNum fun u=>lTab.lookup u
theorem resl_115:resFn Tryz.prog (nu 115)=some (erF nu tau_l row115):=by kernel_rfl
theorem resl_116:resFn Tryz.prog (nu 116)=some (erF nu tau_l row116):=by kernel_rfl
theorem resl_117:resFn Tryz.prog (nu 117)=some (erF nu tau_l row117):=by kernel_rfl
theorem resl_118:resFn Tryz.prog (nu 118)=some (erF nu tau_l row118):=by kernel_rfl
theorem resl_91:resFn Tryz.prog (nu 91)=some (erF nu tau_l row91):=by kernel_rfl
theorem resl_86:resFn Tryz.prog (nu 86)=some (erF nu tau_l row86):=by kernel_rfl
theorem resl_106:resFn Tryz.prog (nu 106)=some (erF nu tau_l row106):=by kernel_rfl
theorem resl_71:resFn Tryz.prog (nu 71)=some (erF nu tau_l row71):=by kernel_rfl
theorem resl_72:resFn Tryz.prog (nu 72)=some (erF nu tau_l row72):=by kernel_rfl
theorem resl_73:resFn Tryz.prog (nu 73)=some (erF nu tau_l row73):=by kernel_rfl
theorem resl_70:resFn Tryz.prog (nu 70)=some (erF nu tau_l row70):=by kernel_rfl
theorem resl_87:resFn Tryz.prog (nu 87)=some (erF nu tau_l row87):=by kernel_rfl
theorem resl_85:resFn Tryz.prog (nu 85)=some (erF nu tau_l row85):=by kernel_rfl
theorem resl_56:resFn Tryz.prog (nu 56)=some (erF nu tau_l row56):=by kernel_rfl
theorem resl_88:resFn Tryz.prog (nu 88)=some (erF nu tau_l row88):=by kernel_rfl
theorem resl_57:resFn Tryz.prog (nu 57)=some (erF nu tau_l row57):=by kernel_rfl
theorem resl_2106:resFn Tryz.prog (nu 2106)=some (erF nu tau_l row2106):=by kernel_rfl
theorem resl_89:resFn Tryz.prog (nu 89)=some (erF nu tau_l row89):=by kernel_rfl
theorem resl_60:resFn Tryz.prog (nu 60)=some (erF nu tau_l row60):=by kernel_rfl
theorem resl_94:resFn Tryz.prog (nu 94)=some (erF nu tau_l row94):=by kernel_rfl
theorem resl_90:resFn Tryz.prog (nu 90)=some (erF nu tau_l row90):=by kernel_rfl
theorem resl_119:resFn Tryz.prog (nu 119)=some (erF nu tau_l row119):=by kernel_rfl
theorem resl_120:resFn Tryz.prog (nu 120)=some (erF nu tau_l row120):=by kernel_rfl
theorem resl_121:resFn Tryz.prog (nu 121)=some (erF nu tau_l row121):=by kernel_rfl
theorem resl_93:resFn Tryz.prog (nu 93)=some (erF nu tau_l row93):=by kernel_rfl
theorem resl_2071:resFn Tryz.prog (nu 2071)=some (erF nu tau_l row2071):=by kernel_rfl
theorem resl_2092:resFn Tryz.prog (nu 2092)=some (erF nu tau_l row2092):=by kernel_rfl
theorem resl_62:resFn Tryz.prog (nu 62)=some (erF nu tau_l row62):=by kernel_rfl
theorem resl_43:resFn Tryz.prog (nu 43)=some (erF nu tau_l row43):=by kernel_rfl
theorem resl_84:resFn Tryz.prog (nu 84)=some (erF nu tau_l row84):=by kernel_rfl
theorem resl_52:resFn Tryz.prog (nu 52)=some (erF nu tau_l row52):=by kernel_rfl
theorem resl_54:resFn Tryz.prog (nu 54)=some (erF nu tau_l row54):=by kernel_rfl
theorem resl_61:resFn Tryz.prog (nu 61)=some (erF nu tau_l row61):=by kernel_rfl
theorem resl_122:resFn Tryz.prog (nu 122)=some (erF nu tau_l row122):=by kernel_rfl
theorem resl_95:resFn Tryz.prog (nu 95)=some (erF nu tau_l row95):=by kernel_rfl
theorem resl_96:resFn Tryz.prog (nu 96)=some (erF nu tau_l row96):=by kernel_rfl
theorem resl_97:resFn Tryz.prog (nu 97)=some (erF nu tau_l row97):=by kernel_rfl
theorem resl_63:resFn Tryz.prog (nu 63)=some (erF nu tau_l row63):=by kernel_rfl
theorem resl_2043:resFn Tryz.prog (nu 2043)=some (erF nu tau_l row2043):=by kernel_rfl
theorem resl_105:resFn Tryz.prog (nu 105)=some (erF nu tau_l row105):=by kernel_rfl
theorem resl_69:resFn Tryz.prog (nu 69)=some (erF nu tau_l row69):=by kernel_rfl
theorem resl_129:resFn Tryz.prog (nu 129)=some (erF nu tau_l row129):=by kernel_rfl
theorem resl_76:resFn Tryz.prog (nu 76)=some (erF nu tau_l row76):=by kernel_rfl
theorem resl_74:resFn Tryz.prog (nu 74)=some (erF nu tau_l row74):=by kernel_rfl
theorem resl_44:resFn Tryz.prog (nu 44)=some (erF nu tau_l row44):=by kernel_rfl
theorem resl_108:resFn Tryz.prog (nu 108)=some (erF nu tau_l row108):=by kernel_rfl
theorem resl_107:resFn Tryz.prog (nu 107)=some (erF nu tau_l row107):=by kernel_rfl
theorem resl_75:resFn Tryz.prog (nu 75)=some (erF nu tau_l row75):=by kernel_rfl
theorem resl_46:resFn Tryz.prog (nu 46)=some (erF nu tau_l row46):=by kernel_rfl
theorem resl_483:resFn Tryz.prog (nu 483)=some (erF nu tau_l row483):=by kernel_rfl
theorem resl_493:resFn Tryz.prog (nu 493)=some (erF nu tau_l row493):=by kernel_rfl
theorem resl_491:resFn Tryz.prog (nu 491)=some (erF nu tau_l row491):=by kernel_rfl
theorem resl_492:resFn Tryz.prog (nu 492)=some (erF nu tau_l row492):=by kernel_rfl
theorem resl_113:resFn Tryz.prog (nu 113)=some (erF nu tau_l row113):=by kernel_rfl
theorem resl_80:resFn Tryz.prog (nu 80)=some (erF nu tau_l row80):=by kernel_rfl
theorem resl_10:resFn Tryz.prog (nu 10)=some (erF nu tau_l row10):=by kernel_rfl
theorem resl_79:resFn Tryz.prog (nu 79)=some (erF nu tau_l row79):=by kernel_rfl
theorem resl_50:resFn Tryz.prog (nu 50)=some (erF nu tau_l row50):=by kernel_rfl
theorem resl_13:resFn Tryz.prog (nu 13)=some (erF nu tau_l row13):=by kernel_rfl
theorem resl_485:resFn Tryz.prog (nu 485)=some (erF nu tau_l row485):=by kernel_rfl
theorem resl_486:resFn Tryz.prog (nu 486)=some (erF nu tau_l row486):=by kernel_rfl
theorem resl_487:resFn Tryz.prog (nu 487)=some (erF nu tau_l row487):=by kernel_rfl
theorem resl_488:resFn Tryz.prog (nu 488)=some (erF nu tau_l row488):=by kernel_rfl
theorem resl_477:resFn Tryz.prog (nu 477)=some (erF nu tau_l row477):=by kernel_rfl
theorem resl_185:resFn Tryz.prog (nu 185)=some (erF nu tau_l row185):=by kernel_rfl
theorem resl_186:resFn Tryz.prog (nu 186)=some (erF nu tau_l row186):=by kernel_rfl
theorem resl_177:resFn Tryz.prog (nu 177)=some (erF nu tau_l row177):=by kernel_rfl
theorem resl_188:resFn Tryz.prog (nu 188)=some (erF nu tau_l row188):=by kernel_rfl
theorem resl_179:resFn Tryz.prog (nu 179)=some (erF nu tau_l row179):=by kernel_rfl
theorem resl_178:resFn Tryz.prog (nu 178)=some (erF nu tau_l row178):=by kernel_rfl
theorem resl_172:resFn Tryz.prog (nu 172)=some (erF nu tau_l row172):=by kernel_rfl
theorem resl_55:resFn Tryz.prog (nu 55)=some (erF nu tau_l row55):=by kernel_rfl
theorem resl_38:resFn Tryz.prog (nu 38)=some (erF nu tau_l row38):=by kernel_rfl
theorem resl_40:resFn Tryz.prog (nu 40)=some (erF nu tau_l row40):=by kernel_rfl
theorem resl_23:resFn Tryz.prog (nu 23)=some (erF nu tau_l row23):=by kernel_rfl
theorem resl_25:resFn Tryz.prog (nu 25)=some (erF nu tau_l row25):=by kernel_rfl
theorem resl_27:resFn Tryz.prog (nu 27)=some (erF nu tau_l row27):=by kernel_rfl
theorem resl_37:resFn Tryz.prog (nu 37)=some (erF nu tau_l row37):=by kernel_rfl
theorem resl_41:resFn Tryz.prog (nu 41)=some (erF nu tau_l row41):=by kernel_rfl
theorem resl_36:resFn Tryz.prog (nu 36)=some (erF nu tau_l row36):=by kernel_rfl
theorem resl_198:resFn Tryz.prog (nu 198)=some (erF nu tau_l row198):=by kernel_rfl
theorem resl_199:resFn Tryz.prog (nu 199)=some (erF nu tau_l row199):=by kernel_rfl
theorem resl_200:resFn Tryz.prog (nu 200)=some (erF nu tau_l row200):=by kernel_rfl
theorem resl_201:resFn Tryz.prog (nu 201)=some (erF nu tau_l row201):=by kernel_rfl
theorem resl_202:resFn Tryz.prog (nu 202)=some (erF nu tau_l row202):=by kernel_rfl
theorem resl_203:resFn Tryz.prog (nu 203)=some (erF nu tau_l row203):=by kernel_rfl
theorem resl_205:resFn Tryz.prog (nu 205)=some (erF nu tau_l row205):=by kernel_rfl
theorem resl_210:resFn Tryz.prog (nu 210)=some (erF nu tau_l row210):=by kernel_rfl
theorem resl_211:resFn Tryz.prog (nu 211)=some (erF nu tau_l row211):=by kernel_rfl
theorem resl_212:resFn Tryz.prog (nu 212)=some (erF nu tau_l row212):=by kernel_rfl
theorem resl_204:resFn Tryz.prog (nu 204)=some (erF nu tau_l row204):=by kernel_rfl
theorem resl_224:resFn Tryz.prog (nu 224)=some (erF nu tau_l row224):=by kernel_rfl
theorem resl_225:resFn Tryz.prog (nu 225)=some (erF nu tau_l row225):=by kernel_rfl
theorem resl_226:resFn Tryz.prog (nu 226)=some (erF nu tau_l row226):=by kernel_rfl
theorem resl_227:resFn Tryz.prog (nu 227)=some (erF nu tau_l row227):=by kernel_rfl
theorem resl_228:resFn Tryz.prog (nu 228)=some (erF nu tau_l row228):=by kernel_rfl
theorem resl_229:resFn Tryz.prog (nu 229)=some (erF nu tau_l row229):=by kernel_rfl
theorem resl_230:resFn Tryz.prog (nu 230)=some (erF nu tau_l row230):=by kernel_rfl
theorem resl_2097:resFn Tryz.prog (nu 2097)=some (erF nu tau_l row2097):=by kernel_rfl
theorem resl_231:resFn Tryz.prog (nu 231)=some (erF nu tau_l row231):=by kernel_rfl
theorem resl_233:resFn Tryz.prog (nu 233)=some (erF nu tau_l row233):=by kernel_rfl
theorem resl_249:resFn Tryz.prog (nu 249)=some (erF nu tau_l row249):=by kernel_rfl
theorem resl_437:resFn Tryz.prog (nu 437)=some (erF nu tau_l row437):=by kernel_rfl
theorem resl_644:resFn Tryz.prog (nu 644)=some (erF nu tau_l row644):=by kernel_rfl
theorem resl_645:resFn Tryz.prog (nu 645)=some (erF nu tau_l row645):=by kernel_rfl
theorem resl_646:resFn Tryz.prog (nu 646)=some (erF nu tau_l row646):=by kernel_rfl
theorem resl_647:resFn Tryz.prog (nu 647)=some (erF nu tau_l row647):=by kernel_rfl
theorem resl_648:resFn Tryz.prog (nu 648)=some (erF nu tau_l row648):=by kernel_rfl
theorem resl_649:resFn Tryz.prog (nu 649)=some (erF nu tau_l row649):=by kernel_rfl
theorem resl_650:resFn Tryz.prog (nu 650)=some (erF nu tau_l row650):=by kernel_rfl
theorem resl_651:resFn Tryz.prog (nu 651)=some (erF nu tau_l row651):=by kernel_rfl
theorem resl_656:resFn Tryz.prog (nu 656)=some (erF nu tau_l row656):=by kernel_rfl
theorem resl_658:resFn Tryz.prog (nu 658)=some (erF nu tau_l row658):=by kernel_rfl
theorem resl_652:resFn Tryz.prog (nu 652)=some (erF nu tau_l row652):=by kernel_rfl
theorem resl_653:resFn Tryz.prog (nu 653)=some (erF nu tau_l row653):=by kernel_rfl
theorem resl_654:resFn Tryz.prog (nu 654)=some (erF nu tau_l row654):=by kernel_rfl
theorem resl_677:resFn Tryz.prog (nu 677)=some (erF nu tau_l row677):=by kernel_rfl
theorem resl_678:resFn Tryz.prog (nu 678)=some (erF nu tau_l row678):=by kernel_rfl
theorem resl_679:resFn Tryz.prog (nu 679)=some (erF nu tau_l row679):=by kernel_rfl
theorem lTab_ok(hp68:∀xs r,prim68 xs=some r→PCall Tryz.prog (nu 68) xs (·=r))(hp187:∀xs r,prim187 xs=some r→PCall Tryz.prog (nu 187) xs (·=r)):TOk Tryz.prog nu (fun u=>lTab.lookup u):=ok_lookup (ok_cons (ok_fn rfl rfl resl_115) (ok_cons (ok_fn rfl rfl resl_116) (ok_cons (ok_fn rfl rfl resl_117) (ok_cons (ok_fn rfl rfl resl_118) (ok_cons (ok_fn rfl rfl resl_91) (ok_cons (ok_fn rfl rfl resl_86) (ok_cons (ok_fn rfl rfl resl_106) (ok_cons (ok_fn rfl rfl resl_71) (ok_cons (ok_fn rfl rfl resl_72) (ok_cons (ok_fn rfl rfl resl_73) (ok_cons (ok_fn rfl rfl resl_70) (ok_cons (ok_fn rfl rfl resl_87) (ok_cons (ok_fn rfl rfl resl_85) (ok_cons (ok_fn rfl rfl resl_56) (ok_cons (ok_fn rfl rfl resl_88) (ok_cons (ok_fn rfl rfl resl_57) (ok_cons (ok_fn rfl rfl resl_2106) (ok_cons (ok_fn rfl rfl resl_89) (ok_cons (ok_fn rfl rfl resl_60) (ok_cons (ok_fn rfl rfl resl_94) (ok_cons (ok_fn rfl rfl resl_90) (ok_cons (ok_fn rfl rfl resl_119) (ok_cons (ok_fn rfl rfl resl_120) (ok_cons (ok_fn rfl rfl resl_121) (ok_cons (ok_fn rfl rfl resl_93) (ok_cons (ok_fn rfl rfl resl_2071) (ok_cons (ok_fn rfl rfl resl_2092) (ok_cons (ok_fn rfl rfl resl_62) (ok_cons (ok_pr rfl hp68) (ok_cons (ok_fn rfl rfl resl_43) (ok_cons (ok_fn rfl rfl resl_84) (ok_cons (ok_fn rfl rfl resl_52) (ok_cons (ok_fn rfl rfl resl_54) (ok_cons (ok_fn rfl rfl resl_61) (ok_cons (ok_fn rfl rfl resl_122) (ok_cons (ok_fn rfl rfl resl_95) (ok_cons (ok_fn rfl rfl resl_96) (ok_cons (ok_fn rfl rfl resl_97) (ok_cons (ok_fn rfl rfl resl_63) (ok_cons (ok_fn rfl rfl resl_2043) (ok_cons (ok_fn rfl rfl resl_105) (ok_cons (ok_fn rfl rfl resl_69) (ok_cons (ok_fn rfl rfl resl_129) (ok_cons (ok_fn rfl rfl resl_76) (ok_cons (ok_fn rfl rfl resl_74) (ok_cons (ok_fn rfl rfl resl_44) (ok_cons (ok_fn rfl rfl resl_108) (ok_cons (ok_fn rfl rfl resl_107) (ok_cons (ok_fn rfl rfl resl_75) (ok_cons (ok_fn rfl rfl resl_46) (ok_cons (ok_fn rfl rfl resl_483) (ok_cons (ok_fn rfl rfl resl_493) (ok_cons (ok_fn rfl rfl resl_491) (ok_cons (ok_fn rfl rfl resl_492) (ok_cons (ok_fn rfl rfl resl_113) (ok_cons (ok_fn rfl rfl resl_80) (ok_cons (ok_fn rfl rfl resl_10) (ok_cons (ok_fn rfl rfl resl_79) (ok_cons (ok_fn rfl rfl resl_50) (ok_cons (ok_fn rfl rfl resl_13) (ok_cons (ok_fn rfl rfl resl_485) (ok_cons (ok_fn rfl rfl resl_486) (ok_cons (ok_fn rfl rfl resl_487) (ok_cons (ok_fn rfl rfl resl_488) (ok_cons (ok_fn rfl rfl resl_477) (ok_cons (ok_fn rfl rfl resl_185) (ok_cons (ok_fn rfl rfl resl_186) (ok_cons (ok_pr rfl hp187) (ok_cons (ok_fn rfl rfl resl_177) (ok_cons (ok_fn rfl rfl resl_188) (ok_cons (ok_fn rfl rfl resl_179) (ok_cons (ok_fn rfl rfl resl_178) (ok_cons (ok_fn rfl rfl resl_172) (ok_cons (ok_fn rfl rfl resl_55) (ok_cons (ok_fn rfl rfl resl_38) (ok_cons (ok_fn rfl rfl resl_40) (ok_cons (ok_fn rfl rfl resl_23) (ok_cons (ok_fn rfl rfl resl_25) (ok_cons (ok_fn rfl rfl resl_27) (ok_cons (ok_fn rfl rfl resl_37) (ok_cons (ok_fn rfl rfl resl_41) (ok_cons (ok_fn rfl rfl resl_36) (ok_cons (ok_fn rfl rfl resl_198) (ok_cons (ok_fn rfl rfl resl_199) (ok_cons (ok_fn rfl rfl resl_200) (ok_cons (ok_fn rfl rfl resl_201) (ok_cons (ok_fn rfl rfl resl_202) (ok_cons (ok_fn rfl rfl resl_203) (ok_cons (ok_fn rfl rfl resl_205) (ok_cons (ok_fn rfl rfl resl_210) (ok_cons (ok_fn rfl rfl resl_211) (ok_cons (ok_fn rfl rfl resl_212) (ok_cons (ok_fn rfl rfl resl_204) (ok_cons (ok_fn rfl rfl resl_224) (ok_cons (ok_fn rfl rfl resl_225) (ok_cons (ok_fn rfl rfl resl_226) (ok_cons (ok_fn rfl rfl resl_227) (ok_cons (ok_fn rfl rfl resl_228) (ok_cons (ok_fn rfl rfl resl_229) (ok_cons (ok_fn rfl rfl resl_230) (ok_cons (ok_fn rfl rfl resl_2097) (ok_cons (ok_fn rfl rfl resl_231) (ok_cons (ok_fn rfl rfl resl_233) (ok_cons (ok_fn rfl rfl resl_249) (ok_cons (ok_fn rfl rfl resl_437) (ok_cons (ok_fn rfl rfl resl_644) (ok_cons (ok_fn rfl rfl resl_645) (ok_cons (ok_fn rfl rfl resl_646) (ok_cons (ok_fn rfl rfl resl_647) (ok_cons (ok_fn rfl rfl resl_648) (ok_cons (ok_fn rfl rfl resl_649) (ok_cons (ok_fn rfl rfl resl_650) (ok_cons (ok_fn rfl rfl resl_651) (ok_cons (ok_fn rfl rfl resl_656) (ok_cons (ok_fn rfl rfl resl_658) (ok_cons (ok_fn rfl rfl resl_652) (ok_cons (ok_fn rfl rfl resl_653) (ok_cons (ok_fn rfl rfl resl_654) (ok_cons (ok_fn rfl rfl resl_677) (ok_cons (ok_fn rfl rfl resl_678) (ok_cons (ok_fn rfl rfl resl_679) (fun p hp=>by cases hp))))))))))))))))))))))))))))))))))))))))))))))))))))))))))))))))))))))))))))))))))))))))))))))))))))))))))))))))))))))))))
theorem lTab_part:Part gTab lTab:=⟨sub_cons (by kernel_rfl) (sub_cons (by kernel_rfl) (sub_cons (by kernel_rfl) (sub_cons (by kernel_rfl) (sub_cons (by kernel_rfl) (sub_cons (by kernel_rfl) (sub_cons (by kernel_rfl) (sub_cons (by kernel_rfl) (sub_cons (by kernel_rfl) (sub_cons (by kernel_rfl) (sub_cons (by kernel_rfl) (sub_cons (by kernel_rfl) (sub_cons (by kernel_rfl) (sub_cons (by kernel_rfl) (sub_cons (by kernel_rfl) (sub_cons (by kernel_rfl) (sub_cons (by kernel_rfl) (sub_cons (by kernel_rfl) (sub_cons (by kernel_rfl) (sub_cons (by kernel_rfl) (sub_cons (by kernel_rfl) (sub_cons (by kernel_rfl) (sub_cons (by kernel_rfl) (sub_cons (by kernel_rfl) (sub_cons (by kernel_rfl) (sub_cons (by kernel_rfl) (sub_cons (by kernel_rfl) (sub_cons (by kernel_rfl) (sub_cons (by kernel_rfl) (sub_cons (by kernel_rfl) (sub_cons (by kernel_rfl) (sub_cons (by kernel_rfl) (sub_cons (by kernel_rfl) (sub_cons (by kernel_rfl) (sub_cons (by kernel_rfl) (sub_cons (by kernel_rfl) (sub_cons (by kernel_rfl) (sub_cons (by kernel_rfl) (sub_cons (by kernel_rfl) (sub_cons (by kernel_rfl) (sub_cons (by kernel_rfl) (sub_cons (by kernel_rfl) (sub_cons (by kernel_rfl) (sub_cons (by kernel_rfl) (sub_cons (by kernel_rfl) (sub_cons (by kernel_rfl) (sub_cons (by kernel_rfl) (sub_cons (by kernel_rfl) (sub_cons (by kernel_rfl) (sub_cons (by kernel_rfl) (sub_cons (by kernel_rfl) (sub_cons (by kernel_rfl) (sub_cons (by kernel_rfl) (sub_cons (by kernel_rfl) (sub_cons (by kernel_rfl) (sub_cons (by kernel_rfl) (sub_cons (by kernel_rfl) (sub_cons (by kernel_rfl) (sub_cons (by kernel_rfl) (sub_cons (by kernel_rfl) (sub_cons (by kernel_rfl) (sub_cons (by kernel_rfl) (sub_cons (by kernel_rfl) (sub_cons (by kernel_rfl) (sub_cons (by kernel_rfl) (sub_cons (by kernel_rfl) (sub_cons (by kernel_rfl) (sub_cons (by kernel_rfl) (sub_cons (by kernel_rfl) (sub_cons (by kernel_rfl) (sub_cons (by kernel_rfl) (sub_cons (by kernel_rfl) (sub_cons (by kernel_rfl) (sub_cons (by kernel_rfl) (sub_cons (by kernel_rfl) (sub_cons (by kernel_rfl) (sub_cons (by kernel_rfl) (sub_cons (by kernel_rfl) (sub_cons (by kernel_rfl) (sub_cons (by kernel_rfl) (sub_cons (by kernel_rfl) (sub_cons (by kernel_rfl) (sub_cons (by kernel_rfl) (sub_cons (by kernel_rfl) (sub_cons (by kernel_rfl) (sub_cons (by kernel_rfl) (sub_cons (by kernel_rfl) (sub_cons (by kernel_rfl) (sub_cons (by kernel_rfl) (sub_cons (by kernel_rfl) (sub_cons (by kernel_rfl) (sub_cons (by kernel_rfl) (sub_cons (by kernel_rfl) (sub_cons (by kernel_rfl) (sub_cons (by kernel_rfl) (sub_cons (by kernel_rfl) (sub_cons (by kernel_rfl) (sub_cons (by kernel_rfl) (sub_cons (by kernel_rfl) (sub_cons (by kernel_rfl) (sub_cons (by kernel_rfl) (sub_cons (by kernel_rfl) (sub_cons (by kernel_rfl) (sub_cons (by kernel_rfl) (sub_cons (by kernel_rfl) (sub_cons (by kernel_rfl) (sub_cons (by kernel_rfl) (sub_cons (by kernel_rfl) (sub_cons (by kernel_rfl) (sub_cons (by kernel_rfl) (sub_cons (by kernel_rfl) (sub_cons (by kernel_rfl) (sub_cons (by kernel_rfl) (sub_cons (by kernel_rfl) (sub_cons (by kernel_rfl) (sub_cons (by kernel_rfl) (sub_cons (by kernel_rfl) (sub_cons (by kernel_rfl) (sub_cons (by kernel_rfl) (sub_cons (by kernel_rfl) (sub_cons (by kernel_rfl) (fun p hp=>by cases hp))))))))))))))))))))))))))))))))))))))))))))))))))))))))))))))))))))))))))))))))))))))))))))))))))))))))))))))))))))))))),by kernel_rfl⟩
def sTab:List (Nat×AFx):=[(118,row118),(86,row86),(106,row106),(71,row71),(70,row70),(90,row90),(101,row101),(103,row103),(125,row125)]
def tau_s:Nat→Nat:=tyNum fun u=>sTab.lookup u
theorem ress_118:resFn Tryz.prog (nu 118)=some (erF nu tau_s row118):=by kernel_rfl
theorem ress_86:resFn Tryz.prog (nu 86)=some (erF nu tau_s row86):=by kernel_rfl
theorem ress_106:resFn Tryz.prog (nu 106)=some (erF nu tau_s row106):=by kernel_rfl
theorem ress_71:resFn Tryz.prog (nu 71)=some (erF nu tau_s row71):=by kernel_rfl
theorem ress_70:resFn Tryz.prog (nu 70)=some (erF nu tau_s row70):=by kernel_rfl
theorem ress_90:resFn Tryz.prog (nu 90)=some (erF nu tau_s row90):=by kernel_rfl
theorem ress_101:resFn Tryz.prog (nu 101)=some (erF nu tau_s row101):=by kernel_rfl
theorem ress_103:resFn Tryz.prog (nu 103)=some (erF nu tau_s row103):=by kernel_rfl
theorem ress_125:resFn Tryz.prog (nu 125)=some (erF nu tau_s row125):=by kernel_rfl
theorem sTab_ok:TOk Tryz.prog nu (fun u=>sTab.lookup u):=ok_lookup (ok_cons (ok_fn rfl rfl ress_118) (ok_cons (ok_fn rfl rfl ress_86) (ok_cons (ok_fn rfl rfl ress_106) (ok_cons (ok_fn rfl rfl ress_71) (ok_cons (ok_fn rfl rfl ress_70) (ok_cons (ok_fn rfl rfl ress_90) (ok_cons (ok_fn rfl rfl ress_101) (ok_cons (ok_fn rfl rfl ress_103) (ok_cons (ok_fn rfl rfl ress_125) (fun p hp=>by cases hp))))))))))
theorem sTab_part:Part gTab sTab:=⟨sub_cons (by kernel_rfl) (sub_cons (by kernel_rfl) (sub_cons (by kernel_rfl) (sub_cons (by kernel_rfl) (sub_cons (by kernel_rfl) (sub_cons (by kernel_rfl) (sub_cons (by kernel_rfl) (sub_cons (by kernel_rfl) (sub_cons (by kernel_rfl) (fun p hp=>by cases hp))))))))),by kernel_rfl⟩
instance:CLimb tab where
 h115:=by kernel_rfl
 h116:=by kernel_rfl
 h117:=by kernel_rfl
 h118:=by kernel_rfl
 h91:=by kernel_rfl
instance:CNat tab where
 h115:=by kernel_rfl
 h116:=by kernel_rfl
 h117:=by kernel_rfl
 h118:=by kernel_rfl
 h91:=by kernel_rfl
 h86:=by kernel_rfl
 h106:=by kernel_rfl
 h71:=by kernel_rfl
 h72:=by kernel_rfl
 h73:=by kernel_rfl
 h70:=by kernel_rfl
 h87:=by kernel_rfl
 h85:=by kernel_rfl
 h56:=by kernel_rfl
 h88:=by kernel_rfl
 h57:=by kernel_rfl
 h2106:=by kernel_rfl
instance:CProd tab where
 h115:=by kernel_rfl
 h116:=by kernel_rfl
 h117:=by kernel_rfl
 h118:=by kernel_rfl
 h91:=by kernel_rfl
 h86:=by kernel_rfl
 h106:=by kernel_rfl
 h71:=by kernel_rfl
 h72:=by kernel_rfl
 h73:=by kernel_rfl
 h70:=by kernel_rfl
 h87:=by kernel_rfl
 h85:=by kernel_rfl
 h56:=by kernel_rfl
 h88:=by kernel_rfl
 h57:=by kernel_rfl
 h2106:=by kernel_rfl
 h89:=by kernel_rfl
 h60:=by kernel_rfl
instance:CTwos tab where
 h92:=by kernel_rfl
 h94:=by kernel_rfl
instance:CQuot tab where
 h90:=by kernel_rfl
 h119:=by kernel_rfl
 h120:=by kernel_rfl
 h121:=by kernel_rfl
 h93:=by kernel_rfl
instance:CQuotD tab where
 h2071:=by kernel_rfl
 h2092:=by kernel_rfl
 h62:=by kernel_rfl
instance:CDigits tab where
 h101:=by kernel_rfl
instance:CText tab where
 h68:=by kernel_rfl
instance:CTrim tab where
 h103:=by kernel_rfl
 h125:=by kernel_rfl
instance:CRef02 tab where
 h43:=by kernel_rfl
 h84:=by kernel_rfl
 h52:=by kernel_rfl
 h54:=by kernel_rfl
instance:CRef04 tab where
 h43:=by kernel_rfl
 h84:=by kernel_rfl
 h52:=by kernel_rfl
 h54:=by kernel_rfl
 h61:=by kernel_rfl
instance:CRef05 tab where
 h43:=by kernel_rfl
 h84:=by kernel_rfl
 h52:=by kernel_rfl
 h54:=by kernel_rfl
 h61:=by kernel_rfl
 h122:=by kernel_rfl
 h95:=by kernel_rfl
 h96:=by kernel_rfl
 h97:=by kernel_rfl
 h63:=by kernel_rfl
instance:CRef07 tab where
 h43:=by kernel_rfl
 h84:=by kernel_rfl
 h52:=by kernel_rfl
 h54:=by kernel_rfl
 h61:=by kernel_rfl
 h122:=by kernel_rfl
 h95:=by kernel_rfl
 h96:=by kernel_rfl
 h97:=by kernel_rfl
 h63:=by kernel_rfl
 h2043:=by kernel_rfl
 h105:=by kernel_rfl
 h69:=by kernel_rfl
instance:CLenD tab where
 h129:=by kernel_rfl
instance:CTree tab where
 h76:=by kernel_rfl
 h74:=by kernel_rfl
 h44:=by kernel_rfl
 h108:=by kernel_rfl
 h107:=by kernel_rfl
 h75:=by kernel_rfl
 h46:=by kernel_rfl
instance:CTree2 tab where
 h483:=by kernel_rfl
 h493:=by kernel_rfl
 h491:=by kernel_rfl
 h492:=by kernel_rfl
instance:CRef17 tab where
 h113:=by kernel_rfl
 h80:=by kernel_rfl
 h10:=by kernel_rfl
 h79:=by kernel_rfl
 h50:=by kernel_rfl
instance:CLaw17 tab where
 h13:=by kernel_rfl
instance:CCheck tab where
 h485:=by kernel_rfl
 h486:=by kernel_rfl
 h487:=by kernel_rfl
 h488:=by kernel_rfl
 h477:=by kernel_rfl
instance:CLex tab where
 h185:=by kernel_rfl
 h186:=by kernel_rfl
 h187:=by kernel_rfl
 h177:=by kernel_rfl
 h188:=by kernel_rfl
 h179:=by kernel_rfl
 h178:=by kernel_rfl
 h172:=by kernel_rfl
instance:CJoin tab where
instance:CRef16 tab where
instance:CRef19 tab where
instance:CLaw21 tab where
instance:CWhole tab where
 h55:=by kernel_rfl
 h38:=by kernel_rfl
 h40:=by kernel_rfl
 h23:=by kernel_rfl
 h25:=by kernel_rfl
 h27:=by kernel_rfl
 h37:=by kernel_rfl
 h41:=by kernel_rfl
 h36:=by kernel_rfl
instance:CCommon tab where
 h198:=by kernel_rfl
 h199:=by kernel_rfl
 h200:=by kernel_rfl
 h201:=by kernel_rfl
instance:CFrac tab where
 h202:=by kernel_rfl
 h203:=by kernel_rfl
 h205:=by kernel_rfl
 h210:=by kernel_rfl
 h211:=by kernel_rfl
 h212:=by kernel_rfl
instance:CFrac2 tab where
 h204:=by kernel_rfl
instance:CFrac3 tab where
instance:CFrac5 tab where
instance:CPow tab where
instance:CRef06 tab where
 h224:=by kernel_rfl
 h225:=by kernel_rfl
 h226:=by kernel_rfl
 h227:=by kernel_rfl
 h228:=by kernel_rfl
 h229:=by kernel_rfl
 h230:=by kernel_rfl
 h2097:=by kernel_rfl
instance:CRef08 tab where
 h43:=by kernel_rfl
 h84:=by kernel_rfl
 h52:=by kernel_rfl
 h54:=by kernel_rfl
 h61:=by kernel_rfl
 h122:=by kernel_rfl
 h95:=by kernel_rfl
 h96:=by kernel_rfl
 h97:=by kernel_rfl
 h63:=by kernel_rfl
 h2043:=by kernel_rfl
 h105:=by kernel_rfl
 h69:=by kernel_rfl
instance:CRef09 tab where
 h231:=by kernel_rfl
 h233:=by kernel_rfl
instance:CRef11 tab where
instance:CLaw09 tab where
 h249:=by kernel_rfl
instance:CLaw11 tab where
instance:CTape tab where
 h437:=by kernel_rfl
instance:CGauge tab where
instance:CEval tab where
instance:CEval2 tab where
instance:CRow tab where
instance:CRow5 tab where
instance:CComp tab where
 h644:=by kernel_rfl
 h645:=by kernel_rfl
 h646:=by kernel_rfl
 h647:=by kernel_rfl
 h648:=by kernel_rfl
 h649:=by kernel_rfl
 h650:=by kernel_rfl
 h651:=by kernel_rfl
instance:CLaw25 tab where
 h656:=by kernel_rfl
 h658:=by kernel_rfl
instance:CRef25 tab where
 h652:=by kernel_rfl
 h653:=by kernel_rfl
 h654:=by kernel_rfl
instance:CTapeS tab where
 h677:=by kernel_rfl
 h678:=by kernel_rfl
 h679:=by kernel_rfl
end Go.Proofs.YtfgfjicelfagcaaGreatDoor
end
section
namespace Go.Proofs
open Go.RowKit
theorem Tryz.sizeBuilder:(Tryz.prog.info? 181).map (·.size)=some 2:=by kernel_rfl
theorem Tryz.liesBuilder:liesAt Tryz.prog Tryz.prog.depth 181 (2/Tryz.prog.cellsOf 181) 0 181 1=true:=by kernel_rfl
theorem Tryz.infoByte:(Tryz.prog.info? 5).map (fun i=>(i.zero,i.size,i.bytes))=some (some (.int .u8 0),1,1):=by kernel_rfl
theorem Tryz.cellsByte:Tryz.prog.cellsOf 5=1:=by kernel_rfl
set_option maxHeartbeats 1000000 in
set_option maxRecDepth 100000 in
theorem Tryz.bString(B b:Nat)(l:List UInt8)(w:World)(h:Lib.IsBuilder 181 5 B b (Lib.byteCells l) w)(h0:l≠[]) :
  Calls Tryz.prog 121 #[.pointer (some ⟨b,0,none⟩)] w fun e w'=>e=.returned (.string ⟨l.toArray⟩)∧Below B w w':=by
 obtain⟨p,hB,v,hbk,hown,hne⟩:∃p,Lib.BuilderAt 181 5 B b p (Lib.byteCells l) w:=by
  rcases h with h | h
  ·exact⟨_,h⟩
  ·exact⟨_,h⟩
 have hl0:l.length≠0:=by simpa using h0
 rw[Lib.byteCells_length]at hown
 obtain⟨g,cap,cur,rfl,hbg,hg,hnc,hcm,hcs,htake⟩:∃g cap cur,v=.slice (some ⟨g,0,none⟩) l.length cap∧B≤g∧w.heap[g]? = some (.cells cur 5 (0,0))∧l.length≤cap∧cap≤maxLen∧cur.size=cap*1∧cur.toList.take (l.length*1)=Lib.byteCells l:=by
  rcases hown.2 with ⟨_,hz⟩ | ⟨g,cap,cur,hv,r⟩
  ·exact absurd hz hl0
  ·exact⟨g,cap,cur,hv,r⟩
 have c1:w.drew.cell? ⟨b,1,none⟩=some (.slice (some ⟨g,0,none⟩) l.length cap):=by
  have:w.drew.heap[b]? = some (.cells #[p,.slice (some ⟨g,0,none⟩) l.length cap] 181 (0,0)):=hbk
  rw[Lib.cell_of_heap this];rfl
 have hSD:(Builtin.unsafeSliceData_ #[179] 204 #[.slice (some ⟨g,0,none⟩) l.length cap]).run Tryz.prog w.drew=.ok (.pointer (some ⟨g,0,none⟩)) w.drew:=
  Lib.run_unsafeSliceData_row _ _ _ _ _ _ (by omega)
 have hUS:(Builtin.unsafeString_ #[204,3] 9 #[.pointer (some ⟨g,0,none⟩),.int .i64 l.length]).run Tryz.prog w.drew=.ok (.string ⟨l.toArray⟩) (w.drew.freeze ⟨g,0,none⟩ l.length):=by
  refine Lib.run_unsafeString_row w.drew 204 3 9 5 Tryz.underlying204 Tryz.cellsByte g cur.size (by have hg':w.drew.heap[g]? = some (.cells cur 5 (0,0)):=hg;simp[World.shape?,hg']) l h0 (by omega) (by unfold maxLen at hcm;omega) ?_
  intro j x hx
  have:=hown.cells (g:=g) rfl j (.int .u8 x.toNat) (by simp[Lib.byteCells,hx])
  exact this
 go_enter Tryz.func121,Tryz.ntmps121
 go_wp2
 go_region
 all_goals (go_wp2;go_ret;exact⟨rfl,Lib.below_freeze (Below.drew (Below.refl B w)) (p:=⟨g,0,none⟩) hbg _⟩)
set_option maxHeartbeats 1000000 in
set_option maxRecDepth 100000 in
theorem Tryz.bCheck_used(b:Nat)(w:World)(h0:w.cell? ⟨b,0,none⟩=some (.pointer (some ⟨b,0,none⟩))) :
  Calls Tryz.prog 132 #[.pointer (some ⟨b,0,none⟩)] w fun e w'=>e=.returned (.tuple #[])∧w'=w:=by
 obtain⟨j,hj,_⟩:=Option.map_eq_some_iff.1 Tryz.sizeBuilder
 go_enter Tryz.func132,Tryz.ntmps132
 go_wp2
 rw[Lib.run_neq_ptr_same w _ Tryz.underlying178 hj]
 go_wp2
 go_end0
 exact⟨rfl,rfl⟩
set_option maxHeartbeats 1000000 in
set_option maxRecDepth 100000 in
theorem Tryz.bCheck_fresh(b:Nat)(w:World)(h0:w.cell? ⟨b,0,none⟩=some (.pointer none))(hsh:w.shape? b=some (181,2))(hfz:w.frozen? ⟨b,0,none⟩=false) :
  Calls Tryz.prog 132 #[.pointer (some ⟨b,0,none⟩)] w fun e w'=>e=.returned (.tuple #[])∧w'=w.setCell ⟨b,0,none⟩ (.pointer (some ⟨b,0,none⟩)):=by
 obtain⟨j,hj,hjs⟩:=Option.map_eq_some_iff.1 Tryz.sizeBuilder
 go_enter Tryz.func132,Tryz.ntmps132
 go_wp2
 rw[Lib.run_to_unsafe w ⟨b,0,none⟩ Tryz.underlying178 Tryz.underlying211 hj (by rw[hjs];decide) hsh (Nat.zero_lt_succ 1)]
 simp only[Result.andThen]
 rw[Oper.upon_value]
 go_wp2
 rw[run_callFunc_extern Tryz.func143 (by kernel_rfl) (by kernel_rfl) (by kernel_rfl) (e:=Extern.AbiNoEscape.same) (by kernel_rfl)]
 rw[Lib.run_noEscape]
 simp only[Result.andThen]
 rw[Oper.upon_value]
 go_wp2
 rw[Lib.run_from_unsafe w ⟨b,0,none⟩ Tryz.underlying211 Tryz.underlying178 hj hsh Tryz.liesBuilder]
 simp only[Result.andThen]
 rw[Oper.upon_value]
 go_wp2
 go_end0
 exact⟨rfl,rfl⟩
theorem Tryz.bCheck(B b:Nat)(bs:List Value)(w:World)(h:Lib.IsBuilder 181 5 B b bs w) :
  Calls Tryz.prog 132 #[.pointer (some ⟨b,0,none⟩)] w fun e w'=>e=.returned (.tuple #[])∧(Lib.BuilderAt 181 5 B b (.pointer (some ⟨b,0,none⟩)) bs w'∧Below B w w'):=by
 rcases h with h | h
 ·refine(Tryz.bCheck_fresh b w h.cell0 h.shape h.frozen0).mono ?_
  rintro e w' ⟨rfl,rfl⟩
  exact⟨rfl,h.used _,(Below.refl B w).setCell (p:=⟨b,0,none⟩) h.1 _⟩
 ·refine(Tryz.bCheck_used b w h.cell0).mono ?_
  rintro e w' ⟨rfl,rfl⟩
  exact⟨rfl,h,Below.refl B _⟩
set_option maxHeartbeats 2000000 in
set_option maxRecDepth 100000 in
theorem Tryz.bWrite(B b:Nat)(bs:List Value)(s:ByteArray)(w:World)(h:Lib.IsBuilder 181 5 B b bs w)(hlen:bs.length+s.size≤140737488355328)(hBw:B≤w.heap.size) :
  Calls Tryz.prog 119 #[.pointer (some ⟨b,0,none⟩),.string s] w fun e w'=>e=.returned (.tuple #[.int .i64 s.size,.nilIface])∧(Lib.BuilderAt 181 5 B b (.pointer (some ⟨b,0,none⟩)) (bs++Lib.strCells s) w'∧Below B w w'):=by
 obtain⟨i0,hi,hz0,hz1,hz2⟩:=info_parts Tryz.infoByte
 go_enter Tryz.func119,Tryz.ntmps119
 go_wp2_with (go_at_call 132;refine(Tryz.bCheck B b bs _ h).mono ?_)
 rintro e w1 ⟨rfl,h1,hb1⟩
 obtain⟨hB,v,hbk,hown,hne⟩:=h1
 have c0:w1.cell? ⟨b,0,none⟩=some (.pointer (some ⟨b,0,none⟩)):=by rw[Lib.cell_of_heap hbk];rfl
 have c1:w1.cell? ⟨b,1,none⟩=some v:=by rw[Lib.cell_of_heap hbk];rfl
 go_wp2_with (at_builtin;refine Lib.wpList_append_own_string _ rfl _ _ 179 9 rfl B 5 i0 Tryz.underlying179 Tryz.underlying9 hi hz0 hz1 hz2 _ _ _ rfl hown s rfl ?c3 ?c4 ?c5 ?_)
 case c3=>unfold maxLen;omega
 case c4=>omega
 case c5=>have:=hb1.size;omega
 intro v' w2 hown' hgrow _
 have hlt:b<w1.heap.size:=by
  rcases Nat.lt_or_ge b w1.heap.size with h' | h'
  ·exact h'
  ·simp[Array.getElem?_eq_none h']at hbk
 have hb2:w2.heap[b]? = some (.cells #[.pointer (some ⟨b,0,none⟩),v] 181 (0,0)):=by
  rw[hgrow.block b hlt (fun e=>hne e.symm)]
  exact hbk
 have d0:w2.cell? ⟨b,0,none⟩=some (.pointer (some ⟨b,0,none⟩)):=by rw[Lib.cell_of_heap hb2];rfl
 have d1:w2.cell? ⟨b,1,none⟩=some v:=by rw[Lib.cell_of_heap hb2];rfl
 have f1:w2.frozen? ⟨b,1,none⟩=false:=Lib.frozen_of_heap hb2 1
 obtain⟨ao,n',cap,rfl⟩:∃ao n' cap,v'=.slice ao n' cap:=by
  rcases hown'.2 with ⟨hv,_⟩ | ⟨g,cap,cur,hv,_⟩
  ·exact⟨_,_,_,hv⟩
  ·exact⟨_,_,_,hv⟩
 go_wp2
 go_ret2
 refine⟨rfl,?_,?_⟩
 ·exact Lib.BuilderAt.put (T:=181) (e:=5) hB hb2 (bs':=bs++Lib.strCells s) (by simpa[Lib.strCells_length]using hown') (by decide)
 ·exact(hb1.grown hgrow (by have:=hb1.size;omega) (fun k hk=>(hown.lt k hk).1)).setCell (p:=⟨b,1,none⟩) hB _
end Go.Proofs
end
namespace Go.Ab
def pieces(n:Nat):List (List UInt8):=if h:n=0 then [] else digK 9 (n%1000000000)::pieces (n/1000000000)
termination_by n
decreasing_by exact Nat.div_lt_self (Nat.pos_of_ne_zero h) (by decide)
theorem zb2:pieces 0=[]:=by unfold pieces;simp
theorem zch{n:Nat}(h:n≠0):pieces n=digK 9 (n%1000000000)::pieces (n/1000000000):=by
 conv=>lhs;unfold pieces
 rw[dif_neg h]
def rowsS(l:List (List UInt8)):List (List AV):=l.map fun s=>[.s s]
@[simp] theorem zxp(l:List (List UInt8)):(rowsS l).length=l.length:=by simp[rowsS]
@[simp] theorem zwx(l:List (List UInt8)):wkL (rowsS l)=rowsS l:=by
 induction l with
 | nil=>rfl
 | cons x l ih=>simpa[rowsS,wkL,wkR]using ih
theorem zu3(l:List (List UInt8))(s:List UInt8):rowsS l++[[.s s]]=rowsS (l++[s]):=by simp[rowsS]
def txL:AX:=
 (.note
 (.seq
 (.seq
  (.reg [⟨(some 11),none,.mov (.t 0)⟩,
   ⟨(some 12),none,.call 70 [(.t 11)]⟩,
   ⟨(some 13),none,.un .not (.t 12)⟩])
  (.cond (.t 13)
  .skip
  (.exit 0)))
 (.block 1
  (.seq
  (.reg [⟨(some 15),none,.mov (.t 0)⟩,
   ⟨(some 16),none,.call 90 [(.t 15),(.c (u32 1000000000))]⟩,
   ⟨(some 14),none,.mov (.t 16)⟩,
   ⟨(some 17),none,.ext (.t 14) 0⟩,
   ⟨(some 18),none,.ext (.t 14) 1⟩,
   ⟨(some 19),none,.ext (.t 14) 2⟩,
   ⟨(some 4),none,.mov (.t 17)⟩,
   ⟨(some 5),none,.mov (.t 18)⟩,
   ⟨(some 6),none,.mov (.t 19)⟩])
  (.seq
   (.reg [⟨(some 20),none,.mov (.t 3)⟩,
    ⟨(some 21),none,.mov (.t 5)⟩,
    ⟨(some 22),none,.call 101 [(.t 21)]⟩,
    ⟨(some 23),none,.bsl 1 [(.s [])] 1 [(0,(.t 22))]⟩,
    ⟨(some 24),none,.app 1 (.t 20) (.t 23)⟩,
    ⟨(some 3),none,.mov (.t 24)⟩])
   (.reg [⟨(some 25),none,.mov (.t 4)⟩,
    ⟨(some 0),none,.mov (.t 25)⟩])))))
 (.norm false [0,3]))
def tx0:AX:=(.reg [⟨(some 2),none,.mov (.c (.s []))⟩])
def txA:AX:=
  (.seq
  (.reg [⟨(some 9),none,.mov (.t 0)⟩,
   ⟨(some 10),none,.call 70 [(.t 9)]⟩])
  (.cond (.t 10)
   (.seq
   (.reg [⟨(some 2),none,.mov (.c (.s [48]))⟩])
   (.pre (.norm false [2]) .ret))
   .skip))
def tx3:AX:=(.note (.reg [⟨(some 3),none,.mov (.c (.sl [] .nl))⟩]) (.nil 3 1))
def txP:AX:=(.lp 0 (.norm false [0,3]) txL (.norm false [3]))
section
variable{T:Tbl}
theorem zadm(x:AV):evX (orc T) T 0 tx0 ⟨argEnv [x],[],1⟩=some (.n,⟨[(2,.s []),(0,x)],[],1⟩):=by
 simp -implicitDefEqProofs[tx0]
end
section
variable{T:Tbl}[CNat T]
theorem z5b(a:List UInt32)(hl:a.length≤1000)(h0:val a=0):evX (orc T) T 0 txA ⟨[(2,.s []),(0,.sl (u32s a) .an)],[],1⟩=some (.r,⟨[(2,.s [48])],[],2⟩):=by
 have hz:=zfu (T:=T) a (by omega)
 simp -implicitDefEqProofs[txA,hz,h0]
end
section
variable{T:Tbl}[CNat T]
theorem z5c(a:List UInt32)(hl:a.length≤1000)(h0:val a≠0):evX (orc T) T 0 txA ⟨[(2,.s []),(0,.sl (u32s a) .an)],[],1⟩ =
  some (.n,⟨[(10,.b false),(9,.sl (u32s a) .an),(2,.s []),(0,.sl (u32s a) .an)],[],1⟩):=by
 have hz:=zfu (T:=T) a (by omega)
 simp -implicitDefEqProofs[txA,hz,h0]
end
section
variable{T:Tbl}[CNat T][CProd T][CTwos T][CQuot T][CDigits T]
def stTp(a:List UInt32)(l:List (List UInt8)):St:=⟨[(0,.sl (u32s a) .an),(3,.bs (.loc 3) 1 1 0 l.length)],[((.loc 3),⟨1,.own,1,rowsS l⟩)],3⟩
theorem zq7(l:List (List UInt8))(s:List UInt8):wkL (List.take l.length (rowsS l)++[[AV.s s]])=rowsS (l++[s]):=by
 rw[List.take_of_length_le (by simp),zu3,zwx]
end
section
variable{T:Tbl}[CNat T][CQuot T][CDigits T]
theorem zwy(N:Nat)(hN:N≤4294967295)(L:List (List UInt8)):∀y:List UInt32×List (List UInt8),(y.1.length≤1000∧y.2++pieces (val y.1)=L∧L.length=N) →
  loopN T 0 0 (Gh.norm false [3]) txL (stTp y.1 y.2)=some (.n,⟨[(3,.bs (.loc 3) 1 1 0 L.length)],[((.loc 3),⟨1,.own,1,rowsS L⟩)],3⟩):=by
 refine zaw (fun y:List UInt32×List (List UInt8)=>stTp y.1 y.2) _ (fun y=>val y.1) _ ?_
 rintro⟨a,l⟩ ⟨ha,hL,hn⟩
 simp only at ha hL hn
 have hz:=zfu (T:=T) a (by omega)
 by_cases h0:val a=0
 ·right
  rw[h0,zb2,List.append_nil]at hL
  subst hL
  constructor<;>simp -implicitDefEqProofs[txL,stTp,hz,h0]
 ·left
  have hq:=zlq (T:=T) a 1000000000 (by omega) (by omega) (by omega)
  have hn9:=znf (T:=T) (val a%1000000000) (by omega)
  have hlen:(ofN (val a/1000000000)).length≤a.length:=Nat.le_trans (zar (Nat.div_le_self _ _)) (zae a)
  rw[zch h0]at hL
  have hll:l.length≤4294967295:=by have:=congrArg List.length hL;simp at this;omega
  refine⟨(ofN (val a/1000000000),l++[digK 9 (val a%1000000000)]),⟨by simp only;omega,by simp only[zag,List.append_assoc,List.singleton_append];exact hL,hn⟩,?_,?_,rfl⟩
  ·simp only[zag]
   exact Nat.div_lt_self (Nat.pos_of_ne_zero h0) (by decide)
  ·simp -implicitDefEqProofs[txL,stTp,hz,hq,hn9,h0,hll,zq7]
end
section
variable{T:Tbl}[CNat T][CProd T][CTwos T][CQuot T][CDigits T]
theorem ze2:∀k n,n<1000000000^k→(pieces n).length≤k
 | 0,n,h=>by
  have:n=0:=by omega
  subst this
  simp[zb2]
 | k+1,n,h=>by
  by_cases h0:n=0
  ·subst h0;simp[zb2]
  ·rw[zch h0]
   have:=ze2 k (n/1000000000) (Nat.div_lt_of_lt_mul (by rw[Nat.mul_comm,←Nat.pow_succ];exact h))
   simp only[List.length_cons]
   omega
theorem zmc(a:List UInt32):(pieces (val a)).length≤2*a.length:=by
 refine ze2 _ _ (Nat.lt_of_lt_of_le (za2 a) ?_)
 rw[Nat.pow_mul]
 exact Nat.pow_le_pow_left (by decide) _
theorem znx:∀n,∀s∈pieces n,s.length=9:=by
 intro n
 induction n using Nat.strongRecOn with
 | _ n ih=>
  intro s hs
  by_cases h0:n=0
  ·subst h0;simp[zb2]at hs
  ·rw[zch h0]at hs
   rcases List.mem_cons.1 hs with rfl | hs
   ·exact zef 9 _
   ·exact ih _ (Nat.div_lt_self (Nat.pos_of_ne_zero h0) (by decide)) s hs
theorem zi2:∀(k n:Nat),n≠0→n<10^k→(digK k n).dropWhile (· == 48)=textN n
 | 0,n,h0,h=>by omega
 | k+1,n,h0,h=>by
  rw[zdu]
  by_cases h1:n<10
  ·have e:n/10=0:=by omega
   have e2:n%10=n:=by omega
   have hz:∀j,(digK j 0).dropWhile (· == 48)=[]:=by
    intro j
    induction j with
    | zero=>rfl
    | succ j ih=>rw[zdu,List.dropWhile_append,Nat.zero_div,ih];rfl
   rw[e,e2,List.dropWhile_append,hz,zdd h1]
   have:∀d,d<10→d≠0→List.dropWhile (fun x=>x == 48) [UInt8.ofNat (48+d)]=[UInt8.ofNat (48+d)]:=by decide
   simpa using this n h1 h0
  ·have ih:=zi2 k (n/10) (by omega) (Nat.div_lt_of_lt_mul (by rw[Nat.mul_comm,←Nat.pow_succ];exact h))
   have hne:textN (n/10)≠[]:=by
    unfold textN
    by_cases h2:n/10<10
    ·rw[zix h2];simp
    ·rw[zo3 h2];simp
   rw[List.dropWhile_append,ih,zhf h1]
   rw[if_neg (by simpa using hne)]
theorem zo9(j:Nat):∀(k n:Nat),digK (j+k) n=digK j (n/10^k)++digK k (n%10^k)
 | 0,n=>by simp[zhg]
 | k+1,n=>by
  rw[←Nat.add_assoc,zdu,zo9 j k (n/10),zdu,List.append_assoc]
  have e1:n/10/10^k=n/10^(k+1):=by rw[Nat.div_div_eq_div_mul,Nat.pow_succ,Nat.mul_comm]
  have e2:n/10%10^k=n%10^(k+1)/10:=by rw[Nat.pow_succ,Nat.mul_comm,Nat.mod_mul_right_div_self]
  have e3:n%10^(k+1)%10=n%10:=by rw[Nat.pow_succ,Nat.mod_mul_left_mod]
  rw[e1,e2,e3]
theorem zny:∀n,(pieces n).reverse.flatten=digK (9*(pieces n).length) n:=by
 intro n
 induction n using Nat.strongRecOn with
 | _ n ih=>
  by_cases h0:n=0
  ·subst h0;simp[zb2,zhg]
  ·rw[zch h0,List.reverse_cons,List.flatten_append,ih _ (Nat.div_lt_self (Nat.pos_of_ne_zero h0) (by decide))]
   simp only[List.length_cons,List.flatten_cons,List.flatten_nil,List.append_nil]
   rw[show 9*((pieces (n/1000000000)).length+1)=9*(pieces (n/1000000000)).length+9 by omega,zo9]
theorem zu4:∀n,n<10^(9*(pieces n).length):=by
 intro n
 induction n using Nat.strongRecOn with
 | _ n ih=>
  by_cases h0:n=0
  ·subst h0;simp[zb2]
  ·have h:=ih _ (Nat.div_lt_self (Nat.pos_of_ne_zero h0) (by decide:1<1000000000))
   rw[zch h0,List.length_cons,Nat.mul_add,Nat.pow_add]
   exact(Nat.div_lt_iff_lt_mul (by decide:0<10^(9*1))).1 h
theorem znz(n:Nat)(h:n≠0):((pieces n).reverse.flatten).dropWhile (· == 48)=textN n:=by
 rw[zny]
 exact zi2 _ n h (zu4 n)
theorem zcw:∀(l:List (List UInt8)),(∀s∈l,s.length=9)→l.flatten.length=9*l.length
 | [],_=>rfl
 | s::l,h=>by
  rw[List.flatten_cons,List.length_append,h s List.mem_cons_self,zcw l fun s hs=>h s (List.mem_cons_of_mem _ hs),List.length_cons]
  omega
def stT3(a:List UInt32):St:=⟨[(3,.bs (.loc 3) 1 1 0 0),(3,.sl [] .nl),(10,.b false),(9,.sl (u32s a) .an),(2,.s []),(0,.sl (u32s a) .an)],[(.loc 3,⟨1,.own,1,[]⟩)],2⟩
end
section
variable{T:Tbl}
theorem zadn(a:List UInt32):evX (orc T) T 0 tx3 ⟨[(10,.b false),(9,.sl (u32s a) .an),(2,.s []),(0,.sl (u32s a) .an)],[],1⟩=some (.n,stT3 a):=by
 simp -implicitDefEqProofs[tx3,stT3]
end
section
variable{T:Tbl}[CNat T][CQuot T][CDigits T]
theorem zado(a:List UInt32)(hl:a.length≤1000):evX (orc T) T 0 txP (stT3 a) =
  some (.n,⟨[(3,.bs (.loc 3) 1 1 0 (pieces (val a)).length)],[((.loc 3),⟨1,.own,1,rowsS (pieces (val a))⟩)],3⟩):=by
 have hp:=zmc a
 have h:=zwy (T:=T) (pieces (val a)).length (by omega) (pieces (val a)) (a,[]) ⟨by simpa using hl,rfl,rfl⟩
 unfold stTp at h
 simp[rowsS]at h
 simp -implicitDefEqProofs[stT3,txP,h,rowsS]
end
section
variable{T:Tbl}
theorem zq1(res:List UInt8):∀l:List UInt8,(l.length≤1000000∧l.dropWhile (· == 48)=res) →
  loopN T 0 0 (.norm false [0]) l125_0 ⟨[(0,.s l),(1,u8 48)],[],2⟩=some (.n,⟨[(0,.s res)],[],2⟩):=by
 refine zaw (fun l:List UInt8=>⟨[(0,.s l),(1,u8 48)],[],2⟩) _ (fun l=>l.length) _ ?_
 rintro l ⟨hl,hr⟩
 cases l with
 | nil=>
  right
  simp at hr
  subst hr
  constructor<;>simp -implicitDefEqProofs[l125_0]
 | cons c r=>
  simp only[List.length_cons]at hl
  have h2:(0:Int)<(r.length:Int)+1:=by omega
  have h3:(1:Int)≤(r.length:Int)+1:=by omega
  by_cases hc:c=48
  ·left
   subst hc
   rw[List.dropWhile_cons_of_pos (by decide)]at hr
   exact⟨r,⟨by omega,hr⟩,Nat.lt_succ_self _,by simp -implicitDefEqProofs[l125_0,h2,h3],rfl⟩
  ·right
   rw[List.dropWhile_cons_of_neg (by simpa using hc)]at hr
   subst hr
   have hc':¬ c.toNat=48:=fun h=>hc (UInt8.toNat_inj.1 h)
   constructor<;>simp -implicitDefEqProofs[l125_0,h2,hc']
end
section
variable{T:Tbl}[CTrim T]
theorem zuh(l:List UInt8)(hl:l.length≤1000000):callF T 103 [.s l,.s [48]]=some (.s (l.dropWhile (· == 48))):=by
 have h:=zq1 (T:=T) _ l ⟨hl,rfl⟩
 have h1:callF T 125 [.s l,u8 48]=some (.s (l.dropWhile (· == 48))):=by
  rw[f125 _ rfl,b125]
  simp -implicitDefEqProofs[h]
 obtain⟨Z,hZ⟩:∃Z,b103=(.seq
 (.reg [⟨(some 4),none,.mov (.c (.s []))⟩])
 (.seq
  (.seq
  (.reg [⟨(some 7),none,.mov (.t 0)⟩,
   ⟨(some 8),none,.bin .eql (.t 7) (.c (.s []))⟩,
   ⟨(some 9),none,.mov (.t 8)⟩,
   ⟨(some 10),(some (9,false)),.mov (.t 1)⟩,
   ⟨(some 11),(some (9,false)),.bin .eql (.t 10) (.c (.s []))⟩,
   ⟨(some 12),none,.pick (.t 9) (.c (.b true)) (.t 11)⟩])
  (.cond (.t 12)
   (.seq
   (.reg [⟨(some 13),none,.mov (.t 0)⟩,
    ⟨(some 4),none,.mov (.t 13)⟩])
   (.pre (.norm false [4]) .ret))
   .skip))
  (.seq
  (.seq
   (.reg [⟨(some 14),none,.mov (.t 1)⟩,
    ⟨(some 15),none,.lens (.t 14)⟩,
    ⟨(some 16),none,.bin .eql (.t 15) (.c (.i .i64 1))⟩,
    ⟨(some 17),none,.mov (.t 16)⟩,
    ⟨(some 18),(some (17,true)),.mov (.t 1)⟩,
    ⟨(some 19),(some (17,true)),.ixs (.t 18) (.c (.i .i64 0))⟩,
    ⟨(some 20),(some (17,true)),.bin .lss (.t 19) (.c (u8 128))⟩,
    ⟨(some 21),none,.pick (.t 17) (.t 20) (.c (.b false))⟩])
   (.cond (.t 21)
   (.seq
    (.reg [⟨(some 22),none,.mov (.t 0)⟩,
     ⟨(some 23),none,.mov (.t 1)⟩,
     ⟨(some 24),none,.ixs (.t 23) (.c (.i .i64 0))⟩,
     ⟨(some 25),none,.call 125 [(.t 22),(.t 24)]⟩,
     ⟨(some 4),none,.mov (.t 25)⟩])
    (.pre (.norm false [4]) .ret))
   .skip)) Z)):AX):=⟨_,rfl⟩
 rw[f103 _ rfl,hZ]
 by_cases h0:l=[]
 ·subst h0
  simp -implicitDefEqProofs
 ·simp -implicitDefEqProofs[h0,h1]
end
section
variable{P:Program}{ν:Nat→FuncId}{T:Tbl}
theorem zs9(hT:TOk P ν T)(hm:P.follows .mixedOrders=true){cx:Cx}(hP:cx.P=P)(hk:cx.clk0=1)(c:AX){code:Code}{nt:Nat}(hnt:cx.nt=nt)(hres:resCode P nt code=some (er ν (tyNum T) c)){st:St}{e:Ex}{st':St}
  (h:evX (orc T) T 0 c st=some (e,st')) {a:Act} {w:World} (hr:Rel cx st a w) {K:Exit→Act→World→Prop} (hK:∀a' w',Rel cx st' a' w'→K e.out a' w'):code.wp P K a w:=by
 obtain⟨L,h1,h2⟩:=zbw T 0 c st _ _ h
 obtain⟨n,hn⟩:=zm4 T h1
 have hev:=zaz (GoodO.orcN hT hm n) (k:=0) (cx:=cx) hP hk c st e st' (h2 _ hn)
 subst hP hnt
 refine wp_mono (hev code hres hm a w hr) ?_
 rintro ex a' w' ⟨s,⟨rfl,rfl⟩,hr'⟩
 exact hK a' w' hr'
theorem zta{nt:Nat}{w:World}{S:Nat→Nat→Prop}{cargs:Array Value}{args:List AV}(hl:cargs.size=args.length)(hn:args.length≤nt)
  (hC:∀(j:Nat) (v:Value) (c:AV),cargs[j]? = some v→args[j]? = some c→CP w S v c) (hS:∀k o,S k o→k<w.heap.size) :
  Rel ⟨P,nt,w,S,fun _=>none,1⟩ ⟨argEnv args,[],1⟩ { tmps:=cargs++Array.replicate (nt-cargs.size) undef,defers:=[] } w:=by
 refine⟨S,fun _=>none,by simp;omega,rfl,fun t=>?_,⟨⟨fun b bx hb=>(by simp at hb),fun g m hm=>(by cases hm),fun b bx b' bx' h1=>(by simp at h1),fun g g' k h1=>(by cases h1)⟩,
  Ext.refl _ _ _ _,⟨rfl,rfl,rfl,Nat.le_refl _,fun _ _ _=>rfl⟩,fun k o hs=>.inl hs,hS,fun g k hm=>(by cases hm)⟩⟩
 rw[zh9]
 cases ha:args[t]? with
 | none=>exact .p (.dead _)
 | some x=>
  have htl:=zbl ha
  have hv:cargs[t]? = some (cargs[t]'(by omega)):=Array.getElem?_eq_getElem _
  have e1:(cargs++Array.replicate (nt-cargs.size) undef).getD t undef=cargs[t]'(by omega):=by
   simp only[Array.getD_eq_getD_getElem?]
   rw[Array.getElem?_append_left (by omega),hv]
   rfl
  rw[e1]
  exact .p (hC t _ x hv ha)
theorem Rel.below{nt:Nat}{w0:World}{S:Nat→Nat→Prop}{st:St}{a:Act}{w:World}(h:Rel ⟨P,nt,w0,S,fun _=>none,1⟩ st a w):RowKit.Below w0.heap.size w0 w:=by
 obtain⟨S',M',hr⟩:=h
 exact⟨hr.wr.fr.os,hr.wr.fr.tape,hr.wr.fr.output,hr.wr.fr.size,fun k hk=>hr.wr.fr.block k hk fun⟨g,hg⟩=>(by cases hg)⟩
theorem Rel.strAt{cx:Cx}{st:St}{a:Act}{w:World}(h:Rel cx st a w){t:Nat}{l:List UInt8}(he:st.env.get t=.s l):a.tmps.getD t undef=.string ⟨l.toArray⟩:=by
 obtain⟨S',M',hr⟩:=h
 have:=hr.env t
 rw[he]at this
 generalize a.tmps.getD t undef=v at *
 cases this with
 | p h=>cases h;rfl
theorem Rel.strs{cx:Cx}{st:St}{a:Act}{w:World}(h:Rel cx st a w){t:Nat}{b:BId}{g n:Nat}{ls:List (List UInt8)}(hne:ls≠[])(he:st.env.get t=.bs b g 1 0 n)
  (hb:st.heap.lookup b=some ⟨g,.own,1,ls.map fun s=>[.s s]⟩):∃k arr e cap,a.tmps.getD t undef=.slice (some ⟨k,0,none⟩) n cap∧w.heap[k]? = some (.cells arr e (0,0))∧n≤cap∧cap≤maxLen∧cap≤arr.size ∧
   ∀(i:Nat) (s:List UInt8),ls[i]? = some s→arr[i]? = some (Value.string ⟨s.toArray⟩):=by
 obtain⟨S',M',hr⟩:=h
 have h1:=hr.env t
 rw[he]at h1
 obtain⟨_,_,m,hm,h2⟩:=hr.wr.heap.box b _ hb
 simp only at hm h2
 generalize a.tmps.getD t undef=v at *
 cases h1 with
 | p h=>cases h
 | bs _ _ _ _ _ _ hg hB h1=>
  unfold BsOk at hB
  rw[hm]at hB
  cases m with
  | none=>exact absurd (by simpa using h2.1) hne
  | some k=>
   obtain⟨arr,e,cap,hk,hv,c1,c2,c3⟩:=hB
   obtain⟨arr',e',hk',_,hcells,_⟩:=h2
   rw[hk]at hk'
   cases hk'
   refine⟨k,arr,e,cap,by rw[hv],hk,c1,c2,by omega,fun i s hi=>?_⟩
   obtain⟨u,hu,_,_,hc⟩:=hcells i [.s s] 0 (.s s) (by simp[hi]) rfl
   have:=hc (by simp)
   rw[Nat.mul_one,Nat.add_zero]at hu
   cases this
   exact hu
end
end Go.Ab
section
namespace Go.Proofs.YtfgfjicelfagcaaGreatDoor
open Go Go.Ab Go.RowKit
theorem list_cons{α:Type}{n:Nat}{l:List α}(h:l.length=n+1):∃x t,l=x::t∧t.length=n:=by
 cases l with
 | nil=>simp at h
 | cons x t=>exact⟨x,t,rfl,by simpa using h⟩
set_option maxHeartbeats 2000000 in
set_option maxRecDepth 100000 in
theorem text_calls(hm:Tryz.prog.follows .mixedOrders=true)(a:List UInt32)(hl:a.length≤1000){w0:World}{S:Nat→Nat→Prop}{cargs:Array Value}(hsz:cargs.size=1)
  (hC:∀(j:Nat) (v:Value) (c:AV),cargs[j]? = some v→[AV.sl (u32s a) .an][j]? = some c→CP w0 S v c) (hS:∀k o,S k o→k<w0.heap.size) :
  Calls Tryz.prog 93 cargs w0 fun e w'=>e=.returned (.string ⟨(textN (val a)).toArray⟩)∧Below w0.heap.size w0 w':=by
 refine calls_of_wp Tryz.func93 rfl ?_
 have h0:=zta (P:=Tryz.prog) (nt:=40) (w:=w0) (S:=S) (cargs:=cargs) (args:=[AV.sl (u32s a) .an]) (by simpa using hsz) (by simp) hC hS
 refine wp_seq (zs9 sTab_ok hm (cx:=⟨Tryz.prog,40,w0,S,fun _=>none,1⟩) rfl rfl tx0 (nt:=40) rfl (by kernel_rfl) (sTab_part.ev (by kernel_rfl) (zadm (T:=tab) _)) h0 fun a1 w1 h1=>?_)
 refine wp_seq ?_
 by_cases hz:val a=0
 ·refine zs9 sTab_ok hm (cx:=⟨Tryz.prog,40,w0,S,fun _=>none,1⟩) rfl rfl txA (nt:=40) rfl (by kernel_rfl) (sTab_part.ev (by kernel_rfl) (z5b (T:=tab) a hl hz)) h1 fun a2 w2 h2=>?_
  have hv:=h2.strAt (t:=2) (l:=[48]) rfl
  have hb:=h2.below
  have ht:textN (val a)=[48]:=by rw[hz];exact zdd (by decide)
  obtain⟨_,_,hr2⟩:=h2
  refine(show bodyPost Tryz.prog Tryz.f93 (fun e w'=>e=.returned (.string ⟨(textN (val a)).toArray⟩)∧Below w0.heap.size w0 w') .ret a2 w2 from ?_)
  refine⟨hr2.defers,.string ⟨[48].toArray⟩,?_,by rw[ht],hb⟩
  rw[←hv]
  exact results_tmp rfl _ _ _
 ·refine zs9 sTab_ok hm (cx:=⟨Tryz.prog,40,w0,S,fun _=>none,1⟩) rfl rfl txA (nt:=40) rfl (by kernel_rfl) (sTab_part.ev (by kernel_rfl) (z5c (T:=tab) a hl hz)) h1 fun a2 w2 h2=>?_
  refine wp_seq (zs9 sTab_ok hm (cx:=⟨Tryz.prog,40,w0,S,fun _=>none,1⟩) rfl rfl tx3 (nt:=40) rfl (by kernel_rfl) (sTab_part.ev (by kernel_rfl) (zadn (T:=tab) a)) h2 fun a3 w3 h3=>?_)
  refine wp_seq (zs9 sTab_ok hm (cx:=⟨Tryz.prog,40,w0,S,fun _=>none,1⟩) rfl rfl txP (nt:=40) rfl (by kernel_rfl) (sTab_part.ev (by kernel_rfl) (zado (T:=tab) a hl)) h3 fun a4 w4 h4=>?_)
  have hb4:=h4.below
  have hne:pieces (val a)≠[]:=by rw[zch hz];simp
  obtain⟨k,arr,e,cap,hv,hk,hc1,hc2,hc3,hcells⟩:=h4.strs (t:=3) (ls:=pieces (val a)) hne rfl (by simp[rowsS])
  obtain⟨_,_,hr4⟩:=h4
  have hdf:=hr4.defers
  have hsz:=hr4.size
  have hpl:=zmc a
  clear hr4 h0 h1 h2 h3
  change Code.wp _ _ _ a4 w4
  obtain⟨tm,df⟩:=a4
  obtain⟨l,rfl⟩:∃l:List Value,tm=l.toArray:=⟨tm.toList,by simp⟩
  simp only[List.size_toArray]at hsz
  simp only at hdf
  subst hdf
  obtain⟨x0,l0,rfl,s0⟩:=list_cons hsz
  obtain⟨x1,l1,rfl,s1⟩:=list_cons s0
  obtain⟨x2,l2,rfl,s2⟩:=list_cons s1
  obtain⟨x3,l3,rfl,s3⟩:=list_cons s2
  obtain⟨x4,l4,rfl,s4⟩:=list_cons s3
  obtain⟨x5,l5,rfl,s5⟩:=list_cons s4
  obtain⟨x6,l6,rfl,s6⟩:=list_cons s5
  obtain⟨x7,l7,rfl,s7⟩:=list_cons s6
  obtain⟨x8,l8,rfl,s8⟩:=list_cons s7
  obtain⟨x9,l9,rfl,s9⟩:=list_cons s8
  obtain⟨x10,l10,rfl,s10⟩:=list_cons s9
  obtain⟨x11,l11,rfl,s11⟩:=list_cons s10
  obtain⟨x12,l12,rfl,s12⟩:=list_cons s11
  obtain⟨x13,l13,rfl,s13⟩:=list_cons s12
  obtain⟨x14,l14,rfl,s14⟩:=list_cons s13
  obtain⟨x15,l15,rfl,s15⟩:=list_cons s14
  obtain⟨x16,l16,rfl,s16⟩:=list_cons s15
  obtain⟨x17,l17,rfl,s17⟩:=list_cons s16
  obtain⟨x18,l18,rfl,s18⟩:=list_cons s17
  obtain⟨x19,l19,rfl,s19⟩:=list_cons s18
  obtain⟨x20,l20,rfl,s20⟩:=list_cons s19
  obtain⟨x21,l21,rfl,s21⟩:=list_cons s20
  obtain⟨x22,l22,rfl,s22⟩:=list_cons s21
  obtain⟨x23,l23,rfl,s23⟩:=list_cons s22
  obtain⟨x24,l24,rfl,s24⟩:=list_cons s23
  obtain⟨x25,l25,rfl,s25⟩:=list_cons s24
  obtain⟨x26,l26,rfl,s26⟩:=list_cons s25
  obtain⟨x27,l27,rfl,s27⟩:=list_cons s26
  obtain⟨x28,l28,rfl,s28⟩:=list_cons s27
  obtain⟨x29,l29,rfl,s29⟩:=list_cons s28
  obtain⟨x30,l30,rfl,s30⟩:=list_cons s29
  obtain⟨x31,l31,rfl,s31⟩:=list_cons s30
  obtain⟨x32,l32,rfl,s32⟩:=list_cons s31
  obtain⟨x33,l33,rfl,s33⟩:=list_cons s32
  obtain⟨x34,l34,rfl,s34⟩:=list_cons s33
  obtain⟨x35,l35,rfl,s35⟩:=list_cons s34
  obtain⟨x36,l36,rfl,s36⟩:=list_cons s35
  obtain⟨x37,l37,rfl,s37⟩:=list_cons s36
  obtain⟨x38,l38,rfl,s38⟩:=list_cons s37
  obtain⟨x39,l39,rfl,s39⟩:=list_cons s38
  cases List.eq_nil_of_length_eq_zero s39
  have hx3:x3=.slice (some ⟨k,0,none⟩) (pieces (val a)).length cap:=hv
  subst hx3
  have hjoin:=znz (val a) hz
  have hall:=znx (val a)
  generalize pieces (val a)=ps at *
  have HC:Aside (∀(i:Nat) (s:List UInt8),ps[i]? = some s→arr[i]? = some (Value.string ⟨s.toArray⟩)):=hcells
  have HJ:Aside (List.dropWhile (fun x=>x == 48) ps.reverse.flatten=textN (val a)):=hjoin
  have HN:Aside (∀s∈ps,s.length=9):=hall
  have HB:Aside (Below w0.heap.size w0 w4):=hb4
  have HK:Aside (w4.heap[k]? = some (.cells arr e (0,0))):=hk
  have hk4:k<w4.heap.size:=by
   rcases Nat.lt_or_ge k w4.heap.size with h' | h'
   ·exact h'
   ·simp[Array.getElem?_eq_none h']at hk
  clear hcells hjoin hall hb4 hk
  go_wp2
  go_loopg [8] ps.length (fun g s8 wx=>s8=.int .i64 ((g:Int)-1)∧g≤ps.length∧Aside (Lib.IsBuilder 181 5 w4.heap.size w4.heap.size (Lib.byteCells (ps.drop g).reverse.flatten) wx∧Below w4.heap.size w4 wx))
  case atStart=>exact⟨rfl,Nat.le_refl _,by rw[List.drop_length];exact Lib.fresh_isBuilder 181 5 w4,(Below.refl _ _).alloc (Nat.le_refl _) _⟩
  case round=>
   obtain⟨rfl,hg,HW⟩:=hrel
   cases gk with
   | zero=>
    obtain⟨hBld,hBel⟩:=HW.out
    rw[List.drop_zero]at hBld
    have hne':ps.reverse.flatten≠[]:=by
     intro h
     have:=zcw ps.reverse (fun s hs=>HN.out s (List.mem_reverse.1 hs))
     rw[h]at this
     simp at this
     exact hne (List.eq_nil_of_length_eq_zero (by omega))
    have HT:Aside (ps.reverse.flatten≠[]):=hne'
    clear hne'
    have hlenF:ps.reverse.flatten.length≤1000000:=by
     rw[zcw ps.reverse (fun s hs=>HN.out s (List.mem_reverse.1 hs)),List.length_reverse]
     omega
    have hT:∀W:World,Calls Tryz.prog 120 #[.string ⟨ps.reverse.flatten.toArray⟩,.string ⟨#[48]⟩] W fun e w'=>e=.returned (.string ⟨(textN (val a)).toArray⟩)∧Below W.heap.size W w':=by
     intro W
     have h1:=zgx sTab_ok hm (u:=103) rfl rfl (sTab_part.call (by kernel_rfl) (zuh (T:=tab) ps.reverse.flatten hlenF))
     rw[HJ.out]at h1
     refine(h1.2 W (fun _ _=>False) #[.string ⟨ps.reverse.flatten.toArray⟩,.string ⟨#[48]⟩] rfl (fun j v c hv hc=>?_) (fun _ _ h=>h.elim)).mono ?_
     ·match j,hv,hc with
      | 0,hv,hc=>cases hv;cases hc;exact .s _
      | 1,hv,hc=>cases hv;cases hc;exact .s _
     ·rintro e w' ⟨v,r,rfl,rfl,hb,hc⟩
      cases hc
      exact⟨rfl,hb⟩
    have HTT:=hT
    clear hT
    go_wp2_with (go_at_call 121;refine(Tryz.bString w4.heap.size w4.heap.size ps.reverse.flatten wr hBld HT.out).mono ?_)
    rintro e1 w5 ⟨rfl,hb5⟩
    go_wp2_with (go_at_call 120;refine(HTT w5).mono ?_)
    rintro e2 w6 ⟨rfl,hb6⟩
    go_wp2
    go_ret
    refine⟨rfl,?_⟩
    have hs1:=HB.out.size
    have hs5:=(hBel.trans hb5).size
    exact HB.out.trans (((hBel.trans hb5).mono hs1).trans (hb6.mono (by omega)))
   | succ j=>
    obtain⟨hBld,hBel⟩:=HW.out
    obtain⟨s,hs⟩:∃s,ps[j]? = some s:=⟨_,List.getElem?_eq_getElem (by omega)⟩
    have hcell:wr.cell? ⟨k,j,none⟩=some (.string ⟨s.toArray⟩):=by
     rw[hBel.cell (p:=⟨k,j,none⟩) hk4,Lib.cell_of_heap HK.out]
     exact HC.out j s hs
    have hs9:s.length=9:=HN.out s (List.mem_of_getElem? hs)
    have hflen:=zcw (ps.drop (j+1)).reverse (fun s hs=>HN.out s (List.mem_of_mem_drop (List.mem_reverse.1 hs)))
    have HS:Aside (ps[j]? = some s):=hs
    clear hs
    rw[List.length_reverse,List.length_drop]at hflen
    have hbound:(Lib.byteCells (ps.drop (j+1)).reverse.flatten).length+(⟨s.toArray⟩:ByteArray).size≤140737488355328:=by
     rw[Lib.byteCells_length,hflen]
     show _+s.toArray.size≤_
     simp only[List.size_toArray]
     omega
    have HF:Aside ((Lib.byteCells (ps.drop (j+1)).reverse.flatten).length+(⟨s.toArray⟩:ByteArray).size≤140737488355328):=hbound
    clear hflen hbound
    go_wp2_with (go_at_call 119;refine(Tryz.bWrite w4.heap.size w4.heap.size _ ⟨s.toArray⟩ wr hBld HF.out hBel.size).mono ?_)
    rintro e1 w5 ⟨rfl,h5,hb5⟩
    go_wp2
    go_roundg j
    case measure=>omega
    case rel=>
     refine⟨by congr 1,by omega,?_,hBel.trans hb5⟩
     have e1:(ps.drop j).reverse.flatten=(ps.drop (j+1)).reverse.flatten++s:=by
      obtain⟨hj,he⟩:=List.getElem?_eq_some_iff.1 HS.out
      rw[List.drop_eq_getElem_cons hj,he]
      simp
     rw[e1,Lib.byteCells_append]
     exact .inr h5
theorem word_rows:∀(els:List (List AV)) (l:List UInt32),els.mapM wordOf=some l→els=u32s l
 | [],l,h=>by cases h;rfl
 | r::els,l,h=>by
  rw[List.mapM_cons]at h
  obtain⟨x,hx,h1⟩:=bind_some h
  obtain⟨y,hy,h2⟩:=bind_some h1
  cases h2
  rw[word_rows els y hy]
  unfold wordOf at hx
  split at hx
  ·split at hx
   ·cases hx
    rename_i n hn
    have:(w32 n.toNat).toNat=n.toNat:=zad (by omega)
    simp only[u32s,List.map_cons,this,u32]
    rw[Int.toNat_of_nonneg hn.1]
   ·cases hx
  ·cases hx
theorem text_ok(hm:Tryz.prog.follows .mixedOrders=true):∀xs r,prim68 xs=some r→PCall Tryz.prog (nu 68) xs (·=r):=by
 intro xs r h
 unfold prim68 at h
 split at h
 ·split at h
  ·rename_i els hl
   cases hw:els.mapM wordOf with
   | none=>rw[hw]at h;cases h
   | some l=>
    rw[hw]at h
    cases h
    have he:=word_rows els l hw
    subst he
    rw[zgy]at hl
    refine⟨enters_of Tryz.func93 (by kernel_rfl) rfl,fun w S cargs hsz hC hS=>?_⟩
    refine(text_calls hm l hl (by simpa using hsz) hC hS).mono ?_
    rintro e w' ⟨rfl,hb⟩
    exact⟨_,_,rfl,rfl,hb,.s _⟩
  ·cases h
 ·cases h
#print axioms text_ok
end Go.Proofs.YtfgfjicelfagcaaGreatDoor
end
namespace Go.Ab
section
open Go.ChangeShapes Go.WideShapes Go.ChangeAt Go.RowKit
theorem zi8{H:Type}{enc:TypeId×Value→H}{P:Program}{f:Func}{s:ChangeSpec}{apart fresh handsOn again:Bool}{W W':World}{args:Array Value}{v:Value}{ds gs:List (DataW H)}{before pa pv:List MemPlace}
  (hW:DataW.Whole enc P f.params.toList s.vars apart W args.toList ds gs before)
  (hres:∀(b:Nat) (sp:Nat→Bool) (hd:Bool),DataW.TrodAll enc P W' b sp hd f.resultTypes.toList (v.resultList f.resultTypes.size) (s.fn H (ds++gs)).results [])
  (hargs:∀sp:Nat→Bool,(∀p∈before,sp p.block=true)→DataW.TrodAll enc P W' 0 sp true f.params.toList args.toList (s.fn H (ds++gs)).args pa)
  (hvars:∀sp:Nat→Bool,(∀p∈before,sp p.block=true)→DataW.TrodVars enc P W' sp s.vars (s.fn H (ds++gs)).vars pv)
  (hps:before=pa++pv) (hw:Below W.heap.size W W')
  (hok:∀(j:Nat) (t:TypeId) (r:Value),f.resultTypes[j]? = some t→(v.resultList f.resultTypes.size)[j]? = some r→Value.okWide P W' .any 0 t r) :
  s.post enc P f apart fresh handsOn again W args v W':=by
 have hold:∀p∈before,(fun b=>decide (b<W.heap.size)) p.block=true:=fun p hp=>by simpa using hW.lt p hp
 have hlt:∀p∈before,p.block<W.heap.size:=fun p hp=>hW.lt p hp
 refine⟨ds,gs,before,[],pa,pv,hW,hres _ _ _,hargs _ hold,hvars _ hold,World.keptBut_mono (fun p hp=>⟨hp,?_⟩) (hw.frame (·∈before)),fun _=>?_⟩
 ·grind
 ·obtain⟨_,_,_,_,_,hz,hn⟩:=hW
  refine⟨hok,_,_,([]++pa)++pv,⟨[]++pa,pv,trodAll_append (hargs _ (fun _ _=>rfl)) (hres _ _ _),hvars _ (fun _ _=>rfl),rfl,?_,?_⟩,?_⟩
  ·intro b off hp
   have hp':MemPlace.cell b off∈before:=by grind
   rw[hw.frozen (p:=⟨b,off,none⟩) (hlt _ hp')]
   exact hz b off hp'
  all_goals grind
end
section
open Go.ChangeShapes Go.WideShapes Go.ChangeAt Go.RowKit
inductive Ty where
 | int (k:IntKind)
 | bool
 | str
 | sl (r:Ty)
 | nil
 | cons (a:Ty) (r:Ty)
def Ty.z:Ty→Nat
 | .nil=>0
 | .cons a r=>a.z+r.z
 | _=>1
def Ok:Ty→List AV→Prop
 | .int k,cs=>∃n,cs=[.i k n]∧(Lit.int k n).wf=true
 | .bool,cs=>∃b,cs=[.b b]
 | .str,cs=>∃l,cs=[.s l]∧l.length≤maxLen
 | .sl r,cs=>∃els f,cs=[.sl els f]∧els.length≤maxLen∧(f=.nl∧els=[]∨f=.so)∧∀row∈els,Ok r row
 | .nil,cs=>cs=[]
 | .cons a r,cs=>∃c1 c2,cs=c1++c2∧Ok a c1∧Ok r c2
theorem Ok.len:∀{ty:Ty} {cs:List AV},Ok ty cs→cs.length=ty.z
 | .int _,_,⟨_,h,_⟩=>by rw[h];rfl
 | .bool,_,⟨_,h⟩=>by rw[h];rfl
 | .str,_,⟨_,h,_⟩=>by rw[h];rfl
 | .sl _,_,⟨_,_,h,_⟩=>by rw[h];rfl
 | .nil,_,h=>by rw[show _=[] from h];rfl
 | .cons _ _,_,⟨_,_,h,h1,h2⟩=>by rw[h,List.length_append,h1.len,h2.len];rfl
def RowC(w:World)(S:Nat→Nat→Prop)(cs:List Value)(xs:List AV):Prop:=
 xs.length=cs.length∧∀(j:Nat) (v:Value) (c:AV),cs[j]? = some v→xs[j]? = some c→CP w S v c∧v.oneCell'=true
section
variable{H:Type}{enc:TypeId×Value→H}{P:Program}{w:World}{base:Nat}{held:Bool}{S:Nat→Nat→Prop}
theorem RowC.nil:RowC w S [] []:=⟨rfl,fun j v c h=>by grind⟩
theorem RowC.one{v:Value}{c:AV}(h:CP w S v c)(h1:v.oneCell'=true):RowC w S [v] [c]:=by
 refine⟨rfl,fun j v' c' hv hc=>?_⟩
 grind
theorem RowC.append{cs cs':List Value}{xs xs':List AV}(h:RowC w S cs xs)(h':RowC w S cs' xs'):RowC w S (cs++cs') (xs++xs'):=by
 refine⟨by rw[List.length_append,List.length_append,h.1,h'.1],fun j v c hv hc=>?_⟩
 by_cases hj:j<cs.length
 ·rw[List.getElem?_append_left hj]at hv
  rw[List.getElem?_append_left (by rw[h.1];omega)]at hc
  exact h.2 j v c hv hc
 ·rw[List.getElem?_append_right (by omega)]at hv
  rw[List.getElem?_append_right (by rw[h.1];omega),h.1]at hc
  exact h'.2 _ v c hv hc
def fieldsTy(P:Program)(g:TypeId→Option Ty)(tot:Nat):Nat→List Field→Option Ty
 | off,[]=>if off=tot then some .nil else none
 | off,f::fs=>(g f.type).bind fun a=>if f.offset=off∧a.z=P.cellsOf f.type then (fieldsTy P g tot (off+a.z) fs).map (.cons a) else none
def repTy:Nat→Ty→Ty
 | 0,_=>.nil
 | n+1,a=>.cons a (repTy n a)
def tyOf(P:Program):Nat→TypeId→Option Ty
 | 0,_=>none
 | n+1,t=>
  match P.underlying t with
  | some .bool=>some .bool
  | some (.int k)=>some (.int k)
  | some .string=>some .str
  | some (.slice e)=>(tyOf P n e).bind fun r=>if r.z=P.cellsOf e∧0<r.z then some (.sl r) else none
  | some (.struct fs)=>fieldsTy P (tyOf P n) (P.cellsOf t) 0 fs.toList
  | some (.array k e)=>(tyOf P n e).bind fun a=>if a.z=P.cellsOf e∧k*a.z=P.cellsOf t then some (repTy k a) else none
  | _=>none
theorem zry{α:Type}{Q:Nat→α→Prop}:∀(n:Nat),(∀i,i<n→∃x,Q i x)→∃l:List α,l.length=n∧∀i x,l[i]? = some x→Q i x
 | 0,_=>⟨[],rfl,fun i x h=>by grind⟩
 | n+1,h=>by
  obtain⟨l,hl,hq⟩:=zry n fun i hi=>h i (by omega)
  obtain⟨x,hx⟩:=h n (by omega)
  refine⟨l++[x],by grind,fun i y hy=>?_⟩
  grind
def Places(S:Nat→Nat→Prop)(ps:List MemPlace):Prop:=∀k o,MemPlace.cell k o∈ps→S k o
theorem zga{n:Nat}{g:TypeId→Option Ty}{cs:List Value}
  (ih:∀t cs x ty,DataW.trod enc P w base (fun _=>true) held n t cs=some x→g t=some ty→Places S x.2→∃xs,Ok ty xs∧RowC w S cs xs) :
  ∀(fs:List Field) (off:Nat) (ty:Ty) (ys:List (DataW H×List MemPlace)),
   ys.length=fs.length→(∀(i:Nat) (f:Field),fs[i]? = some f→DataW.trod enc P w base (fun _=>true) held n f.type ((cs.drop f.offset).take (P.cellsOf f.type))=ys[i]?) →
   fieldsTy P g cs.length off fs=some ty→Places S (ys.flatMap (·.2))→∃xs,Ok ty xs∧RowC w S (cs.drop off) xs
 | [],off,ty,ys,hl,hm,ht,hp=>by
  simp only[fieldsTy]at ht
  split at ht<;>cases ht
  rename_i ho
  exact⟨[],rfl,by rw[ho,List.drop_length];exact RowC.nil⟩
 | f::fs,off,ty,[],hl,hm,ht,hp=>by grind
 | f::fs,off,ty,y::ys1,hl,hm,ht,hp=>by
  obtain⟨a,ha,ht1⟩:=bind_some ht
  split at ht1
  ·rename_i hc
   obtain⟨ho,hz⟩:=hc
   obtain⟨r,hr,rfl⟩:=map_some ht1
   have hy:=hm 0 f rfl
   rw[ho,←hz]at hy
   obtain⟨xs1,ho1,hr1⟩:=ih _ _ _ _ hy ha fun k o h=>hp k o (by grind)
   obtain⟨xs2,ho2,hr2⟩:=zga ih fs _ r ys1 (by grind) (fun i f' hf=>by simpa using hm (i+1) f' (by grind)) hr fun k o h=>hp k o (by
    grind)
   refine⟨xs1++xs2,⟨xs1,xs2,rfl,ho1,ho2⟩,?_⟩
   have e:cs.drop off=(cs.drop off).take a.z++cs.drop (off+a.z):=by rw[←List.drop_drop,List.take_append_drop]
   rw[e]
   exact hr1.append hr2
  grind
theorem zia{n:Nat}{e:TypeId}{r:Ty}(ih:∀cs x,DataW.trod enc P w base (fun _=>true) held n e cs=some x→Places S x.2→∃xs,Ok r xs∧RowC w S cs xs) :
  ∀(k:Nat) (cs:List Value) (ys:List (DataW H×List MemPlace)),ys.length=k→cs.length=k*r.z →
   (∀(i:Nat),i<k→DataW.trod enc P w base (fun _=>true) held n e ((cs.drop (i*r.z)).take r.z)=ys[i]?)→Places S (ys.flatMap (·.2))→∃xs,Ok (repTy k r) xs∧RowC w S cs xs
 | 0,cs,ys,hl,hc,hm,hp=>by
  rw[Nat.zero_mul,List.length_eq_zero_iff]at hc
  subst hc
  exact⟨[],rfl,RowC.nil⟩
 | k+1,cs,[],hl,hc,hm,hp=>by grind
 | k+1,cs,y::ys,hl,hc,hm,hp=>by
  have hy:=hm 0 (by omega)
  rw[Nat.zero_mul,List.drop_zero]at hy
  obtain⟨xs1,ho1,hr1⟩:=ih _ _ hy fun k o h=>hp k o (by grind)
  obtain⟨xs2,ho2,hr2⟩:=zia ih k (cs.drop r.z) ys (by grind) (by grind) (fun i hi=>by
   grind[List.drop_drop]) fun k o h=>hp k o (by
    grind)
  refine⟨xs1++xs2,⟨xs1,xs2,rfl,ho1,ho2⟩,?_⟩
  have e:cs=cs.take r.z++cs.drop r.z:=(List.take_append_drop ..).symm
  rw[e]
  exact hr1.append hr2
theorem zoh{a:Addr}{m z:Nat}{cs:List Value}(h:w.cells? base (a.add m) z=some cs)(j:Nat)(hj:j<z):w.cell? ((a.add m).add j)=cs[j]? := (World.cells?_some h).2.2 j hj
theorem zrz{a:Addr}{v:Value}(h:w.cell? a=some v):a.spot=none:=by
 unfold World.cell? at h
 split at h
 all_goals simp_all
theorem zeo:∀(n m:Nat) (t:TypeId) (cs:List Value) (x:DataW H×List MemPlace) (ty:Ty),
  DataW.trod enc P w base (fun _=>true) held n t cs=some x→tyOf P m t=some ty→Places S x.2→∃xs,Ok ty xs∧RowC w S cs xs
 | 0,_,_,_,_,_,h,_,_=>by simp[DataW.trod]at h
 | n+1,0,_,_,_,_,_,ht,_=>by simp[tyOf]at ht
 | n+1,m+1,t,cs,x,ty,h,ht,hp=>by
  simp only[tyOf]at ht
  split at ht
  ·rename_i hu
   cases ht
   obtain⟨b,rfl,rfl⟩:=DataW.trod_bool hu h
   exact⟨[.b b],⟨b,rfl⟩,RowC.one (.b b) rfl⟩
  ·rename_i k hu
   cases ht
   obtain⟨z,rfl,rfl,hw⟩:=DataW.trod_int hu h
   exact⟨[.i k z],⟨z,rfl,hw⟩,RowC.one (.i k z) rfl⟩
  ·rename_i hu
   cases ht
   obtain⟨s,rfl,rfl,hs⟩:=DataW.trod_string hu h
   exact⟨[.s s.data.toList],⟨_,rfl,by simp_all⟩,RowC.one (.s s.data.toList) rfl⟩
  ·rename_i e hu
   obtain⟨r,hr,ht1⟩:=bind_some ht
   split at ht1
   ·rename_i hz
    cases ht1
    obtain⟨hz,hzp⟩:=hz
    rcases DataW.trod_slice hu h with ⟨rfl,rfl⟩ | ⟨a,len,cap,elems,rest,n',hn',rfl,rfl,hb,hl,hmx,hlen,hel,hsp,hns⟩
    ·exact⟨[.sl [] .nl],⟨[],.nl,rfl,Nat.zero_le _,.inl ⟨rfl,rfl⟩,fun row h=>by grind⟩,RowC.one (.slnil _ (.inl rfl)) rfl⟩
    ·obtain⟨hrl,hrest⟩:=hsp rfl
     have hall:∀i,i<cap→∃y cs',y∈elems++rest∧w.cells? base (a.add (i*P.cellsOf e)) (P.cellsOf e)=some cs'∧DataW.trod enc P w base (fun _=>true) held n e cs'=some y:=by
      intro i hi
      by_cases hil:i<len
      ·have h1:=hel i hil
       rw[List.getElem?_eq_getElem (by omega)]at h1
       obtain⟨cs',h2,h3⟩:=bind_some h1
       grind
      ·have h1:=hrest (i-len) (by omega)
       rw[List.getElem?_eq_getElem (by omega),show len+(i-len)=i by omega]at h1
       obtain⟨cs',h2,h3⟩:=bind_some h1
       grind
     by_cases hcap:cap=0
     ·have hl0:len=0:=by omega
      subst hcap
      subst hl0
      exact⟨[.sl [] .so],⟨[],.so,rfl,Nat.zero_le _,.inr rfl,fun row h=>by grind⟩,RowC.one (.slz a _ (.inl rfl)) rfl⟩
     ·have hspot:a.spot=none:=by
       obtain⟨y,cs',_,h2,_⟩:=hall 0 (by omega)
       have h3:=zoh h2 0 (by omega)
       grind[World.cells?_some,zrz,Addr.add]
      obtain⟨blk,off,sp⟩:=a
      have hrows:∀i,i<len→∃xs,Ok r xs∧∃cs',w.cells? base ((⟨blk,off,none⟩:Addr).add (i*P.cellsOf e)) (P.cellsOf e)=some cs'∧RowC w S cs' xs:=by
       intro i hi
       obtain⟨y,cs',hy,h2,h3⟩:=hall i (by omega)
       obtain⟨xs,ho,hrc⟩:=zeo n m e cs' y r h3 hr fun k o hk=>hp k o (by
        grind)
       grind
      obtain⟨els,hels,hq⟩:=zry len hrows
      refine⟨[.sl els .so],⟨els,.so,rfl,by omega,.inr rfl,fun row hrow=>?_⟩,RowC.one ?_ rfl⟩
      ·grind[List.getElem?_of_mem]
      ·have hcell:∀i j,i<els.length→j<r.z→∃v,w.cell? ⟨blk,off+i*r.z+j,none⟩=some v∧v.oneCell'=true∧∀row c,els[i]? = some row→row[j]? = some c→CP w S v c:=by
        intro i j hi hj
        obtain⟨ho,cs',h2,hrc⟩:=hq i _ (List.getElem?_eq_getElem hi)
        have h3:=zoh h2 j (by omega)
        have h4:=(World.cells?_some h2).2.1
        rw[za7,za7,←hz,List.getElem?_eq_getElem (by omega)]at h3
        have hlr:=ho.len
        have h5:=hrc.2 j _ _ (List.getElem?_eq_getElem (by omega)) (List.getElem?_eq_getElem (by omega))
        grind
       have hS:∀i j,i<els.length→j<r.z→S blk (off+i*r.z+j):=by
        intro i j hi hj
        refine hp _ _ ?_
        rw[List.mem_append]
        left
        unfold MemPlace.row
        rw[List.mem_map]
        refine⟨i*r.z+j,?_,by rw[Nat.add_assoc]⟩
        have h1:(i+1)*r.z≤(elems.length+rest.length)*r.z:=Nat.mul_le_mul_right _ (by omega)
        grind
       have:=CP.sl (w:=w) (S:=S) blk off r.z cap els .so (fun i j=>(w.cell? ⟨blk,off+i*r.z+j,none⟩).getD undef) (by simp) (by simp) (by omega) hmx
        (fun i row hrow=>(hq i row hrow).1.len) (fun i j hi hj=>?_) (fun i row j c hrow hc=>?_)
       ·grind
       ·grind
       ·have hi:=(List.getElem?_eq_some_iff.1 hrow).1
        have hj:=(List.getElem?_eq_some_iff.1 hc).1
        rw[(hq i row hrow).1.len]at hj
        grind
   grind
  ·rename_i fs hu
   obtain⟨xs,n',hn',rfl,hcl,hxl,hx⟩:=DataW.trod_struct hu h
   cases hn'
   rw[←hcl]at ht
   have:=zga (S:=S) (g:=tyOf P m) (cs:=cs) (n:=n) (fun t cs x ty h1 h2 h3=>zeo n m t cs x ty h1 h2 h3) fs.toList 0 ty xs (by omega) (fun i f hf=>hx i f (by grind)) ht hp
   grind
  ·rename_i k e hu
   obtain⟨r,hr,ht1⟩:=bind_some ht
   split at ht1
   ·rename_i hz
    cases ht1
    obtain⟨hz,hzt⟩:=hz
    obtain⟨xs,n',hn',rfl,hcl,hxl,hx⟩:=DataW.trod_array hu h
    cases hn'
    rw[←hz]at hx
    exact zia (S:=S) (n:=n) (e:=e) (r:=r) (fun cs x h1 h3=>zeo n m e cs x r h1 hr h3) k cs xs hxl (by omega) hx hp
   grind
  grind
end
end
section
open Go.ChangeShapes Go.WideShapes Go.ChangeAt Go.RowKit
def isAgg(P:Program)(t:TypeId):Bool:=match P.underlying t with | some (.struct _)=>true | some (.array _ _)=>true | _=>false
def tysOf(P:Program)(m:Nat):List TypeId→Option (List (Bool×Ty))
 | []=>some []
 | t::ts=>(tyOf P m t).bind fun a=>(tysOf P m ts).map fun r=>(isAgg P t,a)::r
def OkArg:Bool×Ty→AV→Prop
 | (true,ty),x=>∃cs,x=.agg cs∧Ok ty cs
 | (false,ty),x=>Ok ty [x]
def OkArgs:List (Bool×Ty)→List AV→Prop
 | [],xs=>xs=[]
 | a::r,xs=>∃x ys,xs=x::ys∧OkArg a x∧OkArgs r ys
section
variable{H:Type}{enc:TypeId×Value→H}{P:Program}{w:World}{S:Nat→Nat→Prop}
theorem zvk{m:Nat}{t:TypeId}{v:Value}{d:DataW H}{p:List MemPlace}{ty:Ty}{base:Nat}(hA:DataW.Trod enc P w 0 (fun _=>true) true t v d p)(hT:tyOf P m t=some ty)
  (hval:Value.okWide P w .any base t v) (hp:Places S p):∃x,OkArg (isAgg P t,ty) x∧CP w S v x:=by
 obtain⟨fuel,hf⟩:=hA
 obtain⟨xs,ho,hrc⟩:=zeo (S:=S) fuel m t _ _ ty hf hT hp
 have hlen:=ho.len
 cases hu:P.underlying t with
 | none=>cases m<;>simp[tyOf,hu]at hT
 | some desc=>
  have one:∀(hag:isAgg P t=false) (hz:ty.z=1) (hv:v.cells=#[v]),∃x,OkArg (isAgg P t,ty) x∧CP w S v x:=by
   intro hag hz hv
   rw[hag]
   match xs,hlen with
   | [x],_=>
    refine⟨x,ho,?_⟩
    have:=hrc.2 0 v x (by grind) rfl
    grind
   | [],h=>grind
   | _::_::_,h=>grind
  cases m with
  | zero=>simp[tyOf]at hT
  | succ m=>
  cases desc<;>simp only[tyOf,hu]at hT<;>try (cases hT;done)
  case struct fs=>
   have hag:isAgg P t=true:=by simp[isAgg,hu]
   rw[hag]
   unfold Value.okWide at hval
   rw[hu]at hval
   obtain⟨cs,rfl,hcs,_⟩:=hval
   refine⟨.agg xs,⟨xs,rfl,ho⟩,.agg cs xs ?_ ?_ ?_⟩
   ·have:=hrc.1
    simpa[Value.cells]using this.symm
   ·intro j u hu
    have hl:=hrc.1
    have hj:j<cs.size:=(Array.getElem?_eq_some_iff.1 hu).1
    have hj':j<xs.length:=by rw[hl];simpa[Value.cells]using hj
    exact(hrc.2 j u _ (by simpa[Value.cells]using hu) (List.getElem?_eq_getElem hj')).2
   ·intro j u c hu hc
    exact(hrc.2 j u c (by simpa[Value.cells]using hu) hc).1
  case array k e=>
   have hag:isAgg P t=true:=by simp[isAgg,hu]
   rw[hag]
   unfold Value.okWide at hval
   rw[hu]at hval
   obtain⟨cs,rfl,hcs,_⟩:=hval
   refine⟨.agg xs,⟨xs,rfl,ho⟩,.agg cs xs ?_ ?_ ?_⟩
   ·have:=hrc.1
    simpa[Value.cells]using this.symm
   ·intro j u hu
    have hl:=hrc.1
    have hj:j<cs.size:=(Array.getElem?_eq_some_iff.1 hu).1
    have hj':j<xs.length:=by rw[hl];simpa[Value.cells]using hj
    exact(hrc.2 j u _ (by simpa[Value.cells]using hu) (List.getElem?_eq_getElem hj')).2
   ·intro j u c hu hc
    exact(hrc.2 j u c (by simpa[Value.cells]using hu) hc).1
  case bool=>
   cases hT
   unfold Value.okWide Cell.okWide Cell.ok at hval
   refine one (by simp[isAgg,hu]) rfl ?_
   cases v<;>first | rfl | grind
  case int k=>
   cases hT
   unfold Value.okWide Cell.okWide Cell.ok at hval
   rw[hu]at hval
   refine one (by simp[isAgg,hu]) rfl ?_
   cases v<;>first | rfl | grind
  case string=>
   cases hT
   unfold Value.okWide Cell.okWide Cell.ok at hval
   rw[hu]at hval
   refine one (by simp[isAgg,hu]) rfl ?_
   cases v<;>first | rfl | grind
  case slice e=>
   obtain⟨r,hr,ht1⟩:=bind_some hT
   split at ht1<;>cases ht1
   unfold Value.okWide Cell.okWide Cell.ok at hval
   rw[hu]at hval
   refine one (by simp[isAgg,hu]) rfl ?_
   cases v<;>first | rfl | grind
theorem zkj{m base:Nat}:∀(ts:List TypeId) (vs:List Value) (ds:List (DataW H)) (p:List MemPlace) (tys:List (Bool×Ty)),DataW.TrodAll enc P w 0 (fun _=>true) true ts vs ds p→tysOf P m ts=some tys →
  (∀(j:Nat) t v,ts[j]? = some t→vs[j]? = some v→Value.okWide P w .any base t v)→Places S p →
  ∃xs,OkArgs tys xs∧vs.length=xs.length∧∀(j:Nat) (v:Value) (c:AV),vs[j]? = some v→xs[j]? = some c→CP w S v c
 | [],vs,ds,p,tys,hA,hT,hval,hp=>by
  obtain⟨rfl,_,_⟩:=trodAll_nil hA
  cases hT
  exact⟨[],rfl,rfl,fun j v c h=>by grind⟩
 | t::ts,vs,ds,p,tys,hA,hT,hval,hp=>by
  obtain⟨v,vs1,d,ds1,a,b,rfl,rfl,rfl,h1,h2⟩:=trodAll_cons hA
  obtain⟨ty,hty,hT1⟩:=bind_some hT
  obtain⟨r,hr,rfl⟩:=map_some hT1
  obtain⟨x,hx,hC⟩:=zvk (S:=S) h1 hty (hval 0 t v rfl rfl) fun k o h=>hp k o (List.mem_append_left _ h)
  obtain⟨xs,ho,hl,hc⟩:=zkj (m:=m) (base:=base) ts vs1 ds1 b r h2 hr (fun j t v ht hv=>hval (j+1) t v (by grind) (by grind)) fun k o h=>hp k o (List.mem_append_right _ h)
  refine⟨x::xs,⟨x,xs,rfl,hx,ho⟩,by grind,fun j u c hu hcc=>?_⟩
  grind
theorem zoi(hl:laidOutB P=true){W W':World}(hb:Below W.heap.size W W'){sp:Nat→Bool}:∀(ts:List TypeId) (vs:List Value) (ds:List (DataW H)) (p:List MemPlace),
  (ts.all fun t=>P.readableRec t&&decide (t<P.types.size))=true→DataW.TrodAll enc P W 0 (fun _=>true) true ts vs ds p→(∀x∈p,x.block<W.heap.size)→(∀x∈p,sp x.block=true)→DataW.TrodAll enc P W' 0 sp true ts vs ds p
 | [],_,_,_,_,hA,_,_=>by
  obtain⟨rfl,rfl,rfl⟩:=trodAll_nil hA
  exact rfl
 | t::ts,vs,ds,p,hr,hA,hlt,hsp=>by
  obtain⟨v,vs1,d,ds1,a,b,rfl,rfl,rfl,h1,h2⟩:=trodAll_cons hA
  rw[List.all_cons,Bool.and_eq_true,Bool.and_eq_true,decide_eq_true_eq]at hr
  exact⟨a,b,WideElems.Trod_stays hl hr.1.1 hr.1.2 h1 (fun x hx=>hb.same (hlt x (List.mem_append_left _ hx))) (fun x hx=>hsp x (List.mem_append_left _ hx)),
   zoi hl hb ts vs1 ds1 b hr.2 h2 (fun x hx=>hlt x (List.mem_append_right _ hx)) (fun x hx=>hsp x (List.mem_append_right _ hx)),rfl⟩
theorem zr0:∀(ts:List TypeId) (vs:List Value) (ds:List (DataW H)) (p:List MemPlace),DataW.TrodAll enc P w 0 (fun _=>true) true ts vs ds p→ds.length=ts.length
 | [],_,_,_,hA=>by
  obtain⟨rfl,rfl,rfl⟩:=trodAll_nil hA
  rfl
 | t::ts,vs,ds,p,hA=>by
  obtain⟨v,vs1,d,ds1,a,b,rfl,rfl,rfl,h1,h2⟩:=trodAll_cons hA
  simp[zr0 ts vs1 ds1 b h2]
theorem zvl{f:FuncId}{fn:Func}{s:ChangeSpec}{m tb:Nat}{tys:List (Bool×Ty)}{fresh handsOn again:Bool}(hvars:s.vars=[])(hT:tysOf P m fn.params.toList=some tys)(hl:laidOutB P=true)
  (hread:(fn.params.toList.all fun t=>P.readableRec t&&decide (t<P.types.size))=true) (hr:fn.resultTypes=#[tb]) (hb:P.underlying tb=some .bool)
  (hfn:∀ds:List (DataW H),ds.length=fn.params.toList.length→s.fn H ds={ results:=[.lit (.bool true)],args:=ds })
  (hcall:∀xs,OkArgs tys xs→PCall P f xs (·=.b true)) {W:World} {args:Array Value} {ds gs:List (DataW H)} {before:List MemPlace} {base:Nat}
  (hval:∀(j:Nat) t v,fn.params[j]? = some t→args[j]? = some v→Value.okWide P W .any base t v) (hW:DataW.Whole enc P fn.params.toList s.vars false W args.toList ds gs before) :
  Calls P f args W fun e W'=>∃v,e=.returned v∧s.post enc P fn false fresh handsOn again W args v W':=by
 have hW':=hW
 obtain⟨p,q,hA,hV,rfl,hfz,hnd⟩:=hW
 rw[hvars]at hV
 obtain⟨rfl,rfl⟩:=trodVars_none hV
 have hlt:∀x∈p,x.block<W.heap.size:=fun x hx=>hW'.lt x (List.mem_append_left _ hx)
 obtain⟨xs,ho,hlen,hC⟩:=zkj (S:=fun k o=>MemPlace.cell k o∈p) _ _ _ _ _ hA hT (fun j t v ht hv=>hval j t v (by grind) (by grind)) (fun k o h=>h)
 have hc:=(hcall xs ho).2 W (fun k o=>MemPlace.cell k o∈p) args (by omega) (fun j v c hv hc=>hC j v c (by grind) hc) (fun k o h=>hlt _ h)
 refine hc.mono fun e W' ⟨v,r,he,hrr,hbel,hCr⟩=>?_
 subst he hrr
 have hv:v=.bool true:=by cases hCr;rfl
 subst hv
 have hlf:=hfn ds (zr0 _ _ _ _ hA)
 refine⟨_,rfl,zi8 (pa:=p) (pv:=[]) hW' (fun b sp hd=>?_) (fun sp hsp=>?_) (fun sp _=>?_) rfl hbel (ok_one hr rfl (okWide_bool_mk hb _))⟩
 ·rw[List.append_nil,hlf,hr]
  exact trodAll_mk1 (shut_bool hb _)
 ·grind[zoi]
 ·rw[List.append_nil,hlf,hvars]
  exact rfl
end
end
theorem zow:∀(els:List (List AV)),(∀row∈els,Ok (.int .u32) row)→∃l:List UInt32,els=u32s l
 | [],_=>⟨[],rfl⟩
 | r::els,h=>by
  obtain⟨l,rfl⟩:=zow els fun row hr=>h row (List.mem_cons_of_mem _ hr)
  obtain⟨n,rfl,hw⟩:=h r List.mem_cons_self
  have h1:0≤n∧n<4294967296:=by
   simp[Lit.wf,IntKind.min,IntKind.max,IntKind.signed,IntKind.bits]at hw
   omega
  refine⟨w32 n.toNat::l,?_⟩
  have:(w32 n.toNat).toNat=n.toNat:=zad (by omega)
  simp only[u32s,List.map_cons,this,u32]
  rw[Int.toNat_of_nonneg h1.1]
theorem zvu{P:Program}{ν:Nat→FuncId}{T:Tbl}(hT:TOk P ν T)(hm:P.follows .mixedOrders=true){u:Nat}{af:AFx}{xs ys:List AV}{r:AV}(hu:T u=some af)(hl:af.lent=none)(h:callF T u ys=some r)(hx:xs.map wkA=ys):PCall P (ν u) xs (·=r):=by
 subst hx
 have h1:=zgx hT hm hu hl h
 exact PCall.wk (ex:=false) h1
abbrev Fz:=Bool×List UInt32×List UInt32
abbrev celF(x:Fz):List AV:=[.b x.1,.sl (u32s x.2.1) .an,.sl (u32s x.2.2) .an]
abbrev efz(x:Fz):AV:=.agg (celF x)
def fv(x:Fz):Rat:=mkRat (wv x.1 x.2.1) (val x.2.2)
def fz(q:Rat):Fz:=(decide (q.num<0),ofN q.num.natAbs,ofN q.den)
def fsz(x:Fz):Nat:=max x.2.1.length x.2.2.length
theorem zz3(x:Fz):x.2.1.length≤fsz x:=Nat.le_max_left ..
theorem zz4(x:Fz):x.2.2.length≤fsz x:=Nat.le_max_right ..
def sz(q:Rat):Nat:=max (ofN q.num.natAbs).length (ofN q.den).length
theorem zxm{z:Int}{d:Nat}(h:d≠0):(mkRat z d).num.natAbs=z.natAbs/Nat.gcd z.natAbs d:=by
 rw[Rat.num_mkRat,if_neg h,Int.natAbs_ediv_of_dvd (Int.ofNat_dvd_left.2 (Nat.gcd_dvd_right ..)),Int.natAbs_natCast,Nat.gcd_comm]
theorem zxn{z:Int}{d:Nat}(h:d≠0):(mkRat z d).den=d/Nat.gcd z.natAbs d:=by
 rw[Rat.den_mkRat,if_neg h,Nat.gcd_comm]
theorem z43{z:Int}{d:Nat}(h:d≠0):sgI (mkRat z d).num=sgI z:=by
 rw[Rat.num_mkRat,if_neg h]
 have hg:0<Nat.gcd d z.natAbs:=Nat.gcd_pos_of_pos_left _ (Nat.pos_of_ne_zero h)
 obtain⟨k,hk⟩:((Nat.gcd d z.natAbs:Nat):Int) ∣ z:=Int.ofNat_dvd_left.2 (Nat.gcd_dvd_right ..)
 generalize Nat.gcd d z.natAbs=g at *
 have hg':(0:Int)<g:=by omega
 subst hk
 rw[Int.mul_ediv_cancel_left _ (by omega)]
 unfold sgI
 rcases Int.lt_trichotomy k 0 with h1 | h1 | h1
 ·have:=Int.mul_neg_of_pos_of_neg hg' h1
  rw[if_pos h1,if_pos this]
 ·subst h1;simp
 ·have:=Int.mul_pos hg' h1
  rw[if_neg (by omega),if_neg (by omega),if_neg (by omega),if_neg (by omega)]
theorem zux(z:Int):decide (z<0)=decide (sgI z<0):=by
 unfold sgI
 split
 ·simp[*]
 ·split<;>simp[*]
theorem z44{z:Int}{d:Nat}(h:d≠0):decide ((mkRat z d).num<0)=decide (z<0):=by
 rw[zux,zux z,z43 h]
theorem z45(n:Bool)(x:Nat){d:Nat}(h:d≠0):fz (mkRat (sg n x) d)=(n&&decide (x≠0),ofN (x/Nat.gcd x d),ofN (d/Nat.gcd x d)):=by
 unfold fz
 rw[z44 h,zxm h,zxn h,zxk,zur]
theorem zuy:ofN 1=[1]:=by
 rw[zfc (by decide),show 1/4294967296=0 from rfl,zjz]
 rfl
theorem zuz:fz 0=(false,[],[1]):=by
 unfold fz
 rw[Rat.zero_num,Rat.zero_den,zuy]
 simp
theorem z46(q:Rat):fsz (fz q)=sz q:=rfl
theorem zadk{z:Int}{d L:Nat}(hz:(ofN z.natAbs).length≤L)(hd:(ofN d).length≤L)(h1:1≤L):sz (mkRat z d)≤L:=by
 unfold sz
 by_cases h:d=0
 ·subst h
  rw[Rat.mkRat_zero,Rat.zero_num,Rat.zero_den,zuy]
  simp
  omega
 ·rw[zxm h,zxn h]
  exact Nat.max_le.2 ⟨Nat.le_trans (zar (Nat.div_le_self _ _)) hz,Nat.le_trans (zar (Nat.div_le_self _ _)) hd⟩
theorem zadl{x:Fz}{L:Nat}(h:fsz x≤L)(h1:1≤L):sz (fv x)≤L:=
 zadk (Nat.le_trans (z4z _ _) (Nat.le_trans (zz3 x) h)) (Nat.le_trans (zae _) (Nat.le_trans (zz4 x) h)) h1
def sgQ(q:Rat):Int:=sgI q.num
def rowF(l:List Fz):List (List AV):=l.map celF
@[simp] theorem z8h:rowF []=[]:=rfl
def matF(m:List (List Fz)):List (List AV):=m.map fun r=>[.sl (rowF r) .an]
@[simp] theorem z8i:matF []=[]:=rfl
abbrev tyF:Ty:=.cons .bool (.cons (.sl (.int .u32)) (.cons (.sl (.int .u32)) .nil))
theorem zs8{x:AV}(h:OkArg (false,.int .i64) x):∃n:Int,x=.i .i64 n∧-9223372036854775808≤n∧n<9223372036854775808:=by
 obtain⟨n,hx,wf⟩:=h
 cases hx
 refine⟨n,rfl,?_⟩
 simp[Lit.wf,IntKind.min,IntKind.max,IntKind.signed,IntKind.bits]at wf
 omega
theorem zp2{P:Program}{ν:Nat→FuncId}{l l':List (Nat×AFx)}(hT:TOk P ν fun u=>l'.lookup u)(hp:Part l l')(hm:P.follows .mixedOrders=true){u:Nat}{af:AFx}{xs ys:List AV}{r:AV}
  (hu:l'.lookup u=some af) (hl:af.lent=none) (h:callF (fun u=>l.lookup u) u ys=some r) (hx:xs.map wkA=ys):PCall P (ν u) xs (·=r):=
 zvu hT hm hu hl (hp.call (by rw[hu];rfl) h) hx
end Go.Ab
section
set_option linter.unusedVariables false
namespace Go.Proofs
open Go.Shelf Go.RowKit
variable{P:Program}{ρ:Ren}
structure JL (P:Program) (ρ:Ren):Prop extends Lays.n169 P ρ,Lays.n241 P ρ,Builder.Extra P ρ where
 f156:P.funcs[ρ.f 156]? = some (Body.n156 ρ)
 f165:P.funcs[ρ.f 165]? = some (Body.n165 ρ)
 f166:P.funcs[ρ.f 166]? = some (Body.n166 ρ)
 t4:P.underlying (ρ.t 4)=some (TypeDesc.bool)
 a4:∀w,(isAgg (ρ.t 4)).run P w=.ok false w
 z4:∀w,(Go.sizeOf (ρ.t 4)).run P w=.ok 1 w
 v4:∀w,(zeroValue (ρ.t 4)).run P w=.ok (Value.bool false) w
 t20:P.underlying (ρ.t 20)=some (TypeDesc.interface #[])
 a20:∀w,(isAgg (ρ.t 20)).run P w=.ok false w
 z20:∀w,(Go.sizeOf (ρ.t 20)).run P w=.ok 1 w
 v20:∀w,(zeroValue (ρ.t 20)).run P w=.ok (Value.nilIface) w
 t31:P.underlying (ρ.t 31)=some (TypeDesc.slice (ρ.t 9))
 a31:∀w,(isAgg (ρ.t 31)).run P w=.ok false w
 z31:∀w,(Go.sizeOf (ρ.t 31)).run P w=.ok 1 w
 v31:∀w,(zeroValue (ρ.t 31)).run P w=.ok (Value.slice none 0 0) w
 t75:P.underlying (ρ.t 75)=some (TypeDesc.interface #[("Error",ρ.t 80)])
 a75:∀w,(isAgg (ρ.t 75)).run P w=.ok false w
 z75:∀w,(Go.sizeOf (ρ.t 75)).run P w=.ok 1 w
 v75:∀w,(zeroValue (ρ.t 75)).run P w=.ok (Value.nilIface) w
 t76:P.underlying (ρ.t 76)=some (TypeDesc.tuple #[ρ.t 3,ρ.t 75])
 a76:∀w,(isAgg (ρ.t 76)).run P w=.ok false w
 z76:∀w,(Go.sizeOf (ρ.t 76)).run P w=.ok 1 w
 v76:∀w,(zeroValue (ρ.t 76)).run P w=.ok (Value.tuple #[Value.int IntKind.i64 0,Value.nilIface]) w
 t164:P.underlying (ρ.t 164)=some (TypeDesc.unsafePointer)
 a164:∀w,(isAgg (ρ.t 164)).run P w=.ok false w
 z164:∀w,(Go.sizeOf (ρ.t 164)).run P w=.ok 1 w
 v164:∀w,(zeroValue (ρ.t 164)).run P w=.ok (Value.pointer none) w
 e240:∀args w,(callFunc (ρ.f 240) args).run P w=.ok (.enter (ρ.f 240) args) w
 c240:∀(B b:Nat) (bs:List Value) (w:World),Lib.IsBuilder (ρ.t 72) (ρ.t 5) B b bs w →
  Calls P (ρ.f 240) #[.pointer (some ⟨b,0,none⟩)] w fun e w'=>e=.returned (.tuple #[])∧(Lib.BuilderAt (ρ.t 72) (ρ.t 5) B b (.pointer (some ⟨b,0,none⟩)) bs w'∧Below B w w')
 c240f:∀(b:Nat) (w:World),w.cell? ⟨b,0,none⟩=some (.pointer none)→w.shape? b=some ((ρ.t 72),2)→w.frozen? ⟨b,0,none⟩=false →
  Calls P (ρ.f 240) #[.pointer (some ⟨b,0,none⟩)] w fun e w'=>e=.returned (.tuple #[])∧w'=w.setCell ⟨b,0,none⟩ (.pointer (some ⟨b,0,none⟩))
theorem Jl.hid{p:Prop}(h:p):Hid p:=h
end Go.Proofs
end
section
namespace Go.Proofs
open Go.Shelf Go.RowKit Go.Ab
variable{P:Program}{ρ:Ren}
theorem one_arg{cargs:Array Value}(h:cargs.size=1):∃a,cargs=#[a]:=by
 obtain⟨l⟩:=cargs
 match l,h with
 | [a],_=>exact⟨a,rfl⟩
end Go.Proofs
end
section
namespace Go.Proofs.YtfgfjicelfagcaaGreatDoor
open Go Go.Ab Go.RowKit
def signS:ByteArray:=⟨#[43,45,42,47,94,40,41,91,93,44,59,61]⟩
theorem signS_lt:∀(p:Nat) (h:p<signS.size),(signS[p]'h).toNat<128:=by decide
theorem sign_at(c:Nat)(hc:c<256):signB.contains (UInt8.ofNat c)=decide (∃p,∃h:p<signS.size,(signS[p]'h).toNat=c):=by
 rw[Bool.eq_iff_iff,decide_eq_true_iff]
 have:∀c,c<256→(signB.contains (UInt8.ofNat c)=true↔∃p,∃h:p<signS.size,(signS[p]'h).toNat=c):=by decide +kernel
 exact this c hc
set_option maxHeartbeats 1000000 in
set_option maxRecDepth 100000 in
theorem sign_calls(c:Nat)(hc:c<256)(w:World):Calls Tryz.prog 115 #[.int .u8 (c:Int)] w fun e w'=>e=.returned (.bool (signB.contains (UInt8.ofNat c)))∧Below w.heap.size w w':=by
 rw[sign_at c hc]
 go_enter Tryz.func115,Tryz.ntmps115
 go_wp2
 go_loopw [] (fun wr=>∃pos:Nat,wr.heap[w.heap.size]? = some (.stringIter signS pos)∧Below w.heap.size w wr∧∀j,j<pos→∀h:j<signS.size,(signS[j]'h).toNat≠c) (fun wr=>signS.size-wr.iterPos w.heap.size)
 case atStart=>
  refine⟨0,World.iter_heap w signS 0,?_,fun j hj=>absurd hj (Nat.not_lt_zero _)⟩
  exact(Below.refl _ w).alloc (Nat.le_refl _) _
 case round=>
  obtain⟨pos,hit,hbw,hne⟩:=hrel
  by_cases hp:pos<signS.size
  ·have hnx:∀ty,(Instr.next (.pointer (some ⟨w.heap.size,0,none⟩)) true ty).run Tryz.prog wr=_:=fun ty=>Lib.run_next_ascii_at wr w.heap.size signS pos ty hit hp (signS_lt pos hp)
   have hit2:=Lib.iterAt_heap wr w.heap.size signS pos (pos+1) hit
   have hbw2:=Lib.below_iterAt hbw (k:=w.heap.size) (Nat.le_refl _) signS (pos+1)
   obtain⟨x,hx⟩:∃x:Nat,(signS[pos]'hp).toNat=x:=⟨_,rfl⟩
   have hx1:=signS_lt pos hp
   rw[hx]at hnx hx1
   have hwr:IntKind.u8.wrap (x:Int)=(x:Int):=by rw[IntKind.wrap_u8];omega
   by_cases hxc:x=c
   ·subst hxc
    go_wp2
    go_ret
    exact⟨by rw[decide_eq_true ⟨pos,hp,hx⟩];rfl,hbw2⟩
   ·have hxc':¬ (x:Int)=(c:Int):=by omega
    go_wp2
    go_roundw
    case rel=>
     refine⟨pos+1,hit2,hbw2,fun j hj h=>?_⟩
     rcases Nat.lt_or_ge j pos with h1 | h1
     ·exact hne j h1 h
     ·obtain rfl:j=pos:=by omega
      rw[hx]
      exact hxc
    case measure=>
     simp only[World.iterPos,hit2,hit]
     omega
  ·have hnx:∀ty,(Instr.next (.pointer (some ⟨w.heap.size,0,none⟩)) true ty).run Tryz.prog wr=_:=fun ty=>Lib.run_next_end_at wr w.heap.size signS pos ty hit hp
   go_wp2
   go_ret
   have hno:¬ ∃p,∃h:p<signS.size,(signS[p]'h).toNat=c:=by
    rintro⟨p,h,hpc⟩
    exact hne p (by omega) h hpc
   exact⟨by rw[decide_eq_false hno];rfl,hbw⟩
theorem sign_ok:∀xs r,prim187 xs=some r→PCall Tryz.prog (nu 187) xs (·=r):=by
 have e:nu 187=115:=by kernel_rfl
 rw[e]
 intro xs r h
 unfold prim187 at h
 split at h
 ·rename_i n
  split at h
  ·rename_i hn
   cases h
   refine⟨enters_of Tryz.func115 (by kernel_rfl) rfl,fun w S cargs hsz hC hS=>?_⟩
   obtain⟨v0,rfl⟩:=one_arg hsz
   have c0:v0=.int .u8 n:=by
    have:=hC 0 _ _ rfl rfl
    cases this
    rfl
   subst c0
   obtain⟨c,rfl⟩:∃c:Nat,n=c:=⟨n.toNat,by omega⟩
   refine(sign_calls c (by omega) w).mono ?_
   rintro e w' ⟨rfl,hb⟩
   refine⟨_,_,rfl,?_,hb,.b _⟩
   rw[Int.toNat_natCast]
   rfl
  ·cases h
 ·cases h
abbrev tyW:Ty:=.cons (.int .i64) (.cons .str (.cons (.int .i64) .nil))
end Go.Proofs.YtfgfjicelfagcaaGreatDoor
end
namespace Go.Ab
class CSpan (T:Tbl):Prop where
theorem cop2{X:Nat}(h:X%2=1)(k:Nat):Nat.Coprime (2^k) X:=by
 refine Nat.Coprime.pow_left k ?_
 unfold Nat.Coprime
 rw[Nat.gcd_rec,h]
 rfl
theorem zhk{k m Y:Nat}(hY:Y%2=1):Nat.gcd (2^k*m) Y=Nat.gcd m Y:=Nat.Coprime.gcd_mul_left_cancel m (cop2 hY k)
theorem zz5{m n X Y:Nat}(hX:X%2=1)(hY:Y%2=1):Nat.gcd (2^m*X) (2^n*Y)=2^(min m n)*Nat.gcd X Y:=by
 rcases Nat.le_total m n with h | h
 ·rw[Nat.min_eq_left h,show n=m+(n-m) by omega,Nat.pow_add,Nat.mul_assoc,Nat.gcd_mul_left,Nat.gcd_comm X,zhk hX,Nat.gcd_comm Y]
 ·rw[Nat.min_eq_right h,show m=n+(m-n) by omega,Nat.pow_add,Nat.mul_assoc,Nat.gcd_mul_left,zhk hY]
theorem zo6{X Y k m:Nat}(hY:Y%2=1)(h:Y≤X)(e:X-Y=2^k*m):Nat.gcd m Y=Nat.gcd X Y:=by
 rw[←zhk hY (k:=k),←e,Nat.gcd_sub_self_left h]
theorem zww{n:Nat}(h:n≠0):∃k m,n=2^k*m∧m%2=1:=by
 induction n using Nat.strongRecOn with
 | _ n ih=>
  by_cases h2:n%2=1
  ·exact⟨0,n,by simp,h2⟩
  ·obtain⟨k,m,e,hm⟩:=ih (n/2) (by omega) (by omega)
   refine⟨k+1,m,?_,hm⟩
   rw[Nat.pow_succ,Nat.mul_comm (2^k),Nat.mul_assoc,←e]
   omega
section
variable{T:Tbl}
theorem zhr(G:Nat):∀y:Nat×Nat,(y.1<18446744073709551616∧y.2<18446744073709551616∧Nat.gcd y.1 y.2=G) →
  loopN T 0 0 (.norm false [0]) l198_0 ⟨[(0,u64 y.1),(1,u64 y.2)],[],2⟩=some (.n,⟨[(0,u64 G)],[],2⟩):=by
 refine zaw (fun y:Nat×Nat=>⟨[(0,u64 y.1),(1,u64 y.2)],[],2⟩) _ (fun y=>y.2) _ ?_
 rintro⟨x,y⟩ ⟨hx,hy,hG⟩
 simp only at hx hy hG ⊢
 by_cases h:y=0
 ·right
  subst h
  rw[Nat.gcd_zero_right]at hG
  subst hG
  constructor<;>simp -implicitDefEqProofs[l198_0]
 ·left
  have hm:=Nat.mod_lt x (Nat.pos_of_ne_zero h)
  refine⟨(y,x%y),⟨hy,by simp only;omega,by simp only;rw[←hG,Nat.gcd_comm y,←Nat.gcd_rec,Nat.gcd_comm]⟩,hm,?_,trivial⟩
  simp -implicitDefEqProofs[l198_0,h]
end
section
variable{T:Tbl}[CCommon T]
theorem zlf(x y:Nat)(hx:x<18446744073709551616)(hy:y<18446744073709551616):callF T 198 [u64 x,u64 y]=some (u64 (Nat.gcd x y)):=by
 have h:=zhr (T:=T) (Nat.gcd x y) (x,y) ⟨hx,hy,rfl⟩
 simp only at h
 rw[f198 _ rfl,b198]
 simp -implicitDefEqProofs[h]
theorem zp7(a:List UInt32):callF T 200 [.sl (u32s (ofN (val a))) .an]=some (.b (decide (val a=1))):=by
 rw[f200 _ rfl,b200]
 generalize val a=n
 by_cases h0:n=0
 ·subst h0
  simp -implicitDefEqProofs
 ·rw[zfc h0]
  by_cases h1:n/4294967296=0
  ·have e:ofN (n/4294967296)=[]:=zau.2 h1
   have e2:n%4294967296=n:=Nat.mod_eq_of_lt (by omega)
   simp -implicitDefEqProofs[e,u32s,zdt,e2]
  ·have h2:¬ ofN (n/4294967296)=[]:=fun e=>h1 (zau.1 e)
   have h3:¬ n=1:=by rintro rfl;simp at h1
   have h4:¬ ((ofN (n/4294967296)).length:Int)+1=1:=by
    have:=List.length_pos_iff.2 h2
    omega
   simp -implicitDefEqProofs[u32s,h3,h4]
end
section
variable{T:Tbl}[CNat T][CProd T][CTwos T][CQuot T][CQuotD T][CCommon T]
theorem zvw(G:Nat):∀y:List UInt32×List UInt32,(y.1.length≤90000∧y.2.length≤90000∧(∃n,y.1=ofN n)∧(∃n,y.2=ofN n)∧Nat.gcd (val y.1) (val y.2)=G) →
  ∃r,(∃a b:List UInt32,r=(Ex.n,(⟨[(0,.sl (u32s a) .an),(1,.sl (u32s b) .an)],[],2⟩:St))∧a.length≤90000∧b.length≤2∧(∃n,a=ofN n)∧(∃n,b=ofN n)∧Nat.gcd (val a) (val b)=G) ∧
   loopN T 0 0 (.norm false [0,1]) l199_0 ⟨[(0,.sl (u32s y.1) .an),(1,.sl (u32s y.2) .an)],[],2⟩=some r:=by
 refine zas (fun y:List UInt32×List UInt32=>⟨[(0,.sl (u32s y.1) .an),(1,.sl (u32s y.2) .an)],[],2⟩) _ (fun y=>val y.2) _ ?_
 rintro⟨a,b⟩ ⟨ha,hb,hk,hn,hG⟩
 simp only at ha hb hk hn hG ⊢
 by_cases h:2<b.length
 ·left
  have h':(2:Int)<b.length:=by omega
  have hv:val b≠0:=by
   obtain⟨n,rfl⟩:=hn
   rw[zag]
   rintro rfl
   simp at h
  have hd:=zez (T:=T) a b ha hb
  rw[if_neg hv]at hd
  have hm:=Nat.mod_lt (val a) (Nat.pos_of_ne_zero hv)
  refine⟨(b,ofN (val a%val b)),⟨hb,?_,hn,⟨_,rfl⟩,?_⟩,?_,?_⟩
  ·have:=zar (Nat.le_of_lt hm)
   have:=zae b
   simp only;omega
  ·simp only
   rw[zag,←hG,Nat.gcd_comm (val b),←Nat.gcd_rec,Nat.gcd_comm]
  ·simp only[zag]
   exact hm
  ·clear hG hm hn hv hk
   simp -implicitDefEqProofs[l199_0,h',hd]
 ·right
  have h':¬ (2:Int)<b.length:=by omega
  refine⟨_,⟨a,b,rfl,ha,by omega,hk,hn,hG⟩,?_,?_⟩<;>clear hG<;>simp -implicitDefEqProofs[l199_0,h']
theorem zm8(a b:List UInt32)(ha:a.length≤90000)(hb:b.length≤90000):callF T 199 [.sl (u32s a) .an,.sl (u32s b) .an]=some (.sl (u32s (ofN (Nat.gcd (val a) (val b)))) .an):=by
 have h1:=zbq (T:=T) a (by omega)
 have h2:=zbq (T:=T) b (by omega)
 have la:=zae a
 have lb:=zae b
 obtain⟨G,hG⟩:∃G,G=Nat.gcd (val a) (val b):=⟨_,rfl⟩
 obtain⟨_,⟨x,y,rfl,hx,hy,⟨m,rfl⟩,⟨n,rfl⟩,hg⟩,hr⟩:=zvw (T:=T) G (ofN (val a),ofN (val b)) ⟨by simp only;omega,by simp only;omega,⟨_,rfl⟩,⟨_,rfl⟩,by simp only[zag];exact hG.symm⟩
 simp only at hr
 rw[zag,zag]at hg
 rw[f199 _ rfl,b199,←hG]
 clear hG
 by_cases h0:n=0
 ·subst h0
  rw[Nat.gcd_zero_right]at hg
  subst hg
  simp -implicitDefEqProofs[h1,h2,hr]
 ·have hv:val (ofN n)≠0:=by rw[zag];exact h0
  have hd:=zez (T:=T) (ofN m) (ofN n) hx (by omega)
  rw[if_neg hv,zag,zag]at hd
  have hn64:n<18446744073709551616:=by
   have:=za2 (ofN n)
   rw[zag]at this
   exact Nat.lt_of_lt_of_le this (Nat.pow_le_pow_right (by decide) hy)
  have hm:=Nat.mod_lt m (Nat.pos_of_ne_zero h0)
  have s1:=zlp (T:=T) (ofN n) (by omega)
  rw[zag,if_pos hn64]at s1
  have s2:=zlp (T:=T) (ofN (m%n)) (by have:=zar (Nat.le_of_lt hm);omega)
  rw[zag,if_pos (by omega)]at s2
  have s3:=zlf (T:=T) n (m%n) hn64 (by omega)
  have e:Nat.gcd n (m%n)=G:=by rw[←hg,Nat.gcd_comm n,←Nat.gcd_rec,Nat.gcd_comm]
  rw[e]at s3
  have s4:=zxf (T:=T) G (by
   rw[←hg]
   exact Nat.lt_of_le_of_lt (Nat.gcd_le_right _ (Nat.pos_of_ne_zero h0)) hn64)
  have hl:¬ ofN n=[]:=fun e=>h0 (zau.1 e)
  simp -implicitDefEqProofs[h1,h2,hr,hd,s1,s2,s3,s4,hl,h0]
theorem zhs(a b:List UInt32)(ha:a.length≤90000)(hb:b.length≤90000):callF T 201 [.sl (u32s a) .an,.sl (u32s b) .an] =
  some (.tup [.sl (u32s (ofN (val a/Nat.gcd (val a) (val b)))) .an,.sl (u32s (ofN (val b/Nat.gcd (val a) (val b)))) .an]):=by
 have hg:=zm8 (T:=T) a b ha hb
 have ho:=zp7 (T:=T) (ofN (Nat.gcd (val a) (val b)))
 rw[zag]at ho
 have ll:(ofN (Nat.gcd (val a) (val b))).length≤90000:=by
  by_cases h:val a=0
  ·rw[h,Nat.gcd_zero_left]
   have:=zae b
   omega
  ·have:=zar (Nat.gcd_le_left (val b) (Nat.pos_of_ne_zero h))
   have:=zae a
   omega
 have d1:=zez (T:=T) a (ofN (Nat.gcd (val a) (val b))) ha ll
 have d2:=zez (T:=T) b (ofN (Nat.gcd (val a) (val b))) hb ll
 have n1:=zbq (T:=T) a (by omega)
 have n2:=zbq (T:=T) b (by omega)
 rw[zag]at d1 d2
 rw[f201 _ rfl,b201]
 by_cases h0:Nat.gcd (val a) (val b)=0
 ·rw[h0]at hg ⊢
  simp only[zjz]at hg
  simp -implicitDefEqProofs[hg]
 ·rw[if_neg h0]at d1 d2
  have hl:¬ ofN (Nat.gcd (val a) (val b))=[]:=fun e=>h0 (zau.1 e)
  by_cases h1:Nat.gcd (val a) (val b)=1
  ·rw[h1]at hg ho hl ⊢
   simp -implicitDefEqProofs[hg,ho,n1,n2,hl]
  ·generalize Nat.gcd (val a) (val b)=g at *
   simp -implicitDefEqProofs[hg,ho,d1,d2,hl,h0,h1]
end
section
variable{T:Tbl}[CWhole T]
theorem zl0(n:Bool)(k:Nat):callF T 55 [.b n,.sl (u32s (ofN k)) .an]=some (ez (sg n k)):=by
 rw[f55 _ rfl,b55,z4y]
 have h:(0<(ofN k).length)=(k≠0):=by
  rw[eq_iff_iff,List.length_pos_iff]
  exact not_congr zau
 cases n<;>simp -implicitDefEqProofs[h]
end
section
variable{T:Tbl}[CNat T][CWhole T]
theorem zq3(n:Bool)(a:List UInt32)(ha:a.length≤1000000):callF T 38 [wh n a]=some (ez (wv n a)):=by
 have h:=zbq (T:=T) a (by omega)
 have hs:=zl0 (T:=T) n (val a)
 rw[f38 _ rfl,b38]
 simp -implicitDefEqProofs[h,hs,wv]
end
section
variable{T:Tbl}[CNat T][CProd T][CTwos T][CQuot T][CQuotD T][CWhole T][CCommon T][CFrac T]
theorem zqa{x d:Nat}(h:d≠0):decide (x/Nat.gcd x d≠0)=decide (x≠0):=by
 obtain⟨k,hk⟩:=Nat.gcd_dvd_left x d
 grind[Nat.mul_div_cancel_left,Nat.mul_eq_zero]
theorem zlj(n:Bool)(a d:List UInt32)(ha:a.length≤90000)(hd:d.length≤90000)(h:val d≠0) :
  callF T 202 [wh n a,.sl (u32s d) .an]=some (efz (fz (mkRat (wv n a) (val d)))):=by
 have e:=z45 n (val a) h
 change fz (mkRat (wv n a) (val d))=_ at e
 have hc:=zhs (T:=T) a d ha hd
 have hl:(ofN (val a/Nat.gcd (val a) (val d))).length≤1000000:=by
  have:=zar (Nat.div_le_self (val a) (Nat.gcd (val a) (val d)))
  have:=zae a
  omega
 have hn:=zq3 (T:=T) n _ hl
 have e2:wv n (ofN (val a/Nat.gcd (val a) (val d)))=sg n (val a/Nat.gcd (val a) (val d)):=by unfold wv;rw[zag]
 rw[e2,z4y,zqa h]at hn
 rw[e,f202 _ rfl,b202]
 simp -implicitDefEqProofs[hc,hn]
theorem zng(n:Bool)(a d:List UInt32)(ha:a.length≤10000)(hd:d.length≤10000)(h:val d≠0) :
  callF T 202 [wh n a,.sl (u32s d) .an]=some (efz (fz (mkRat (wv n a) (val d)))):=zlj (T:=T) n a d (Nat.le_trans ha (by decide)) (Nat.le_trans hd (by decide)) h
end
def nrm(l:List Fz):List Fz:=l.map fun x=>fz (fv x)
def fzs(l:List Rat):List Fz:=l.map fz
@[simp] theorem z4r:rowsT []=[]:=rfl
def textQ(q:Rat):List UInt8:=if q.den=1 then textZ q.num else textZ q.num++47::textN q.den
section
variable{T:Tbl}[CNat T][CProd T][CTwos T][CQuot T][CQuotD T][CText T][CWhole T][CCommon T][CFrac T][CJoin T][CRow T]
def stZe(n i:Nat):St:=⟨[(3,.bs (.loc 9) 1 3 0 n),(10,.i .i64 n),(11,.i .i64 i)],[(.loc 9,⟨1,.own,3,rowF (List.replicate i (fz 0))++List.replicate (n-i) [.b false,.sl [] .an,.sl [] .an]⟩)],3⟩
def stNm(l:List Fz)(i:Nat):St:=⟨[(3,.bs (.loc 3) 1 3 0 i),(6,.sl (rowF l) .an),(7,.i .i64 l.length),(8,.i .i64 i)],[(.loc 3,⟨1,.own,3,rowF (nrm (l.take i))⟩)],3⟩
def scl(c:Rat)(l:List Fz):List Fz:=l.map fun x=>fz (c*fv x)
def stSl(c:Fz)(l:List Fz)(i:Nat):St:=⟨[(2,.ptr (.loc 2) 1 3 0 0),(5,.bs (.loc 5) 2 3 0 i),(8,.sl (rowF l) .an),(9,.i .i64 l.length),(10,.i .i64 i)],[(.loc 2,⟨1,.str,3,[celF c]⟩),(.loc 5,⟨2,.own,3,rowF (scl (fv c) (l.take i))⟩)],4⟩
def dotQ:List Fz→List Fz→Rat
 | x::a,y::b=>fv x*fv y+dotQ a b
 | _,_=>0
def dotK(a b:List Fz)(i:Nat):Rat:=dotQ (a.take i) (b.take i)
abbrev nocell:List AV:=[.b false,.sl [] .an,.sl [] .an]
def stDt(a b:List Fz)(i:Nat):St:=⟨[(1,.sl (rowF b) .an),(4,.ptr (.loc 4) 1 3 0 0),(6,.ptr (.loc 6) 2 3 0 0),(16,.sl (rowF a) .an),(17,.i .i64 a.length),(18,.i .i64 i)],
 [(.loc 4,⟨1,.str,3,[nocell]⟩),(.loc 6,⟨2,.str,3,[celF (fz (dotK a b i))]⟩)],4⟩
def stSm(a b:List Fz)(i:Nat):St:=⟨[(0,.sl (rowF a) .an),(1,.sl (rowF b) .an),(12,.i .i64 a.length),(13,.i .i64 i)],[],2⟩
def txts(l:List Fz):List (List UInt8):=l.map fun x=>textQ (fv x)
def stTt(l:List Fz)(i:Nat):St:=⟨[(3,.bs (.loc 3) 1 1 0 i),(6,.sl (rowF l) .an),(7,.i .i64 l.length),(8,.i .i64 i)],[(.loc 3,⟨1,.own,1,rowsT (txts (l.take i))⟩)],3⟩
end
def mixP(c:Rat)(acc:List Rat)(r:List Fz):List Rat:=List.zipWith (fun q x=>q+c*fv x) acc r
def addP(acc:List Rat)(r:List Fz):List Rat:=List.zipWith (fun q x=>q+fv x) acc r
section
variable{T:Tbl}[CNat T][CProd T][CTwos T][CQuot T][CQuotD T][CText T][CWhole T][CCommon T][CFrac T][CJoin T][CRow T]
def stAi(k j n:Nat)(rest:List (List Fz))(r:List Fz)(L acc:List Rat)(i:Nat):St:=
 ⟨[(4,.bs (.fld (.loc 15) 3) 1 3 0 n),(17,.sl (matF rest) .an),(18,.i .i64 k),(19,.i .i64 j),(28,.sl (rowF r) .an),(29,.i .i64 n),(30,.i .i64 i)],
  [(.fld (.loc 15) 3,⟨1,.own,3,rowF (fzs (L.take i++acc.drop i))⟩)],3⟩
def stAo(n:Nat)(rest:List (List Fz))(acc:List Rat)(j:Nat):St:=
 ⟨[(4,.bs (.fld (.loc 15) 3) 1 3 0 n),(17,.sl (matF rest) .an),(18,.i .i64 rest.length),(19,.i .i64 j)],[(.fld (.loc 15) 3,⟨1,.own,3,rowF (fzs ((rest.take j).foldl addP acc))⟩)],3⟩
end
def mixF(p:List (Fz×List Fz))(acc:List Rat):List Rat:=p.foldl (fun a q=>mixP (fv q.1) a q.2) acc
section
variable{T:Tbl}[CNat T][CProd T][CTwos T][CQuot T][CQuotD T][CText T][CWhole T][CCommon T][CFrac T][CJoin T][CRow T]
def stMi(C:List Fz)(k j n:Nat)(l:List (List Fz))(r:List Fz)(L acc:List Rat)(i:Nat):St:=
 ⟨[(0,.sl (rowF C) .an),(10,.bs (.fld (.loc 40) 9) 1 3 0 n),(11,.i .i64 k),(41,.sl (matF l) .an),(42,.i .i64 j),(43,.i .i64 k),(54,.sl (rowF r) .an),(55,.i .i64 n),(56,.i .i64 i)],
  [(.fld (.loc 40) 9,⟨1,.own,3,rowF (fzs (L.take i++acc.drop i))⟩)],3⟩
def stMo(C:List Fz)(n:Nat)(l:List (List Fz))(acc:List Rat)(k:Nat):St:=
 ⟨[(0,.sl (rowF C) .an),(10,.bs (.fld (.loc 40) 9) 1 3 0 n),(41,.sl (matF l) .an),(42,.i .i64 l.length),(43,.i .i64 k)],[(.fld (.loc 40) 9,⟨1,.own,3,rowF (fzs (mixF ((C.zip l).take k) acc))⟩)],3⟩
def stMc(C:List Fz)(l:List (List Fz))(n i:Nat):St:=⟨[(0,.sl (rowF C) .an),(1,.sl (matF l) .an),(2,.i .i64 n),(28,.sl (matF l) .an),(29,.i .i64 l.length),(30,.i .i64 i)],[],2⟩
end
abbrev agS(t h:Fz)(y0 y1 f0 f1:List Fz):AV:=
 .agg [.b t.1,.sl (u32s t.2.1) .an,.sl (u32s t.2.2) .an,.b h.1,.sl (u32s h.2.1) .an,.sl (u32s h.2.2) .an,.sl (rowF y0) .an,.sl (rowF y1) .an,.sl (rowF f0) .an,.sl (rowF f1) .an]
def prodQ(l:List Fz):Rat:=l.foldl (fun p x=>p*fv x) 1
section
variable{T:Tbl}[CNat T][CProd T][CTwos T][CQuot T][CQuotD T][CText T][CWhole T][CCommon T][CFrac T][CJoin T][CRow T][CSpan T]
def stTm(l:List Fz)(i:Nat):St:=⟨[(2,.ptr (.loc 2) 1 3 0 0),(3,.ptr (.loc 3) 2 3 0 0),(7,.sl (rowF l) .an),(8,.i .i64 l.length),(9,.i .i64 i)],[(.loc 2,⟨1,.str,3,[nocell]⟩),(.loc 3,⟨2,.str,3,[celF (fz (prodQ (l.take i)))]⟩)],4⟩
def rightS(h:Fz)(y0 y1 f0 f1:List Fz):Bool:=decide (0<fv h)&&decide (y0.length≤300)&&decide (y1.length=y0.length)&&decide (f0.length=y0.length)&&decide (f1.length=y0.length)
end
abbrev tyS:Ty:=.cons tyF (.cons tyF (.cons (.sl tyF) (.cons (.sl tyF) (.cons (.sl tyF) (.cons (.sl tyF) .nil)))))
class CRef5 (T:Tbl):Prop where
end Go.Ab
section
namespace Go.Ab
end Go.Ab
end
namespace Go.Ab
section
variable{T:Tbl}
theorem zqm(m:Nat)(hm:m%2=1)(K:Nat)(hK:2^K*m<4294967296)(hK2:K≤32):∀v:Nat,v≤K →
  loopN T 0 0 (.norm false [3]) l224_0 ⟨[(0,u32 (2^v*m)),(3,.i .i64 (K-v:Nat))],[],2⟩=some (.n,⟨[(3,.i .i64 K)],[],2⟩):=by
 refine zaw (fun v:Nat=>⟨[(0,u32 (2^v*m)),(3,.i .i64 (K-v:Nat))],[],2⟩) _ (fun v=>v) _ ?_
 intro v hv
 cases v with
 | zero=>
  right
  constructor<;>simp -implicitDefEqProofs[l224_0,hm]
 | succ v=>
  left
  have hle:2^(v+1)*m≤2^K*m:=Nat.mul_le_mul_right _ (Nat.pow_le_pow_right (by decide) hv)
  have e:2^(v+1)*m=2^v*m*2:=by grind
  have hw:IntKind.wrap .i64 (((K-(v+1):Nat):Int)+1)=((K-v:Nat):Int):=by rw[zab _ (by omega)];omega
  refine⟨v,by omega,Nat.lt_succ_self v,?_,rfl⟩
  rw[e]at hle ⊢
  generalize 2^v*m=x at *
  have e1:x*2%2=0:=by omega
  have e3:x<4294967296:=by omega
  simp -implicitDefEqProofs[l224_0,e1,e3,hw]
end
section
variable{T:Tbl}[CRef06 T]
theorem znk(m K:Nat)(hm:m%2=1)(hK:2^K*m<4294967296):callF T 224 [u32 (2^K*m)]=some (.i .i64 K):=by
 have hK2:K≤32:=by
  rcases Nat.lt_or_ge 32 K with h | h
  ·have h1:2^32≤2^K:=Nat.pow_le_pow_right (by decide) (by omega)
   have h2:2^K≤2^K*m:=Nat.le_mul_of_pos_right _ (by omega)
   omega
  omega
 have h:=zqm (T:=T) m hm K hK hK2 K (Nat.le_refl _)
 rw[Nat.sub_self]at h
 simp only[Int.natCast_zero]at h
 have h0:2^K*m≠0:=Nat.mul_ne_zero (by grind) (by omega)
 rw[f224 _ rfl,b224]
 simp -implicitDefEqProofs[h,h0]
end
theorem znl{P m a S:List UInt32}{i:Nat}(hm:m.length=i)(hi:i<a.length):(P++(m++(a.drop i++S)))[P.length+i]? = some (a[i]'hi):=by
 grind
theorem znm{P m a S:List UInt32}{i:Nat}(hm:m.length=i)(hi:i<a.length)(w:UInt32):(P++(m++(a.drop i++S))).set (P.length+i) w=P++((m++[w])++(a.drop (i+1)++S)):=by
 rw[List.set_append_right _ _ (by omega),Nat.add_sub_cancel_left,List.set_append_right _ _ (by omega),hm,Nat.sub_self,List.drop_eq_getElem_cons hi,List.cons_append,List.set_cons_zero]
 simp
section
variable{T:Tbl}
def stDw(Q:List UInt32)(o n s i:Nat):St:=⟨[(0,.bs (.bor 0) 0 1 o n),(1,.i .i64 s),(5,.i .i64 i)],[(.bor 0,⟨0,.own,1,u32s Q⟩)],4⟩
theorem zwf(Q:List UInt32)(o n s i:Nat)(x y:UInt32)(hi:i+1<n)(hn:n≤1000000)(hs:s<32)(hx:Q[o+i]? = some x)(hy:Q[o+(i+1)]? = some y) :
  evX (orc T) T 1 l225_0 (stDw Q o n s i)=some (.n,stDw (Q.set (o+i) (w32 ((x.toNat+y.toNat*4294967296)/2^s%4294967296))) o n s (i+1)):=by
 have h1:(i:Int)<n:=by omega
 have h2:(i:Int)+1<n:=by omega
 have hw:IntKind.wrap .i64 ((i:Int)+1)=((i+1:Nat):Int):=zab _ (by omega)
 have lx:=zan x
 have ly:=zan y
 have m2:y.toNat*4294967296%18446744073709551616=y.toNat*4294967296:=Nat.mod_eq_of_lt (by omega)
 have m3:(y.toNat*4294967296+x.toNat)%18446744073709551616=x.toNat+y.toNat*4294967296:=by grind
 have hmin:min s 64=s:=by omega
 obtain⟨b1,hgx⟩:=List.getElem?_eq_some_iff.1 hx
 unfold stDw
 simp -implicitDefEqProofs[l225_0,h1,h2,hw,hy,m2,m3,hmin,b1,hgx,zd0]
theorem zwg(Q:List UInt32)(o n s i:Nat)(x:UInt32)(hi:i+1=n)(hn:n≤1000000)(hs:s<32)(hx:Q[o+i]? = some x) :
  evX (orc T) T 1 l225_0 (stDw Q o n s i)=some (.n,stDw (Q.set (o+i) (w32 (x.toNat/2^s%4294967296))) o n s (i+1)):=by
 have h1:(i:Int)<n:=by omega
 have h2:¬ (i:Int)+1<n:=by omega
 have hw:IntKind.wrap .i64 ((i:Int)+1)=((i+1:Nat):Int):=zab _ (by omega)
 have hmin:min s 64=s:=by omega
 obtain⟨b1,hgx⟩:=List.getElem?_eq_some_iff.1 hx
 unfold stDw
 simp -implicitDefEqProofs[l225_0,h1,h2,hw,hmin,b1,hgx,zd0]
theorem zzn(P a S:List UInt32)(s:Nat)(hs:s<32)(hl:a.length≤1000000):∀y:Nat×List UInt32,
  (y.1≤a.length∧y.2.length=y.1∧val y.2+4294967296^y.1*(val (a.drop y.1)/2^s)=val a/2^s) →
  ∃r,(∃m:List UInt32,r=(Ex.n,(⟨[(0,.bs (.bor 0) 0 1 P.length a.length)],[(.bor 0,⟨0,.own,1,u32s (P++(m++S))⟩)],4⟩:St))∧m.length=a.length∧val m=val a/2^s) ∧
   loopN T 1 0 (.norm false [0]) l225_0 (stDw (P++(y.2++(a.drop y.1++S))) P.length a.length s y.1)=some r:=by
 refine zas (fun y:Nat×List UInt32=>stDw (P++(y.2++(a.drop y.1++S))) P.length a.length s y.1) _ (fun y=>a.length-y.1) _ ?_
 rintro⟨i,m⟩ ⟨hi,hm,hv⟩
 by_cases h0:i<a.length
 ·left
  have hx:=zan (a[i]'h0)
  have hd:=List.drop_eq_getElem_cons h0
  have fin:∀y R:Nat,val (a.drop (i+1))=y+4294967296*R→val (m++[w32 (((a[i]'h0).toNat+y*4294967296)/2^s%4294967296)])+4294967296^(i+1)*(val (a.drop (i+1))/2^s)=val a/2^s:=by
   intro y R hR
   have hdw:=zl2 (x:=(a[i]'h0).toNat) (y:=y) (R:=R) hs hx
   grind[zai,zaj,za0,zad]
  by_cases h1:i+1<a.length
  ·have hd1:=List.drop_eq_getElem_cons h1
   refine⟨(i+1,m++[w32 (((a[i]'h0).toNat+(a[i+1]'h1).toNat*4294967296)/2^s%4294967296)]),⟨h0,by grind,fin _ (val (a.drop (i+1+1))) (by rw[hd1,zai])⟩,by omega,?_⟩
   grind[zwf,znl,znm]
  ·have f0:=fin 0 0 (by rw[List.drop_of_length_le (by omega),za0,Nat.mul_zero])
   rw[Nat.zero_mul,Nat.add_zero]at f0
   refine⟨(i+1,m++[w32 ((a[i]'h0).toNat/2^s%4294967296)]),⟨h0,by grind,f0⟩,by omega,?_⟩
   grind[zwg,znl,znm]
 ·right
  have:i=a.length:=by omega
  subst this
  rw[List.drop_length,za0,Nat.zero_div,Nat.mul_zero,Nat.add_zero]at hv
  refine⟨_,⟨m,rfl,hm,hv⟩,?_,?_⟩<;>simp -implicitDefEqProofs[l225_0,stDw]
theorem zqn(P a S:List UInt32)(hl:a.length≤1000000){n:Nat}(hn:n≤a.length)(h0:∀(i:Nat) (x:UInt32),n≤i→a[i]? = some x→x.toNat=0)(h1:∀x:UInt32,0<n→a[n-1]? = some x→x.toNat≠0) :
  ∀k:Nat,(n≤k∧k≤a.length)→loopN T 1 2 (.norm false [0]) l225_1 ⟨[(0,.bs (.bor 0) 0 1 P.length k)],[(.bor 0,⟨0,.own,1,u32s (P++(a++S))⟩)],4⟩ =
   some (.n,⟨[(0,.bs (.bor 0) 0 1 P.length n)],[(.bor 0,⟨0,.own,1,u32s (P++(a++S))⟩)],4⟩):=by
 refine zaw (fun k:Nat=>⟨[(0,.bs (.bor 0) 0 1 P.length k)],[(.bor 0,⟨0,.own,1,u32s (P++(a++S))⟩)],4⟩) _ (fun k=>k) _ ?_
 rintro k ⟨hk,hka⟩
 have hget:∀j,j<a.length→(P++(a++S))[P.length+j]? = a[j]? := by
  grind
 by_cases h2:k=0
 ·right
  have:n=0:=by omega
  subst this;subst h2
  constructor<;>simp -implicitDefEqProofs[l225_1]
 ·have hw:IntKind.wrap .i64 ((k:Int)-1)=((k-1:Nat):Int):=by rw[zab _ (by omega)];omega
  have hg:a[k-1]? = some (a[k-1]'(by omega)):=List.getElem?_eq_getElem _
  have hq:=hget (k-1) (by omega)
  rw[hg]at hq
  have hpos:0<k:=by omega
  have hlt:k-1<k:=by omega
  by_cases h3:k=n
  ·right
   subst h3
   have hx:=h1 _ hpos hg
   constructor<;>simp -implicitDefEqProofs[l225_1,hpos,hw,hq,hx,hlt]
  ·left
   have hx:=h0 (k-1) _ (by omega) hg
   refine⟨k-1,⟨by omega,by omega⟩,hlt,?_,rfl⟩
   simp -implicitDefEqProofs[l225_1,hpos,hw,hq,hx,hlt]
end
section
variable{T:Tbl}[CRef06 T]
theorem zqo(P a S:List UInt32)(s:Nat)(hs:s<32)(hl:a.length≤1000000) :
  ∃S',S'.length+(ofN (val a/2^s)).length=a.length+S.length ∧
   callH T 225 [.bs (.bor 0) 0 1 P.length a.length,.i .i64 s] [(.bor 0,⟨0,.own,1,u32s (P++(a++S))⟩)] =
    some (.bs (.bor 0) 0 1 P.length (ofN (val a/2^s)).length,[(.bor 0,⟨0,.own,1,u32s (P++(ofN (val a/2^s)++S'))⟩)]):=by
 obtain⟨_,⟨m,rfl,hm,hv⟩,hr⟩:=zzn (T:=T) P a S s hs hl (0,[]) ⟨Nat.zero_le _,rfl,by simp⟩
 obtain⟨n,h1,h2,h3,h4⟩:=zd1 m
 have ht:=zqn (T:=T) P m S (by omega) h1 h3 h4 m.length ⟨h1,Nat.le_refl _⟩
 have hlen:(ofN (val a/2^s)).length=n:=by grind
 have e:P++(m++S)=P++(ofN (val a/2^s)++(m.drop n++S)):=by grind[List.take_append_drop]
 refine⟨m.drop n++S,by grind,?_⟩
 rw[hlen,←e]
 rw[hm]at ht
 unfold stDw at hr
 simp only[List.nil_append,List.drop_zero,Int.natCast_zero]at hr
 rw[f225 _ _ rfl,b225]
 simp -implicitDefEqProofs[hr,ht]
theorem zqp(Q:List UInt32)(o n j0:Nat)(hn:n≤1000000)(hj:j0<n)(hz:∀j,j<j0→∃x:UInt32,Q[o+j]? = some x∧x.toNat=0)(h1:∃x:UInt32,Q[o+j0]? = some x∧x.toNat≠0) :
  ∀j:Nat,j≤j0→loopN T 1 0 (.norm false [0,4]) l226_0 ⟨[(0,.bs (.bor 0) 0 1 (o+j) (n-j)),(4,.i .i64 (32*j:Nat))],[(.bor 0,⟨0,.own,1,u32s Q⟩)],4⟩ =
   some (.n,⟨[(0,.bs (.bor 0) 0 1 (o+j0) (n-j0)),(4,.i .i64 (32*j0:Nat))],[(.bor 0,⟨0,.own,1,u32s Q⟩)],4⟩):=by
 refine zaw (fun j:Nat=>⟨[(0,.bs (.bor 0) 0 1 (o+j) (n-j)),(4,.i .i64 (32*j:Nat))],[(.bor 0,⟨0,.own,1,u32s Q⟩)],4⟩) _ (fun j=>j0-j) _ ?_
 intro j hj2
 have hpos:0<n-j:=by omega
 by_cases h:j=j0
 ·right
  subst h
  obtain⟨x,hx,hx0⟩:=h1
  constructor<;>simp -implicitDefEqProofs[l226_0,hpos,hx,hx0]
 ·left
  obtain⟨x,hx,hx0⟩:=hz j (by omega)
  have hw:IntKind.wrap .i64 (((32*j:Nat):Int)+32)=((32*(j+1):Nat):Int):=by rw[zab _ (by omega)];omega
  have e1:1<n-j:=by omega
  have e2:n-j-1=n-(j+1):=by omega
  have e3:(1:Int)≤((n-j:Nat):Int):=by omega
  refine⟨j+1,by omega,by omega,?_,rfl⟩
  generalize 32*j=c at *
  rw[←Nat.add_assoc,←e2]
  generalize n-j=k at *
  simp -implicitDefEqProofs[l226_0,hpos,hx,hx0,hw,e1,e3]
theorem zlu:∀(a:List UInt32),val a≠0→∃j,∃h:j<a.length,(∀i (hi:i<j),(a[i]'(by omega)).toNat=0)∧(a[j]'h).toNat≠0∧val a=4294967296^j*val (a.drop j)
 | [],h=>by simp at h
 | x::a,h=>by
  by_cases hx:x.toNat=0
  ·have h2:val a≠0:=by
    intro e
    apply h
    rw[zai,hx,e]
   obtain⟨j,hj,h3,h4,h5⟩:=zlu a h2
   refine⟨j+1,by simpa using hj,?_,by simpa using h4,?_⟩
   ·intro i hi
    cases i with
    | zero=>simpa using hx
    | succ i=>simpa using h3 i (by omega)
   ·rw[zai,hx,h5,List.drop_succ_cons,Nat.pow_succ,Nat.zero_add,Nat.mul_comm (4294967296^j) 4294967296,Nat.mul_assoc]
  ·exact⟨0,by simp,fun i hi=>by omega,by simpa using hx,by simp⟩
theorem ze1(P a S:List UInt32)(hl:a.length≤100000)(h:val a≠0):∃(P' S':List UInt32) (m k:Nat),val a=2^k*m∧m%2=1∧k≤32*a.length∧(ofN m).length≤a.length∧P'.length+(ofN m).length+S'.length=P.length+a.length+S.length ∧
  callH T 226 [.bs (.bor 0) 0 1 P.length a.length] [(.bor 0,⟨0,.own,1,u32s (P++(a++S))⟩)] =
   some (.tup [.bs (.bor 0) 0 1 P'.length (ofN m).length,.i .i64 k],[(.bor 0,⟨0,.own,1,u32s (P'++(ofN m++S'))⟩)]):=by
 obtain⟨j,hj,hz,hne,hv⟩:=zlu a h
 obtain⟨s,c,hsc,hc⟩:=zww hne
 have hx:=zan (a[j]'hj)
 have hs:s<32:=by
  rcases Nat.lt_or_ge s 32 with h1 | h1
  ·omega
  ·have h2:2^32≤2^s:=Nat.pow_le_pow_right (by decide) h1
   have h3:2^s≤2^s*c:=Nat.le_mul_of_pos_right _ (by omega)
   omega
 have hd:=List.drop_eq_getElem_cons hj
 -- the rest is odd
 have hm:∃m,val (a.drop j)=2^s*m∧m%2=1:=by
  refine⟨c+2^(32-s)*val (a.drop (j+1)),?_,?_⟩
  ·rw[hd,zai,hsc,Nat.mul_add,←Nat.mul_assoc,←Nat.pow_add,show s+(32-s)=32 by omega]
  ·have:2^(32-s)=2*2^(31-s):=by rw[←Nat.pow_succ'];grind
   rw[this,Nat.mul_assoc]
   omega
 obtain⟨m,hm1,hm2⟩:=hm
 have hdiv:val (a.drop j)/2^s=m:=by grind[Nat.mul_div_cancel_left]
 have hlen:(a.drop j).length=a.length-j:=by simp
 obtain⟨S',hS',hdown⟩:=zqo (T:=T) (P++a.take j) (a.drop j) S s hs (by omega)
 rw[hdiv]at hS' hdown
 have hPl:(P++a.take j).length=P.length+j:=by grind
 have hbox:(P++a.take j)++(a.drop j++S)=P++(a++S):=by
  grind[List.take_append_drop]
 rw[hPl,hlen,hbox]at hdown
 have hml:(ofN m).length≤a.length:=by
  have h1:m≤val (a.drop j):=by rw[hm1];exact Nat.le_mul_of_pos_left _ (Nat.pow_pos (by decide))
  have h2:=zar h1
  have h3:=zae (a.drop j)
  omega
 refine⟨P++a.take j,S',m,32*j+s,?_,hm2,by omega,hml,by omega,?_⟩
 ·rw[hv,hm1,znt,Nat.pow_add,Nat.mul_assoc]
 ·have hst:=zqp (T:=T) (P++(a++S)) P.length a.length j (by omega) hj (fun i hi=>⟨_,by grind,hz i hi⟩) ⟨_,by grind,hne⟩ 0 (Nat.zero_le _)
  have hzr:=znk (T:=T) c s hc (by omega)
  rw[←hsc]at hzr
  have hg:(P++(a++S))[P.length+j]? = some (a[j]'hj):=by grind
  have hpos:0<a.length-j:=by omega
  have hw:IntKind.wrap .i64 (((32*j:Nat):Int)+s)=((32*j+s:Nat):Int):=by rw[zab _ (by omega)];omega
  simp only[Nat.mul_zero,Nat.add_zero,Nat.sub_zero,Int.natCast_zero]at hst
  rw[hPl,f226 _ _ rfl,b226]
  generalize 32*j=c1 at *
  simp -implicitDefEqProofs[hst,hzr,hg,hpos,hw,hdown]
end
theorem zxh{P m a S b:List UInt32}{i c s d:Nat}(hm:m.length=i)(h0:i<a.length)(hv:val m+val (b.take i)=val (a.take i)+4294967296^i*c)(hs:s<4294967296)(h:s+(atW b i+c)=(a[i]'h0).toNat+4294967296*d) :
  val (m++[w32 s])+val (b.take (i+1))=val (a.take (i+1))+4294967296^(i+1)*d:=by
 grind[zcu,zaj,zai,zad,atW]
section
variable{T:Tbl}[CRef02 T][CRef04 T][CRef05 T][CRef07 T][CRef06 T]
def stLw(Q R:List UInt32)(o n o2 n2 c i:Nat):St:=⟨[(0,.bs (.bor 0) 0 1 o n),(1,.bs (.bor 1) 1 1 o2 n2),(4,u64 c),(5,.i .i64 i)],[(.bor 0,⟨0,.own,1,u32s Q⟩),(.bor 1,⟨1,.own,1,u32s R⟩)],6⟩
theorem zzo(Q R b:List UInt32)(o n o2 n2 c i:Nat)(x:UInt32)(hi:i<n)(hn:n≤1000000)(hb:b.length≤1000000)(hc:c≤1)(hx:Q[o+i]? = some x)(hR:List.take n2 (List.drop o2 R)=b)(hR2:o2+n2≤R.length) :
  evX (orc T) T 2 l2097_0 (stLw Q R o n o2 n2 c i)=some (.n,stLw (Q.set (o+i) (w32 (if x.toNat<atW b i+c then x.toNat+4294967296-(atW b i+c) else x.toNat-(atW b i+c)))) R o n o2 n2 (if x.toNat<atW b i+c then 1 else 0) (i+1)):=by
 have h1:(i:Int)<n:=by omega
 have hw:IntKind.wrap .i64 ((i:Int)+1)=((i+1:Nat):Int):=zab _ (by omega)
 have cb:=zfw (T:=T) b i hb
 have lx:=zan x
 have lb:=zt0 b i
 generalize atW b i=y at *
 have m2:y%18446744073709551616=y:=Nat.mod_eq_of_lt (by omega)
 have m3:(y+c)%18446744073709551616=y+c:=Nat.mod_eq_of_lt (by omega)
 have m4:(x.toNat+4294967296)%18446744073709551616=x.toNat+4294967296:=Nat.mod_eq_of_lt (by omega)
 obtain⟨b1,hgx⟩:=List.getElem?_eq_some_iff.1 hx
 unfold stLw
 by_cases hlt:x.toNat<y+c
 ·have hs:sub64 (x.toNat+4294967296) (y+c)=x.toNat+4294967296-(y+c):=zft (by omega) (by omega)
  simp -implicitDefEqProofs[l2097_0,h1,hw,cb,m2,m3,m4,b1,hgx,hR,hR2,hlt,hs]
 ·have hs:sub64 x.toNat (y+c)=x.toNat-(y+c):=zft (by omega) (by omega)
  simp -implicitDefEqProofs[l2097_0,h1,hw,cb,m2,m3,b1,hgx,hR,hR2,hlt,hs]
theorem zzp(P a S R b:List UInt32)(o2 n2:Nat)(hl:a.length≤1000000)(hb:b.length≤1000000)(hR:List.take n2 (List.drop o2 R)=b)(hR2:o2+n2≤R.length):∀y:Nat×Nat×List UInt32,
  (y.1≤a.length∧y.2.1≤1∧y.2.2.length=y.1∧val y.2.2+val (b.take y.1)=val (a.take y.1)+4294967296^y.1*y.2.1) →
  ∃r,(∃(c:Nat) (m:List UInt32),r=(Ex.n,(⟨[],[(.bor 0,⟨0,.own,1,u32s (P++(m++S))⟩),(.bor 1,⟨1,.own,1,u32s R⟩)],6⟩:St)) ∧
   m.length=a.length∧c≤1∧val m+val (b.take a.length)=val a+4294967296^a.length*c) ∧
   loopN T 2 0 (.norm false []) l2097_0 (stLw (P++(y.2.2++(a.drop y.1++S))) R P.length a.length o2 n2 y.2.1 y.1)=some r:=by
 refine zas (fun y:Nat×Nat×List UInt32=>stLw (P++(y.2.2++(a.drop y.1++S))) R P.length a.length o2 n2 y.2.1 y.1) _ (fun y=>a.length-y.1) _ ?_
 rintro⟨i,c,m⟩ ⟨hi,hc,hm,hv⟩
 simp only at hi hc hm hv
 by_cases h0:i<a.length
 ·left
  have lx:=zan (a[i]'h0)
  have lb:=zt0 b i
  have hstep:=zzo (T:=T) (P++(m++(a.drop i++S))) R b P.length a.length o2 n2 c i (a[i]'h0) h0 hl hb hc (znl hm h0) hR hR2
  rw[znm hm h0]at hstep
  by_cases hlt:(a[i]'h0).toNat<atW b i+c
  ·rw[if_pos hlt,if_pos hlt]at hstep
   exact⟨(i+1,1,m++[w32 ((a[i]'h0).toNat+4294967296-(atW b i+c))]),⟨h0,Nat.le_refl _,by grind,by simp only;exact zxh (P:=P) (S:=S) hm h0 hv (by omega) (by omega)⟩,by omega,hstep⟩
  ·rw[if_neg hlt,if_neg hlt]at hstep
   exact⟨(i+1,0,m++[w32 ((a[i]'h0).toNat-(atW b i+c))]),⟨h0,Nat.zero_le _,by grind,by simp only;exact zxh (P:=P) (S:=S) hm h0 hv (by omega) (by omega)⟩,by omega,hstep⟩
 ·right
  have:i=a.length:=by omega
  subst this
  rw[List.take_of_length_le (Nat.le_refl a.length)]at hv
  refine⟨_,⟨c,m,rfl,hm,hc,hv⟩,?_,?_⟩<;>simp -implicitDefEqProofs[l2097_0,stLw]
theorem zg8(P a S P2 b S2:List UInt32)(hl:a.length≤1000000)(hb:b.length≤a.length)(hab:val b≤val a) :
  ∃m:List UInt32,m.length=a.length∧val m=val a-val b ∧
   callH T 2097 [.bs (.bor 0) 0 1 P.length a.length,.bs (.bor 1) 1 1 P2.length b.length] [(.bor 0,⟨0,.own,1,u32s (P++(a++S))⟩),(.bor 1,⟨1,.own,1,u32s (P2++(b++S2))⟩)] =
    some (.tup [],[(.bor 0,⟨0,.own,1,u32s (P++(m++S))⟩),(.bor 1,⟨1,.own,1,u32s (P2++(b++S2))⟩)]):=by
 obtain⟨_,⟨c,m,rfl,hm,hc,hv⟩,hr⟩:=zzp (T:=T) P a S (P2++(b++S2)) b P2.length b.length hl (by omega) (by simp) (by simp) (0,0,[]) ⟨Nat.zero_le _,Nat.zero_le _,rfl,by simp⟩
 rw[List.take_of_length_le hb]at hv
 have hlo:=za2 m
 have hval:val m=val a-val b:=by
  rcases Nat.eq_zero_or_pos c with h1 | h1
  all_goals grind
 refine⟨m,hm,hval,?_⟩
 unfold stLw at hr
 simp only[List.nil_append,List.drop_zero,Int.natCast_zero]at hr
 rw[f2097 _ _ rfl,b2097]
 simp -implicitDefEqProofs[hr]
theorem zlv(a:List UInt32):callF T 229 [.sl (u32s (ofN (val a))) .an]=some (.b (decide (val a=1))):=by
 rw[f229 _ rfl,b229]
 generalize val a=n
 by_cases h0:n=0
 ·subst h0
  simp -implicitDefEqProofs
 ·rw[zfc h0]
  by_cases h1:n/4294967296=0
  ·have e:ofN (n/4294967296)=[]:=zau.2 h1
   have e2:n%4294967296=n:=Nat.mod_eq_of_lt (by omega)
   simp -implicitDefEqProofs[e,u32s,zdt,e2]
  ·have h2:¬ ofN (n/4294967296)=[]:=fun e=>h1 (zau.1 e)
   have h3:¬ n=1:=by omega
   have h4:¬ ((ofN (n/4294967296)).length:Int)+1=1:=by
    have:=List.length_pos_iff.2 h2
    omega
   simp -implicitDefEqProofs[u32s,h3,h4]
theorem zir(a g:List UInt32)(ha:a.length≤10000)(hg:g.length≤10000)(h0:val g≠0):callF T 230 [.sl (u32s a) .an,.sl (u32s (ofN (val g))) .an]=some (.sl (u32s (ofN (val a/val g))) .an):=by
 have ho:=zlv (T:=T) g
 have hn:=zby (T:=T) a (by omega)
 have hd:=zt6 (T:=T) a (ofN (val g)) (by omega) (by have:=zae g;omega) (by rw[zag];omega)
 rw[zag]at hd
 rw[f230 _ rfl,b230]
 by_cases h1:val g=1
 ·rw[h1]at ho hd ⊢
  simp -implicitDefEqProofs[ho,hn]
 ·simp -implicitDefEqProofs[ho,h1,hd]
theorem zlw(a:List UInt32)(k:Nat)(ha:a.length≤10000)(hk:k≤1000000):callF T 227 [.sl (u32s a) .an,.i .i64 k]=some (.sl (u32s (ofN (2^k*val a))) .an):=by
 have hq:(k:Int).tdiv 32=(k:Int)/32:=Int.tdiv_eq_ediv_of_nonneg (by omega)
 have hm2:(k:Int).tmod 32=(k:Int)%32:=Int.tmod_eq_emod_of_nonneg (by omega)
 have s0:¬ (k:Int)%32<0:=by omega
 have s1:((k:Int)%32).toNat=k%32:=by omega
 have s2:min (k%32) 32=k%32:=by omega
 have w1:IntKind.wrap .i64 ((k:Int)/32)=((k/32:Nat):Int):=by rw[zab (k/32) (by omega)];omega
 have h2:2^(k%32)<4294967296:=by
  have:=Nat.pow_lt_pow_right (show 1<2 by decide) (Nat.mod_lt k (show 0<32 by decide))
  omega
 have s3:2^(k%32)%4294967296=2^(k%32):=Nat.mod_eq_of_lt h2
 have hmul:=zt3 (T:=T) (List.replicate (k/32) 0++a) [w32 (2^(k%32))] (by grind) (by simp)
 have hv:val (List.replicate (k/32) 0++a)*val [w32 (2^(k%32))]=2^k*val a:=by
  rw[zaj,zbr,List.length_replicate,zai,za0,zad h2,Nat.mul_zero,Nat.add_zero,Nat.zero_add,znt,Nat.mul_comm,←Nat.mul_assoc,←Nat.pow_add,show k%32+32*(k/32)=k by omega]
 rw[hv]at hmul
 have b2:k/32+a.length≤4294967296:=by omega
 have b3:((k/32:Nat):Int)≤4294967296:=by omega
 have hu:u32s [w32 (2^(k%32))]=[[u32 (2^(k%32))]]:=by simp[u32s,zad h2]
 rw[hu]at hmul
 have ht:List.take (k/32+a.length) (List.replicate (k/32) 0++a)=List.replicate (k/32) 0++a:=List.take_of_length_le (by simp)
 rw[f227 _ rfl,b227]
 generalize k/32=q at *
 simp -implicitDefEqProofs[hq,hm2,w1,s0,s1,s2,s3,hmul,b2,b3,ht]
def nmX:BId:=.fld (.loc 12) 22
def nmY:BId:=.fld (.loc 14) 22
def nm2(f:Bool):BId×BId:=if f then (nmX,nmY) else (nmY,nmX)
def stGc(f:Bool)(P a S P2 b S2:List UInt32)(m n:Nat):St:=
 ⟨[(5,.bs (nm2 f).1 1 1 P.length a.length),(6,.bs (nm2 f).2 2 1 P2.length b.length),(7,.i .i64 m),(8,.i .i64 n)],[((nm2 f).1,⟨1,.own,1,u32s (P++(a++S))⟩),((nm2 f).2,⟨2,.own,1,u32s (P2++(b++S2))⟩)],4⟩
theorem zade(f:Bool)(P S P2 S2:List UInt32)(X Y m n:Nat)(hX:(ofN X).length≤10000)(hY:(ofN Y).length≤10000)(h:Y<X) :
  ∃(P' S':List UInt32) (k x:Nat),X-Y=2^k*x∧x%2=1 ∧
   evX (orc T) T 0 l228_0 (stGc f P (ofN X) S P2 (ofN Y) S2 m n)=some (.n,stGc f P' (ofN x) S' P2 (ofN Y) S2 m n):=by
 have hc:=ze0 (T:=T) (ofN X) (ofN Y) (by omega) (by omega)
 rw[zag,zag,show cmpN X Y=1 by unfold cmpN;omega]at hc
 obtain⟨d,hd,hv,hless⟩:=zg8 (T:=T) P (ofN X) S P2 (ofN Y) S2 (by omega) (zar (Nat.le_of_lt h)) (by rw[zag,zag];omega)
 rw[zag,zag]at hv
 obtain⟨P',S',x,k,e1,e2,e3,e4,e5,hodd⟩:=ze1 (T:=T) P d S (by omega) (by omega)
 refine⟨P',S',k,x,by omega,e2,?_⟩
 have t1:List.take (ofN X).length (List.drop P.length (P++(ofN X++S)))=ofN X:=by simp
 have t2:List.take (ofN Y).length (List.drop P2.length (P2++(ofN Y++S2)))=ofN Y:=by simp
 have b1:P.length+(ofN X).length≤(P++(ofN X++S)).length:=by simp
 have b2:P2.length+(ofN Y).length≤(P2++(ofN Y++S2)).length:=by simp
 rw[hd]at hodd
 unfold stGc
 cases f<;>simp -implicitDefEqProofs[l228_0,nm2,nmX,nmY,hc,hless,hodd]
theorem zadf(f:Bool)(P S P2 S2:List UInt32)(X Y m n:Nat)(hX:(ofN X).length≤10000)(hY:(ofN Y).length≤10000)(h:X<Y) :
  ∃(P' S':List UInt32) (k x:Nat),Y-X=2^k*x∧x%2=1 ∧
   evX (orc T) T 0 l228_0 (stGc f P (ofN X) S P2 (ofN Y) S2 m n)=some (.n,stGc (!f) P' (ofN x) S' P (ofN X) S m n):=by
 have hc:=ze0 (T:=T) (ofN X) (ofN Y) (by omega) (by omega)
 rw[zag,zag,show cmpN X Y=-1 by unfold cmpN;omega]at hc
 obtain⟨d,hd,hv,hless⟩:=zg8 (T:=T) P2 (ofN Y) S2 P (ofN X) S (by omega) (zar (Nat.le_of_lt h)) (by rw[zag,zag];omega)
 rw[zag,zag]at hv
 obtain⟨P',S',x,k,e1,e2,e3,e4,e5,hodd⟩:=ze1 (T:=T) P2 d S2 (by omega) (by omega)
 refine⟨P',S',k,x,by omega,e2,?_⟩
 have t1:List.take (ofN X).length (List.drop P.length (P++(ofN X++S)))=ofN X:=by simp
 have t2:List.take (ofN Y).length (List.drop P2.length (P2++(ofN Y++S2)))=ofN Y:=by simp
 have b1:P.length+(ofN X).length≤(P++(ofN X++S)).length:=by simp
 have b2:P2.length+(ofN Y).length≤(P2++(ofN Y++S2)).length:=by simp
 rw[hd]at hodd
 unfold stGc
 cases f<;>simp -implicitDefEqProofs[l228_0,nm2,nmX,nmY,hc,hless,hodd]
theorem zadg(f:Bool)(P S P2 S2:List UInt32)(X m n:Nat)(hX:(ofN X).length≤10000){G:Option (Ex×St)}
  (hG:G=some (.n,⟨[(5,.bs (nm2 f).1 1 1 P.length (ofN X).length),(7,.i .i64 m),(8,.i .i64 n)],[((nm2 f).1,⟨1,.own,1,u32s (P++(ofN X++S))⟩)],3⟩)) :
  isEx (evX (orc T) T 0 l228_0 (stGc f P (ofN X) S P2 (ofN X) S2 m n))=true∧finX 0 0 (Gh.norm false [5,7,8]) (evX (orc T) T 0 l228_0 (stGc f P (ofN X) S P2 (ofN X) S2 m n))=G:=by
 subst hG
 have hc:=ze0 (T:=T) (ofN X) (ofN X) (by omega) (by omega)
 rw[zag,show cmpN X X=0 by grind[cmpN]]at hc
 have t1:List.take (ofN X).length (List.drop P.length (P++(ofN X++S)))=ofN X:=by simp
 have t2:List.take (ofN X).length (List.drop P2.length (P2++(ofN X++S2)))=ofN X:=by simp
 have b1:P.length+(ofN X).length≤(P++(ofN X++S)).length:=by simp
 have b2:P2.length+(ofN X).length≤(P2++(ofN X++S2)).length:=by simp
 unfold stGc
 generalize P++(ofN X++S)=Q at *
 generalize P2++(ofN X++S2)=R at *
 generalize ofN X=A at *
 cases f<;>constructor<;>simp -implicitDefEqProofs[l228_0,nm2,nmX,nmY,hc,t1,t2,b1,b2]
structure Gc where
 f:Bool
 P:List UInt32
 S:List UInt32
 P2:List UInt32
 S2:List UInt32
 X:Nat
 Y:Nat
theorem zzq(G m n:Nat):∀y:Gc,((ofN y.X).length≤10000∧(ofN y.Y).length≤10000∧y.X%2=1∧y.Y%2=1∧Nat.gcd y.X y.Y=G) →
  ∃r,(∃(f:Bool) (P S:List UInt32),r=(Ex.n,(⟨[(5,.bs (nm2 f).1 1 1 P.length (ofN G).length),(7,.i .i64 m),(8,.i .i64 n)],[((nm2 f).1,⟨1,.own,1,u32s (P++(ofN G++S))⟩)],3⟩:St))) ∧
   loopN T 0 0 (.norm false [5,7,8]) l228_0 (stGc y.f y.P (ofN y.X) y.S y.P2 (ofN y.Y) y.S2 m n)=some r:=by
 refine zas (fun y:Gc=>stGc y.f y.P (ofN y.X) y.S y.P2 (ofN y.Y) y.S2 m n) _ (fun y=>y.X+y.Y) _ ?_
 rintro⟨f,P,S,P2,S2,X,Y⟩ ⟨hX,hY,oX,oY,hG⟩
 rcases Nat.lt_trichotomy X Y with h | h | h
 ·left
  obtain⟨P',S',k,x,e1,e2,he⟩:=zadf (T:=T) f P S P2 S2 X Y m n hX hY h
  have hle:x≤Y-X:=by rw[e1];exact Nat.le_mul_of_pos_left _ (Nat.pow_pos (by decide))
  refine⟨⟨!f,P',S',P,S,x,X⟩,⟨?_,hX,e2,oX,?_⟩,by grind,he⟩
  ·have:=zar (show x≤Y by omega)
   grind
  grind[zo6,Nat.gcd_comm]
 ·subst h
  obtain⟨h1,h2⟩:=zadg (T:=T) f P S P2 S2 X m n hX rfl
  grind
 ·left
  obtain⟨P',S',k,x,e1,e2,he⟩:=zade (T:=T) f P S P2 S2 X Y m n hX hY h
  have hle:x≤X-Y:=by rw[e1];exact Nat.le_mul_of_pos_left _ (Nat.pow_pos (by decide))
  refine⟨⟨f,P',S',P2,S2,x,Y⟩,⟨?_,hY,e2,oY,?_⟩,by grind,he⟩
  ·have:=zar (show x≤X by omega)
   grind
  grind[zo6]
theorem zt7(a b:List UInt32)(ha:a.length≤10000)(hb:b.length≤10000):callF T 228 [.sl (u32s a) .an,.sl (u32s b) .an]=some (.sl (u32s (ofN (Nat.gcd (val a) (val b)))) .an):=by
 have n1:=zb6 (T:=T) a (by omega)
 have n2:=zb6 (T:=T) b (by omega)
 have la:=zae a
 have lb:=zae b
 rw[f228 _ rfl,b228]
 generalize val a=X at *
 generalize val b=Y at *
 have tY:List.take (ofN Y).length (ofN Y)=ofN Y:=List.take_of_length_le (Nat.le_refl _)
 by_cases hX:X=0
 ·subst hX
  rw[Nat.gcd_zero_left]
  simp -implicitDefEqProofs[n1,n2,tY]
 ·have eX:¬ ofN X=[]:=fun e=>hX (zau.1 e)
  by_cases hY:Y=0
  ·subst hY
   rw[Nat.gcd_zero_right]
   simp -implicitDefEqProofs[n1,n2,eX]
  ·have eY:¬ ofN Y=[]:=fun e=>hY (zau.1 e)
   obtain⟨P1,S1,x,m,e1,e2,e3,e4,e5,o1⟩:=ze1 (T:=T) [] (ofN X) [] (by omega) (by rw[zag];omega)
   obtain⟨P2,S2,y,n,g1,g2,g3,g4,g5,o2⟩:=ze1 (T:=T) [] (ofN Y) [] (by omega) (by rw[zag];omega)
   rw[zag]at e1 g1
   obtain⟨_,⟨f,P,S,rfl⟩,hl⟩:=zzq (T:=T) (Nat.gcd x y) m n ⟨true,P1,S1,P2,S2,x,y⟩ ⟨by grind,by grind,e2,g2,rfl⟩
   have hG:Nat.gcd X Y=2^(min m n)*Nat.gcd x y:=by rw[e1,g1];exact zz5 e2 g2
   have hgl:(ofN (Nat.gcd x y)).length≤10000:=by
    have:=zar (Nat.gcd_le_left y (show 0<x by omega))
    omega
   have hdb:=zlw (T:=T) (ofN (Nat.gcd x y)) (min m n) hgl (by omega)
   rw[zag,←hG]at hdb
   simp only[List.nil_append,List.append_nil,List.length_nil]at o1 o2
   unfold stGc at hl
   have t1:List.take (ofN (Nat.gcd x y)).length (List.drop P.length (P++(ofN (Nat.gcd x y)++S)))=ofN (Nat.gcd x y):=by simp
   have b1:P.length+(ofN (Nat.gcd x y)).length≤(P++(ofN (Nat.gcd x y)++S)).length:=by simp
   have hmin:(if n<m then (n:Int) else (m:Int))=((min m n:Nat):Int):=by omega
   simp only[nm2,nmX,nmY,if_true]at hl
   cases f<;>simp only[Bool.false_eq_true,if_false,if_true]at hl<;>simp -implicitDefEqProofs[n1,n2,eX,eY,o1,o2,hl,hdb,hmin,mm2]
end
end Go.Ab
section
namespace Go.Ab
end Go.Ab
end
namespace Go.Ab
section
variable{T:Tbl}[CRef02 T][CRef04 T][CRef05 T][CRef07 T][CRef06 T][CRef08 T][CRef09 T]
theorem zis(x:Fz)(hx:fsz x≤10000):callF T 231 [efz x]=some (efz (fz (fv x))):=by
 obtain⟨n,a,d⟩:=x
 have la:=zz3 (n,a,d)
 have ld:=zz4 (n,a,d)
 simp only at la ld
 have n1:=zby (T:=T) a (by omega)
 have n2:=zby (T:=T) d (by omega)
 have la2:=zae a
 have ld2:=zae d
 have ho:=zlv (T:=T) d
 have hg:=zt7 (T:=T) (ofN (val a)) (ofN (val d)) (by omega) (by omega)
 rw[zag,zag]at hg
 show _=some (efz (fz (mkRat (sg n (val a)) (val d))))
 by_cases hd:val d=0
 ·rw[hd,Rat.mkRat_zero,zuz,f231 _ rfl,b231]
  rw[hd]at n2
  simp -implicitDefEqProofs[n1,n2,show u32s [1]=[[u32 1]] from rfl]
 ·by_cases ha:val a=0
  ·have e0:mkRat (sg n (val a)) (val d)=0:=by rw[Rat.mkRat_eq_zero hd,ha];cases n<;>rfl
   have ed:¬ ofN (val d)=[]:=fun e=>hd (zau.1 e)
   rw[e0,zuz,f231 _ rfl,b231]
   rw[ha]at n1
   simp -implicitDefEqProofs[n1,n2,ed,show u32s [1]=[[u32 1]] from rfl]
  ·have ea:¬ ofN (val a)=[]:=fun e=>ha (zau.1 e)
   have ed:¬ ofN (val d)=[]:=fun e=>hd (zau.1 e)
   rw[z45 n (val a) hd,show decide (val a≠0)=true by grind,Bool.and_true]
   have gpos:Nat.gcd (val a) (val d)≠0:=by
    grind
   have glen:(ofN (Nat.gcd (val a) (val d))).length≤10000:=by
    have:=zar (Nat.gcd_le_right (val a) (Nat.pos_of_ne_zero hd))
    omega
   have o1:=zir (T:=T) (ofN (val a)) (ofN (Nat.gcd (val a) (val d))) (by omega) glen (by rw[zag];omega)
   have o2:=zir (T:=T) (ofN (val d)) (ofN (Nat.gcd (val a) (val d))) (by omega) glen (by rw[zag];omega)
   rw[zag,zag]at o1 o2
   rw[f231 _ rfl,b231]
   by_cases h1:val d=1
   ·rw[h1]at n2 ho ed ⊢
    rw[Nat.gcd_one_right,Nat.div_one,Nat.div_one]
    simp -implicitDefEqProofs[n1,n2,ho,ea,ed]
   ·generalize ofN (val d/Nat.gcd (val a) (val d))=D' at *
    simp -implicitDefEqProofs[n1,n2,ho,ea,ed,h1,hg,o1,o2]
theorem zit(x y:Fz)(hx:fsz x≤10000):callF T 233 [efz x,efz y]=some (.b (decide (x=y))):=by
 obtain⟨n,a,d⟩:=x
 obtain⟨m,b,e⟩:=y
 have la:=zz3 (n,a,d)
 have ld:=zz4 (n,a,d)
 simp only at la ld
 have c1:=zfa (T:=T) a b (by omega)
 have c2:=zfa (T:=T) d e (by omega)
 rw[f233 _ rfl,b233]
 by_cases h1:n=m
 ·subst h1
  by_cases h2:a=b
  ·subst h2
   by_cases h3:d=e
   ·simp -implicitDefEqProofs[c1,c2]
   ·simp -implicitDefEqProofs[c1,c2,h3]
  ·simp -implicitDefEqProofs[c1,h2]
 ·simp -implicitDefEqProofs[h1]
end
section
variable{T:Tbl}[CRef02 T][CRef04 T][CRef05 T][CRef07 T][CRef06 T][CRef08 T][CRef09 T][CRef11 T]
def stZ1(n i:Nat):St:=⟨[(0,.i .i64 n),(3,.bs (.loc 3) 1 3 0 i),(4,.i .i64 i)],[(.loc 3,⟨1,.own,3,rowF (List.replicate i (fz 0))⟩)],3⟩
def stN1(l:List Fz)(i:Nat):St:=⟨[(0,.sl (rowF l) .an),(3,.bs (.loc 3) 1 3 0 i),(4,.i .i64 i)],[(.loc 3,⟨1,.own,3,rowF (nrm (l.take i))⟩)],3⟩
def stS1(a b:List Fz)(i:Nat):St:=⟨[(0,.sl (rowF a) .an),(1,.sl (rowF b) .an),(5,.i .i64 i)],[],2⟩
def stA1(p q:List Rat)(i:Nat):St:=⟨[(0,.sl (rowF (fzs p)) .an),(1,.sl (rowF (fzs q)) .an),(5,.bs (.loc 5) 1 3 0 i),(6,.i .i64 i)],[(.loc 5,⟨1,.own,3,rowF (fzs ((addP p (fzs q)).take i))⟩)],3⟩
def stD1(p q:List Rat)(i:Nat):St:=⟨[(0,.sl (rowF (fzs p)) .an),(1,.sl (rowF (fzs q)) .an),(4,.ptr (.loc 4) 1 3 0 0),(5,.ptr (.loc 5) 2 3 0 0),(6,.i .i64 i)],
 [(.loc 4,⟨1,.str,3,[nocell]⟩),(.loc 5,⟨2,.str,3,[celF (fz (dotK (fzs p) (fzs q) i))]⟩)],4⟩
def longB(l:List Fz)(many words:Nat):Bool:=decide (many<l.length) || l.any fun x=>decide (words<fsz x)
def stL1(l:List Fz)(many words:Nat)(i:Nat):St:=⟨[(0,.sl (rowF l) .an),(1,.i .i64 many),(2,.i .i64 words),(7,.i .i64 i)],[],2⟩
end
def cap300(n:Int):Nat:=(min (max n 0) 300).toNat
section
variable{T:Tbl}[CNat T][CProd T][CTwos T][CQuot T][CQuotD T][CText T][CWhole T][CCommon T][CFrac T][CJoin T][CRow T]
def unitR(n i:Int):List Rat:=if 0≤i∧i<cap300 n then (List.replicate (cap300 n) 0).set i.toNat 1 else List.replicate (cap300 n) 0
end
section
variable{T:Tbl}[CRef02 T][CRef04 T][CRef05 T][CRef07 T][CRef06 T][CRef08 T][CRef09 T][CRef11 T]
def stZ1x(n:Int)(i:Nat):St:=⟨[(0,.i .i64 n),(3,.bs (.loc 3) 1 3 0 i),(4,.i .i64 i)],[(.loc 3,⟨1,.own,3,rowF (List.replicate i (fz 0))⟩)],3⟩
end
class CGrid (T:Tbl):Prop where
theorem ztn{α:Type}(l:List α){i:Nat}(h:i<l.length):l.take (i+1)=l.take i++[l[i]'h]:=List.take_succ_eq_append_getElem h
section
variable{T:Tbl}[CRef02 T][CRef04 T][CRef05 T][CRef07 T][CRef06 T][CRef08 T][CRef09 T][CRef11 T][CLaw09 T][CLaw11 T]
theorem zvz(x:Fz):callF T 249 [efz x]=some (efz x):=by
 rw[f249 _ rfl,b249]
 simp -implicitDefEqProofs
def stTo11(l:List Fz)(i:Nat):St:=⟨[(0,.sl (rowF l) .an),(3,.bs (.loc 3) 1 3 0 i),(4,.i .i64 i)],[((.loc 3),⟨1,.own,3,rowF (l.take i)⟩)],3⟩
def stOf11(l:List Fz)(i:Nat):St:=⟨[(0,.sl (rowF l) .an),(3,.bs (.loc 3) 1 3 0 i),(4,.i .i64 i)],[((.loc 3),⟨1,.own,3,rowF (l.take i)⟩)],3⟩
end
def widthM:List (List Fz)→Nat
 | []=>0
 | r::_=>r.length
def rightM(m:List (List Fz)):Bool:=m.all fun r=>decide (r.length=widthM m)
def colM(m:List (List Fz))(j:Nat):List Fz:=m.map fun r=>r.getD j (false,[],[])
def turnM(m:List (List Fz))(k:Nat):List (List Fz):=(List.range k).map fun j=>nrm (colM m j)
def scM(r:List Fz)(m:List (List Fz)):List (List Fz):=List.zipWith (fun x row=>scl (fv x) row) r m
def sumM:List (List Fz)→List Rat
 | []=>[]
 | r::m=>m.foldl addP (r.map fv)
def leftQ(r:List Fz)(m:List (List Fz)):List Rat:=sumM (scM r m)
def applyQ(m:List (List Fz))(c:List Fz):List Rat:=m.map fun r=>dotQ r c
section
variable{T:Tbl}[CNat T][CProd T][CTwos T][CQuot T][CQuotD T][CText T][CWhole T][CCommon T][CFrac T][CJoin T][CRow T][CGrid T]
def stGrR(m:List (List Fz))(i:Nat):St:=⟨[(0,.sl (matF m) .an),(5,.sl (matF m) .an),(6,.i .i64 m.length),(7,.i .i64 i)],[],2⟩
def stGrS(a b:List (List Fz))(i:Nat):St:=⟨[(1,.sl (matF b) .an),(12,.sl (matF a) .an),(13,.i .i64 a.length),(14,.i .i64 i)],[],2⟩
def idQ(k:Nat)(i:Nat):List (List Fz):=(List.range i).map fun j=>fzs ((List.replicate k 0).set j 1)
def stGrI(k:Nat)(i:Nat):St:=⟨[(0,.i .i64 k),(3,.bs (.loc 3) 1 1 0 i),(8,.i .i64 k),(9,.i .i64 i)],[((.loc 3),⟨1,.own,1,matF (idQ k i)⟩)],3⟩
def stGrT(m R:List (List Fz))(k j:Nat)(i:Nat):St:=⟨[(0,.sl (matF m) .an),(3,.bs (.loc 3) 1 1 0 j),(4,.i .i64 j),(5,.bs (.loc 5) 2 3 0 i),(12,.i .i64 k),(13,.i .i64 j),(16,.sl (matF m) .an),(17,.i .i64 m.length),(18,.i .i64 i)],[(.loc 3,⟨1,.own,1,matF R⟩),((.loc 5),⟨2,.own,3,rowF (nrm (colM (m.take i) j))⟩)],4⟩
def stTo12t(m:List (List Fz))(k:Nat)(i:Nat):St:=⟨[(0,.sl (matF m) .an),(3,.bs (.loc 3) 1 1 0 i),(12,.i .i64 k),(13,.i .i64 i)],[((.loc 3),⟨1,.own,1,matF (turnM m i)⟩)],3⟩
end
section
variable{T:Tbl}[CNat T][CProd T][CTwos T][CQuot T][CQuotD T][CText T][CWhole T][CCommon T][CFrac T][CJoin T][CRow T][CGrid T]
def stGrL(r:List Fz)(m:List (List Fz))(i:Nat):St:=⟨[(0,.sl (rowF r) .an),(6,.bs (.loc 6) 1 1 0 i),(19,.sl (matF m) .an),(20,.i .i64 m.length),(21,.i .i64 i)],[((.loc 6),⟨1,.own,1,matF (scM (r.take i) (m.take i))⟩)],3⟩
def stGrA(m:List (List Fz))(c:List Fz)(i:Nat):St:=⟨[(1,.sl (rowF c) .an),(6,.bs (.loc 6) 1 3 0 i),(21,.sl (matF m) .an),(22,.i .i64 m.length),(23,.i .i64 i)],[((.loc 6),⟨1,.own,3,rowF (fzs (applyQ (m.take i) c))⟩)],3⟩
def mulM(a b:List (List Fz)):List (List Fz):=a.map fun r=>fzs (leftQ r b)
def stGrM(a m:List (List Fz))(i:Nat):St:=⟨[(1,.sl (matF m) .an),(6,.bs (.loc 6) 1 1 0 i),(26,.sl (matF a) .an),(27,.i .i64 a.length),(28,.i .i64 i)],[((.loc 6),⟨1,.own,1,matF (mulM (a.take i) m)⟩)],3⟩
def addM(a b:List (List Fz)):List (List Fz):=List.zipWith (fun r s=>fzs (addP (r.map fv) s)) a b
def stGrP(a m:List (List Fz))(i:Nat):St:=⟨[(1,.sl (matF m) .an),(6,.bs (.loc 6) 1 1 0 i),(33,.sl (matF a) .an),(34,.i .i64 a.length),(35,.i .i64 i)],[((.loc 6),⟨1,.own,1,matF (addM (a.take i) (m.take i))⟩)],3⟩
end
def dotR:List Rat→List Rat→Rat
 | x::a,y::b=>x*y+dotR a b
 | _,_=>0
def valM(m:List (List Fz)):List (List Rat):=m.map fun r=>r.map fv
def fzM(L:List (List Rat)):List (List Fz):=L.map fzs
def widthQ:List (List Rat)→Nat
 | []=>0
 | r::_=>r.length
def rightQ(L:List (List Rat)):Bool:=L.all fun r=>decide (r.length=widthQ L)
def colQ(L:List (List Rat))(j:Nat):List Rat:=L.map fun p=>p.getD j 0
def turnQ(L:List (List Rat)):List (List Rat):=(List.range (widthQ L)).map (colQ L)
def applyR(L:List (List Rat))(c:List Rat):List Rat:=L.map fun p=>dotR p c
def leftR(r:List Rat)(L:List (List Rat)):List Rat:=applyR (turnQ L) r
def absQ(q:Rat):Rat:=if q<0 then -q else q
def sclR(c:Rat)(l:List Rat):List Rat:=l.map fun x=>c*x
def addR(a b:List Rat):List Rat:=List.zipWith (· + ·) a b
def maxStep(b x:Rat):Rat:=if b<absQ x then absQ x else b
def normR(l:List Rat):Rat:=l.foldl maxStep 0
def mixR:List (Rat×List Rat)→List Rat→List Rat
 | [],acc=>acc
 | p::l,acc=>mixR l (addR acc (sclR p.1 p.2))
def sqC:List UInt32→Nat
 | []=>0
 | x::r=>4294967296*(x.toNat*val r)+4294967296*4294967296*sqC r
def sqD:List UInt32→Nat
 | []=>0
 | x::r=>x.toNat*x.toNat+4294967296*4294967296*sqD r
section
variable{T:Tbl}[CLimb T][CNat T][CProd T][CTwos T][CPow T]
def stSqA(a X:List UInt32)(i:Nat):St:=
 ⟨[(0,.sl (u32s a) .an),(3,.bs (.loc 14) 1 1 0 (2*a.length+1)),(15,.sl (u32s a) .an),(16,.i .i64 a.length),(17,.i .i64 i)],[(.loc 14,⟨1,.own,1,u32s (X++List.replicate (a.length+1-i) 0)⟩)],3⟩
def stSqD(a X:List UInt32)(U:List (List AV))(i:Nat):St:=
 ⟨[(6,.sl U .an),(7,.bs (.loc 38) 1 1 0 (2*a.length)),(39,.sl (u32s a) .an),(40,.i .i64 a.length),(41,.i .i64 i)],[(.loc 38,⟨1,.own,1,u32s (X++List.replicate (2*a.length-2*i) 0)⟩)],3⟩
end
class CLaw12 (T:Tbl):Prop where
class CRef12 (T:Tbl):Prop where
section
variable{T:Tbl}[CRef02 T][CRef04 T][CRef05 T][CRef07 T][CRef06 T][CRef08 T][CRef09 T][CRef11 T][CRef12 T]
def stR12(m:List (List Fz))(i:Nat):St:=⟨[(0,.sl (matF m) .an),(3,.i .i64 i)],[],2⟩
def stN12(m:List (List Fz))(i:Nat):St:=⟨[(0,.sl (matF m) .an),(3,.bs (.loc 3) 1 1 0 i),(4,.i .i64 i)],[((.loc 3),⟨1,.own,1,matF (fzM (valM (m.take i)))⟩)],3⟩
def stS12(a b:List (List Fz))(i:Nat):St:=⟨[(0,.sl (matF a) .an),(1,.sl (matF b) .an),(5,.i .i64 i)],[],2⟩
def stI12(n:Int)(k:Nat)(i:Nat):St:=⟨[(0,.i .i64 n),(3,.bs (.loc 3) 1 1 0 i),(4,.i .i64 i)],[((.loc 3),⟨1,.own,1,matF (idQ k i)⟩)],3⟩
def stT12i(L:List (List Rat))(R:List (List Fz))(j:Nat)(i:Nat):St:=⟨[(0,.sl (matF (fzM L)) .an),(3,.bs (.loc 3) 1 1 0 j),(4,.i .i64 j),(5,.bs (.loc 5) 2 3 0 i),(6,.i .i64 i)],[(.loc 3,⟨1,.own,1,matF R⟩),((.loc 5),⟨2,.own,3,rowF (fzs (colQ (L.take i) j))⟩)],4⟩
def stT12o(L:List (List Rat))(i:Nat):St:=⟨[(0,.sl (matF (fzM L)) .an),(3,.bs (.loc 3) 1 1 0 i),(4,.i .i64 i)],[((.loc 3),⟨1,.own,1,matF (fzM ((List.range i).map (colQ L)))⟩)],3⟩
def stA12(L:List (List Rat))(c:List Rat)(i:Nat):St:=⟨[(0,.sl (matF (fzM L)) .an),(1,.sl (rowF (fzs c)) .an),(5,.bs (.loc 5) 1 3 0 i),(6,.i .i64 i)],[((.loc 5),⟨1,.own,3,rowF (fzs (applyR (L.take i) c))⟩)],3⟩
def longM(m:List (List Fz))(many words:Nat):Bool:=decide (many<m.length) || m.any fun r=>longB r many words
def stL12(m:List (List Fz))(many words:Nat)(i:Nat):St:=⟨[(0,.sl (matF m) .an),(1,.i .i64 many),(2,.i .i64 words),(7,.i .i64 i)],[],2⟩
end
section
variable{T:Tbl}[CNat T][CProd T][CTwos T][CQuot T][CQuotD T][CText T][CWhole T][CCommon T][CFrac T][CJoin T][CRow T][CGrid T][CRef02 T][CRef04 T][CRef05 T][CRef07 T][CRef06 T][CRef08 T][CRef09 T][CRef11 T][CRef12 T][CLaw09 T][CLaw11 T][CLaw12 T]
def stTo12(m:List (List Fz))(i:Nat):St:=⟨[(0,.sl (matF m) .an),(3,.bs (.loc 3) 1 1 0 i),(4,.i .i64 i)],[((.loc 3),⟨1,.own,1,matF (m.take i)⟩)],3⟩
def stI12s(a b:List (List Fz))(i:Nat):St:=⟨[(0,.sl (matF a) .an),(1,.sl (matF b) .an),(5,.i .i64 i)],[],2⟩
end
class CPoly (T:Tbl):Prop where
def tlen(l:List Rat):Nat→Nat
 | 0=>0
 | n+1=>if l.getD n 0=0 then tlen l n else n+1
def trimR(l:List Rat):List Rat:=l.take (tlen l l.length)
section
variable{T:Tbl}[CNat T][CProd T][CTwos T][CQuot T][CQuotD T][CText T][CWhole T][CCommon T][CFrac T][CJoin T][CRow T][CPoly T]
def evlR:List Rat→Rat→Rat
 | [],_=>0
 | a::l,x=>evlR l x*x+a
def dif(l:List Rat):List Rat:=(List.range (l.length-1)).map fun(i:Nat)=>(((i:Int)+1:Int):Rat)*l.getD (i+1) 0
def stDf(l:List Fz)(i:Nat):St:=⟨[(0,.sl (rowF l) .an),(3,.bs (.loc 3) 1 3 0 i),(4,.i .i64 ((i:Int)+1))],[((.loc 3),⟨1,.own,3,rowF (fzs ((dif (l.map fv)).take i))⟩)],3⟩
end
def sizF(x:Fz):Nat:=blen (val x.2.1)+blen (val x.2.2)
def sizL(l:List Fz):Nat:=l.foldl (fun n x=>max n (sizF x)) 0
section
variable{T:Tbl}[CLimb T][CNat T][CProd T][CTwos T][CQuot T][CQuotD T][CText T][CWhole T][CCommon T][CFrac T][CFrac2 T][CFrac5 T][CPow T][CJoin T][CRow T][CRow5 T]
def bestI(b c:Rat)(i:Nat):Rat:=if i=0 then 0 else if i=1 then b else (if b<c then c else b)
def stMx(b c:Rat)(i:Nat):St:=⟨[(2,.ptr (.loc 2) 1 3 0 0),(3,.ptr (.loc 3) 2 3 0 0),(7,.sl [celF (fz b),celF (fz c)] .an),(8,.i .i64 2),(9,.i .i64 i)],
 [(.loc 2,⟨1,.str,3,[nocell]⟩),(.loc 3,⟨2,.str,3,[celF (fz (bestI b c i))]⟩)],4⟩
def stRn(l:List Fz)(i:Nat):St:=⟨[(2,.ptr (.loc 2) 1 3 0 0),(3,.ptr (.loc 3) 2 3 0 0),(7,.sl (rowF l) .an),(8,.i .i64 l.length),(9,.i .i64 i)],
 [(.loc 2,⟨1,.str,3,[nocell]⟩),(.loc 3,⟨2,.str,3,[celF (fz (normR ((l.map fv).take i)))]⟩)],4⟩
def stRs(l:List Fz)(i:Nat):St:=⟨[(3,.i .i64 (sizL (l.take i))),(6,.sl (rowF l) .an),(7,.i .i64 l.length),(8,.i .i64 i)],[],2⟩
end
section
variable{T:Tbl}[CRef02 T][CRef04 T][CRef05 T][CRef07 T][CRef06 T][CRef08 T][CRef09 T][CRef11 T][CRef5 T]
def stSc(c:Rat)(p:List Rat)(i:Nat):St:=⟨[(1,.sl (rowF (fzs p)) .an),(2,.ptr (.loc 2) 1 3 0 0),(5,.bs (.loc 5) 2 3 0 i),(6,.i .i64 i)],
 [(.loc 2,⟨1,.str,3,[celF (fz c)]⟩),(.loc 5,⟨2,.own,3,rowF (fzs ((sclR c p).take i))⟩)],4⟩
def stRx(p:List Rat)(i:Nat):St:=⟨[(0,.sl (rowF (fzs p)) .an),(2,.ptr (.loc 2) 1 3 0 0),(3,.ptr (.loc 3) 2 3 0 0),(4,.i .i64 i)],
 [(.loc 2,⟨1,.str,3,[nocell]⟩),(.loc 3,⟨2,.str,3,[celF (fz (normR (p.take i)))]⟩)],4⟩
end
structure Ins where
 op:Int
 a:Int
 b:Int
 n:Fz
abbrev celI(i:Ins):List AV:=[.i .i64 i.op,.i .i64 i.a,.i .i64 i.b,.b i.n.1,.sl (u32s i.n.2.1) .an,.sl (u32s i.n.2.2) .an]
def rowI(l:List Ins):List (List AV):=l.map celI
@[simp] theorem zde(l:List Ins):(rowI l).length=l.length:=by simp[rowI]
@[simp] theorem zz6(l:List Ins):wkL (rowI l)=rowI l:=by rw[zcb];simp[rowI,wkR,wkA]
@[simp] theorem z8j(l:List Ins)(i:Nat)(h:i<(rowI l).length):(rowI l)[i]=celI (l[i]'(by simpa using h)):=by simp[rowI]
theorem zhl(l:List Ins)(x:Ins):rowI l++[celI x]=rowI (l++[x]):=by simp[rowI]
@[simp] theorem z47(l:List Ins)(n:Nat):(rowI l).take n=rowI (l.take n):=by simp[rowI]
@[simp] theorem zd2:rowI []=[]:=rfl
theorem zu0{m:List Ins}{n:Nat}(h:m.length=n)(x:Ins):wkL (rowI (List.take n m)++[celI x])=rowI (m++[x]):=by
 rw[List.take_of_length_le (by omega),zhl,zz6]
structure Tp where
 code:List Ins
 outs:List Int
 dim:Int
 par:Int
abbrev etp(t:Tp):AV:=.agg [.sl (rowI t.code) .an,.sl (ints t.outs) .an,.i .i64 t.dim,.i .i64 t.par]
def rightF(x:Fz):Bool:=decide (x=fz (fv x))
def blankF(x:Fz):Bool:=!x.1&&x.2.1.isEmpty&&x.2.2.isEmpty
def readsI(i:Ins):List Int:=if i.op=6∨i.op=11 then [i.a] else if 7≤i.op∧i.op≤10 then [i.a,i.b] else []
def belowB(i m:Int):Bool:=decide (0≤i)&&decide (i<m)
def mayI(dim par p:Int)(i:Ins):Bool:=
 if i.op=1 then decide (i.a=0)&&decide (i.b=0)&&rightF i.n
 else blankF i.n&&(readsI i).all (fun r=>belowB r p) &&
  (if i.op=2 then decide (i.a=0)&&decide (i.b=0)
   else if i.op=3 then belowB i.a dim&&decide (i.b=0)
   else if i.op=4 then belowB i.a par&&decide (i.b=0)
   else if i.op=6 then decide (i.b=0)
   else if i.op=11 then decide (-8≤i.b)&&decide (i.b≤8)
   else decide ((readsI i).length=2))
def firstI(dim par:Int):Nat→List Ins→Int
 | _,[]=>-1
 | p,i::r=>if mayI dim par p i then firstI dim par (p+1) r else p
def wholeT(t:Tp):Bool:=belowB (t.dim-1) 6&&belowB t.par 7&&decide ((t.outs.length:Int)=t.dim)&&decide (t.code.length≤300)
def wrongT(t:Tp):Int:=
 if wholeT t=false then -2 else if firstI t.dim t.par 0 t.code≠-1 then firstI t.dim t.par 0 t.code
 else if (t.outs.all fun o=>belowB o t.code.length)=false then t.code.length else -1
def okT(t:Tp):Bool:=decide (wrongT t=-1)
structure OkTp (t:Tp):Prop where
 d1:1≤t.dim
 d2:t.dim≤6
 p1:0≤t.par
 p2:t.par≤6
 ol:(t.outs.length:Int)=t.dim
 cl:t.code.length≤300
 may:∀(k:Nat) (i:Ins),t.code[k]? = some i→mayI t.dim t.par k i=true
 outs:∀o∈t.outs,0≤o∧o<t.code.length
structure Po where
 t:Rat
 y:List Rat
 p:List Rat
structure PoF where
 t:Fz
 y:List Fz
 p:List Fz
def PoF.v(x:PoF):Po:=⟨fv x.t,x.y.map fv,x.p.map fv⟩
def Po.f(x:Po):PoF:=⟨fz x.t,fzs x.y,fzs x.p⟩
abbrev ept(x:PoF):AV:=.agg [.b x.t.1,.sl (u32s x.t.2.1) .an,.sl (u32s x.t.2.2) .an,.sl (rowF x.y) .an,.sl (rowF x.p) .an]
def gI(l:List Rat)(i:Int):Rat:=l.getD i.toNat 0
def powZ(x:Rat)(e:Int):Rat:=x^e
def valI(P:Po)(D:List Rat)(i:Ins):Rat×Bool:=
 if i.op=1 then (fv i.n,true)
 else if i.op=3 then (gI P.y i.a,true)
 else if i.op=4 then (gI P.p i.a,true)
 else if i.op=6 then (-gI D i.a,true)
 else if i.op=7 then (gI D i.a+gI D i.b,true)
 else if i.op=8 then (gI D i.a-gI D i.b,true)
 else if i.op=9 then (gI D i.a*gI D i.b,true)
 else if i.op=10 then (gI D i.a/gI D i.b,decide (gI D i.b≠0))
 else if i.op=11 then (if i.b<0∧gI D i.a=0 then (0,false) else (powZ (gI D i.a) i.b,true))
 else (P.t,true)
def sizQ(q:Rat):Nat:=sizF (fz q)
def runR(lim:Nat)(P:Po):List Ins→List Rat→List Rat×Nat×Nat
 | [],D=>(D,0,0)
 | i::r,D=>if (valI P D i).2=false then ([],3,D.length) else if lim<sizQ (valI P D i).1 then ([],6,D.length) else runR lim P r (D++[(valI P D i).1])
abbrev tyI:Ty:=.cons (.int .i64) (.cons (.int .i64) (.cons (.int .i64) (.cons tyF .nil)))
abbrev tyT:Ty:=.cons (.sl tyI) (.cons (.sl (.int .i64)) (.cons (.int .i64) (.cons (.int .i64) .nil)))
abbrev tyP:Ty:=.cons tyF (.cons (.sl tyF) (.cons (.sl tyF) .nil))
structure Nd where
 op:Int
 i:Int
 n:List UInt32
 deriving DecidableEq
abbrev celN(x:Nd):List AV:=[.i .i64 x.op,.i .i64 x.i,.sl (u32s x.n) .an]
def rowN(l:List Nd):List (List AV):=l.map celN
@[simp] theorem zz7(l:List Nd):(rowN l).length=l.length:=by simp[rowN]
@[simp] theorem zz8(l:List Nd):wkL (rowN l)=rowN l:=by rw[zcb];simp[rowN,wkR,wkA]
@[simp] theorem z8k(l:List Nd)(i:Nat)(h:i<(rowN l).length):(rowN l)[i]=celN (l[i]'(by simpa using h)):=by simp[rowN]
theorem zu1(l:List Nd)(x:Nd):rowN l++[celN x]=rowN (l++[x]):=by simp[rowN]
@[simp] theorem z48(l:List Nd)(n:Nat):(rowN l).take n=rowN (l.take n):=by simp[rowN]
@[simp] theorem z8l:rowN []=[]:=rfl
theorem zl9{m:List Nd}{n:Nat}(h:m.length=n)(x:Nd):wkL (rowN (List.take n m)++[celN x])=rowN (m++[x]):=by
 rw[List.take_of_length_le (by omega),zu1,zz8]
@[simp] theorem z49(l:List Nd):Option.all (fun r:List AV=>decide (r.length=3)) (rowN l).head? = true:=by cases l<;>rfl
@[simp] theorem z5a(l:List Nd):rowZ 3 (rowN l)=true:=by cases l<;>rfl
@[simp] theorem zxo(l:List Nd):(rowN l).isEmpty=l.isEmpty:=by cases l<;>rfl
def rowC(l:List (List Nd)):List (List AV):=l.map fun c=>[.sl (rowN c) .an]
@[simp] theorem zeh(l:List (List Nd)):(rowC l).length=l.length:=by simp[rowC]
@[simp] theorem zz9(l:List (List Nd)):wkL (rowC l)=rowC l:=by rw[zcb];simp[rowC,wkR,wkA]
@[simp] theorem z8m(l:List (List Nd))(i:Nat)(h:i<(rowC l).length):(rowC l)[i]=[.sl (rowN (l[i]'(by simpa using h))) .an]:=by simp[rowC]
theorem zu2(l:List (List Nd))(x:List Nd):rowC l++[[.sl (rowN x) .an]]=rowC (l++[x]):=by simp[rowC]
@[simp] theorem z8n:rowC []=[]:=rfl
def arN(op:Int):Int:=if 1≤op∧op≤5 then 0 else if op=6∨op=11 then 1 else if 7≤op∧op≤10 then 2 else -1
theorem za4(op:Int):(arN op=0∧1≤op∧op≤5)∨(arN op=1∧(op=6∨op=11))∨(arN op=2∧7≤op∧op≤10)∨(arN op=-1∧(op<1∨11<op)):=by
 unfold arN
 split
 ·left;omega
 ·split
  ·right;left;omega
  ·split
   ·right;right;left;omega
   ·right;right;right;omega
def wrongL:Nat→Int→List Nd→Int
 | i,o,[]=>if o=1 then -1 else i
 | i,o,x::r=>if arN x.op<0∨o<arN x.op then i else wrongL (i+1) (o+1-arN x.op) r
def wrongN(l:List Nd):Int:=wrongL 0 0 l
def openN(o:Int)(l:List Nd):Int:=l.foldl (fun o x=>o+1-arN x.op) o
def goL:Nat→Int→List Nd→Option Nat×Int
 | _,o,[]=>(none,o)
 | i,o,x::r=>if arN x.op<0∨o<arN x.op then (some i,o) else goL (i+1) (o+1-arN x.op) r
theorem zhm:∀(l:List Nd) (i:Nat) (o:Int),wrongL i o l=match goL i o l with
  | (some k,_)=>(k:Int)
  | (none,p)=>if p=1 then -1 else i+l.length
 | [],i,o=>by simp[wrongL,goL]
 | x::r,i,o=>by
  unfold wrongL goL
  by_cases h:arN x.op<0∨o<arN x.op
  ·rw[if_pos h,if_pos h]
  ·rw[if_neg h,if_neg h,zhm r (i+1) (o+1-arN x.op)]
   generalize goL (i+1) (o+1-arN x.op) r=G
   obtain⟨_ | k,p⟩:=G
   ·dsimp only
    by_cases hp:p=1
    ·rw[if_pos hp,if_pos hp]
    ·rw[if_neg hp,if_neg hp,List.length_cons];omega
   ·rfl
def wordsB(n:List UInt32):Bool:=decide (n=ofN (val n))&&decide ((textN (val n)).length≤60)
def belB(i m:Int):Bool:=decide (0≤i)&&decide (i<m)
def okN(dim pars lets:Int)(x:Nd):Bool:=
 if x.op=1 then decide (x.i=0)&&wordsB x.n
 else if x.n≠[]∨x.op<1∨11<x.op then false
 else if x.op=3 then belB x.i dim else if x.op=4 then belB x.i pars else if x.op=5 then belB x.i lets
 else if x.op=11 then decide (-8≤x.i)&&decide (x.i≤8)
 else decide (x.i=0)
def placeL(dim pars lets w:Int):Nat→List Nd→Int
 | _,[]=>w
 | i,x::r=>if (i:Int)=w∨okN dim pars lets x=false then i else placeL dim pars lets w (i+1) r
def findL(dim pars lets w:Int):Nat→List Nd→Option Nat
 | _,[]=>none
 | i,x::r=>if (i:Int)=w∨okN dim pars lets x=false then some i else findL dim pars lets w (i+1) r
theorem zei(dim pars lets w:Int):∀(l:List Nd) (i:Nat),placeL dim pars lets w i l=match findL dim pars lets w i l with
  | some k=>(k:Int)
  | none=>w
 | [],i=>rfl
 | x::r,i=>by
  unfold placeL findL
  by_cases h:(i:Int)=w∨okN dim pars lets x=false
  ·rw[if_pos h,if_pos h]
  ·rw[if_neg h,if_neg h,zei dim pars lets w r (i+1)]
def placeN(dim pars lets:Int)(l:List Nd):Int:=placeL dim pars lets (wrongN l) 0 l
inductive Tre where
 | leaf (x:Nd)
 | un (x:Nd) (a:Tre)
 | bin (x:Nd) (a b:Tre)
def Tre.flat:Tre→List Nd
 | .leaf x=>[x]
 | .un x a=>a.flat++[x]
 | .bin x a b=>a.flat++(b.flat++[x])
def Tre.ok:Tre→Prop
 | .leaf x=>arN x.op=0
 | .un x a=>arN x.op=1∧a.ok
 | .bin x a b=>arN x.op=2∧a.ok∧b.ok
def Tre.deep:Tre→Nat
 | .leaf _=>1
 | .un _ a=>a.deep+1
 | .bin _ a b=>max a.deep b.deep+1
def flats(s:List Tre):List Nd:=s.flatMap Tre.flat
theorem zdf:∀(l:List Nd) (i:Nat) (s:List Tre),(∀t∈s,t.ok)→wrongL i s.length l=-1→∃t:Tre,t.ok∧t.flat=flats s++l
 | [],i,s,hs,h=>by
  unfold wrongL at h
  by_cases h1:(s.length:Int)=1
  ·obtain⟨t,rfl⟩:=List.length_eq_one_iff.1 (show s.length=1 by omega)
   exact⟨t,hs t (by simp),by simp[flats]⟩
  ·rw[if_neg h1]at h;omega
 | x::r,i,s,hs,h=>by
  unfold wrongL at h
  by_cases h1:arN x.op<0∨(s.length:Int)<arN x.op
  ·rw[if_pos h1]at h;omega
  ·rw[if_neg h1]at h
   rcases za4 x.op with ⟨e,_⟩ | ⟨e,_⟩ | ⟨e,_⟩ | ⟨e,_⟩
   ·rw[e]at h
    obtain⟨t,h2,h3⟩:=zdf r (i+1) (s++[.leaf x]) (by
     intro t ht
     rcases List.mem_append.1 ht with ht | ht
     ·exact hs t ht
     ·rw[List.mem_singleton.1 ht];exact e) (by rw[←h];congr 1;simp)
    exact⟨t,h2,by rw[h3];simp[flats,Tre.flat]⟩
   ·rw[e]at h h1
    obtain⟨s',a,rfl⟩:=List.eq_nil_or_concat s |>.resolve_left (by rintro rfl;simp at h1)
    rw[List.concat_eq_append]at *
    obtain⟨t,h2,h3⟩:=zdf r (i+1) (s'++[.un x a]) (by
     intro t ht
     rcases List.mem_append.1 ht with ht | ht
     ·exact hs t (by simp[ht])
     ·rw[List.mem_singleton.1 ht];exact⟨e,hs a (by simp)⟩) (by rw[←h];congr 1;simp)
    exact⟨t,h2,by rw[h3];simp[flats,Tre.flat]⟩
   ·rw[e]at h h1
    obtain⟨s1,b,rfl⟩:=List.eq_nil_or_concat s |>.resolve_left (by rintro rfl;simp at h1)
    rw[List.concat_eq_append]at *
    obtain⟨s2,a,rfl⟩:=List.eq_nil_or_concat s1 |>.resolve_left (by rintro rfl;simp at h1)
    rw[List.concat_eq_append]at *
    obtain⟨t,h2,h3⟩:=zdf r (i+1) (s2++[.bin x a b]) (by
     intro t ht
     rcases List.mem_append.1 ht with ht | ht
     ·exact hs t (by simp[ht])
     ·rw[List.mem_singleton.1 ht];exact⟨e,hs a (by simp),hs b (by simp)⟩) (by rw[←h];congr 1;simp;omega)
    exact⟨t,h2,by rw[h3];simp[flats,Tre.flat]⟩
   ·omega
theorem znw{l:List Nd}(h:wrongN l=-1):∃t:Tre,t.ok∧t.flat=l:=by
 obtain⟨t,h1,h2⟩:=zdf l 0 [] (by simp) h
 exact⟨t,h1,by simpa[flats]using h2⟩
theorem zdg:∀(t:Tre),t.ok→∀(i:Nat) (o:Int) (r:List Nd),0≤o→wrongL i o (t.flat++r)=wrongL (i+t.flat.length) (o+1) r
 | .leaf x,h,i,o,r,ho=>by
  have e:arN x.op=0:=h
  show wrongL i o (x::r)=_
  rw[wrongL,if_neg (by omega),e]
  simp[Tre.flat]
 | .un x a,h,i,o,r,ho=>by
  have e:arN x.op=1:=h.1
  rw[Tre.flat,List.append_assoc,zdg a h.2 i o _ ho]
  show wrongL _ _ (x::r)=_
  rw[wrongL,if_neg (by omega),e]
  congr 1
  ·simp;omega
  ·omega
 | .bin x a b,h,i,o,r,ho=>by
  have e:arN x.op=2:=h.1
  rw[Tre.flat,List.append_assoc,zdg a h.2.1 i o _ ho,List.append_assoc,zdg b h.2.2 _ _ _ (by omega)]
  show wrongL _ _ (x::r)=_
  rw[wrongL,if_neg (by omega),e]
  congr 1
  ·simp;omega
  ·omega
theorem zdh{t:Tre}(h:t.ok):wrongN t.flat=-1:=by
 have:=zdg t h 0 0 [] (by decide)
 rw[List.append_nil]at this
 unfold wrongN
 rw[this];rfl
theorem zdv:∀(l:List Nd) (i:Nat) (o:Int),wrongL i o l=-1∨(i≤wrongL i o l∧wrongL i o l≤i+l.length)
 | [],i,o=>by
  unfold wrongL
  split
  ·left;rfl
  ·right;simp
 | x::r,i,o=>by
  unfold wrongL
  split
  ·right;simp;omega
  ·rcases zdv r (i+1) (o+1-arN x.op) with h | h
   ·left;exact h
   ·right;simp only[List.length_cons];omega
theorem zhn(dim pars lets w:Int):∀(l:List Nd) (i:Nat),placeL dim pars lets w i l<0→w<0∧∀x∈l,okN dim pars lets x=true
 | [],i,h=>⟨h,by simp⟩
 | x::r,i,h=>by
  unfold placeL at h
  split at h
  ·omega
  ·next h1=>
   obtain⟨h2,h3⟩:=zhn dim pars lets w r (i+1) h
   refine⟨h2,fun y hy=>?_⟩
   rcases List.mem_cons.1 hy with rfl | hy
   ·cases hk:okN dim pars lets y with
    | true=>rfl
    | false=>exact absurd (.inr hk) h1
   ·exact h3 y hy
theorem zma(dim pars lets w:Int):∀(l:List Nd) (i:Nat),placeL dim pars lets w i l=w∨(i≤placeL dim pars lets w i l∧placeL dim pars lets w i l<i+l.length)
 | [],i=>.inl rfl
 | x::r,i=>by
  unfold placeL
  split
  ·right;simp only[List.length_cons];omega
  ·rcases zma dim pars lets w r (i+1) with h | h
   ·left;exact h
   ·right;simp only[List.length_cons];omega
theorem zb1{dim pars lets:Int}{l:List Nd}(h:placeN dim pars lets l<0):∃t:Tre,t.ok∧t.flat=l∧∀x∈l,okN dim pars lets x=true:=by
 obtain⟨h1,h2⟩:=zhn dim pars lets _ l 0 h
 have h3:wrongN l=-1:=by
  rcases zdv l 0 0 with h | h
  ·exact h
  ·unfold wrongN at h1;omega
 obtain⟨t,h4,h5⟩:=znw h3
 exact⟨t,h4,h5,h2⟩
theorem zmb(dim pars lets:Int)(l:List Nd):placeN dim pars lets l=-1∨(0≤placeN dim pars lets l∧placeN dim pars lets l≤l.length):=by
 unfold placeN
 rcases zma dim pars lets (wrongN l) l 0 with h | h
 ·rw[h]
  unfold wrongN
  rcases zdv l 0 0 with h | h<;>omega
 ·right;omega
theorem zi1{a:List UInt32}:(ofN (val a)).length=a.length↔a=ofN (val a):=by
 constructor
 ·intro h
  obtain⟨n,h1,h2,_⟩:=zd1 a
  have h3:n=a.length:=by
   have:=congrArg List.length h2
   rw[List.length_take,h]at this
   omega
  rw[h3,List.take_length]at h2
  exact h2
 ·intro h;exact(congrArg List.length h).symm
structure Lt where
 name:List UInt8
 code:List Nd
abbrev celLt(x:Lt):List AV:=[.s x.name,.sl (rowN x.code) .an]
def rowLt(l:List Lt):List (List AV):=l.map celLt
@[simp] theorem zxl(l:List Lt):(rowLt l).length=l.length:=by simp[rowLt]
@[simp] theorem z8g(l:List Lt):wkL (rowLt l)=rowLt l:=by rw[zcb];simp[rowLt,wkR,wkA]
@[simp] theorem z41(l:List Lt)(i:Nat)(h:i<(rowLt l).length):(rowLt l)[i]=celLt (l[i]'(by simpa using h)):=by simp[rowLt]
@[simp] theorem z42:rowLt []=[]:=rfl
structure Fd where
 lets:List Lt
 outs:List (List Nd)
abbrev efd(f:Fd):AV:=.agg [.sl (rowLt f.lets) .an,.sl (rowC f.outs) .an]
def codesD(f:Fd):List (List Nd):=f.lets.map (·.code)++f.outs
abbrev tyN:Ty:=.cons (.int .i64) (.cons (.int .i64) (.cons (.sl (.int .u32)) .nil))
abbrev tyL:Ty:=.cons .str (.cons (.sl tyN) .nil)
abbrev tyD:Ty:=.cons (.sl tyL) (.cons (.sl (.sl tyN)) .nil)
theorem z4n{cs:List AV}(h:Ok tyN cs):∃x:Nd,wkR cs=celN x:=by
 obtain⟨c1,c1',rfl,⟨a,rfl,_⟩,c2,c2',rfl,⟨b,rfl,_⟩,c3,c3',rfl,⟨els,f,rfl,_,_,he⟩,rfl⟩:=h
 obtain⟨l,rfl⟩:=zow els he
 exact⟨⟨a,b,l⟩,by simp[wkA,wkR]⟩
theorem zle:∀(els:List (List AV)),(∀r∈els,Ok tyN r)→∃l:List Nd,wkL els=rowN l
 | [],_=>⟨[],rfl⟩
 | r::els,h=>by
  obtain⟨l,hl⟩:=zle els fun r hr=>h r (List.mem_cons_of_mem _ hr)
  obtain⟨x,hx⟩:=z4n (h r List.mem_cons_self)
  refine⟨x::l,?_⟩
  simp only[wkL,hx,hl]
  rfl
theorem zp3{cs:List AV}(h:Ok (.sl tyN) cs):∃l:List Nd,wkR cs=[.sl (rowN l) .an]:=by
 obtain⟨els,f,rfl,_,_,he⟩:=h
 obtain⟨l,hl⟩:=zle els he
 exact⟨l,by simp[wkR,wkA,hl]⟩
theorem zvv{x:AV}(h:OkArg (false,.sl tyN) x):∃l:List Nd,wkA x=.sl (rowN l) .an:=by
 obtain⟨l,hl⟩:=zp3 h
 exact⟨l,by simpa[wkR]using hl⟩
abbrev tyIn:Ty:=.cons (.sl tyF) (.cons (.int .i64) .nil)
end Go.Ab
section
namespace Go.Proofs.YtfgfjicelfagcaaGreatDoor
open Go Go.Ab Go.ChangeShapes Go.WideShapes Go.ChangeAt Go.RowKit
theorem Tryz.own:ownKnob Tryz.prog.godebug=none:=by kernel_rfl
theorem Tryz.laidOut:laidOutB Tryz.prog=true:=by kernel_rfl
theorem Tryz.mixed:Tryz.prog.follows .mixedOrders=true:=by kernel_rfl
theorem Tryz.rowed:mapsRowed Tryz.prog=true:=by kernel_rfl
theorem Tryz.heard:Tryz.prog.stopsHeard=true:=by kernel_rfl
theorem Tryz.enters:Tryz.prog.mayEnter=true:=by kernel_rfl
theorem Tryz.keys:Tryz.prog.plainKeys=Rows.compFieldsRow.plainKeys:=by kernel_rfl
theorem Tryz.lifts:Tryz.prog.liftsFinal=Rows.compFieldsRow.lifted:=by kernel_rfl
theorem Tryz.makes:Tryz.prog.make=some Rows.compFieldsRow.make:=by kernel_rfl
def laid2:List (String×DataW Unit):=[("unicode/utf8.acceptRanges",Rows.laid_unicode_utf8_acceptRanges),("unicode/utf8.first",Rows.laid_unicode_utf8_first)]
noncomputable def laidWorld(os:Os):World:=
 let put (h:Array Obj) (g:Nat) (cs:Array Value):Array Obj:=h.modify g fun
  | .cells _ t frozen=>.cells cs t frozen
  | o=>o
 let w0:=World.holding Tryz.prog os ⟨#[],#[],[]⟩
 let h1:=put w0.heap 0 (Lib.firstTab.map fun z=>Value.int .u8 z).toArray
 let h2:=put h1 1 ((List.range 16).flatMap fun i=>[Value.int .u8 (Lib.accLo i),Value.int .u8 (Lib.accHi i)]).toArray
 { w0 with heap:=h2 }
theorem laid_met(os:Os)(args:Array Value):laidMetH Tryz.prog laid2 ((laidWorld os).forCall (fun _ _=>0) ⟨#[],args,[]⟩).memory:=
 laidMetH_of_parts3 (fuel:=8) (laidMet_of_run' 8 (by kernel_rfl) (by kernel_rfl)) (by kernel_rfl) (by kernel_rfl)
theorem laid_shaped(os:Os):(laidWorld os).Shaped Tryz.prog:=World.shaped_of_RefB (by kernel_rfl) (by kernel_rfl)
theorem tab_all:TOk Tryz.prog nu (fun u=>lTab.lookup u):=lTab_ok (text_ok Tryz.mixed) (sign_ok)
end Go.Proofs.YtfgfjicelfagcaaGreatDoor
end
namespace Go.Ab
section
variable{T:Tbl}[CTree T]
theorem zb0(op:Int):callF T 76 [.i .i64 op]=some (.i .i64 (arN op)):=by
 rw[f76 _ rfl,b76]
 by_cases h:1≤op∧op≤11
 ·rcases(show op=1∨op=2∨op=3∨op=4∨op=5∨op=6∨op=7∨op=8∨op=9∨op=10∨op=11 by omega) with rfl | rfl | rfl | rfl | rfl | rfl | rfl | rfl | rfl | rfl | rfl<;>simp -implicitDefEqProofs[arN]
 ·have e:arN op=-1:=by rcases za4 op with h1 | h1 | h1 | h1<;>omega
  have h1:op≠1:=by omega
  have h2:op≠2:=by omega
  have h3:op≠3:=by omega
  have h4:op≠4:=by omega
  have h5:op≠5:=by omega
  have h6:op≠6:=by omega
  have h7:op≠7:=by omega
  have h8:op≠8:=by omega
  have h9:op≠9:=by omega
  have h10:op≠10:=by omega
  have h11:op≠11:=by omega
  rw[e]
  simp -implicitDefEqProofs[h1,h2,h3,h4,h5,h6,h7,h8,h9,h10,h11]
def stWr(l:List Nd)(p:Nat×Int):St:=⟨[(0,.sl (rowN l) .an),(3,.i .i64 p.2),(7,.sl (rowN l) .an),(8,.i .i64 l.length),(9,.i .i64 p.1)],[],2⟩
theorem zhc(l:List Nd)(hl:l.length≤4294967296):∀p:Nat×Int,(p.1≤l.length∧0≤p.2∧p.2≤p.1)→loopN T 0 0 (.norm false [0,3]) l74_0 (stWr l p) =
  match goL p.1 p.2 (l.drop p.1) with
  | (some k,_)=>some (.r,⟨[(2,.i .i64 (k:Nat))],[],2⟩)
  | (none,o)=>some (.n,⟨[(0,.sl (rowN l) .an),(3,.i .i64 o)],[],2⟩):=by
 refine zaw (stWr l) _ (fun p=>l.length-p.1) _ ?_
 rintro⟨i,o⟩ ⟨hi,ho,ho2⟩
 dsimp only at *
 by_cases h:i<l.length
 ·have hg:l[i]? = some (l[i]'h):=List.getElem?_eq_getElem h
  have hd:l.drop i=l[i]'h::l.drop (i+1):=List.drop_eq_getElem_cons h
  have ca:=zb0 (T:=T) (l[i]'h).op
  have h':(i:Int)<l.length:=by omega
  have hws:=zbg h (by omega)
  rw[hd,goL]
  generalize hx:l[i]'h=x at *
  clear hd
  rcases za4 x.op with ⟨e,_⟩ | ⟨e,_⟩ | ⟨e,_⟩ | ⟨e,_⟩
  ·left
   rw[e]at ca ⊢
   have hw:IntKind.wrap .i64 (o+1)=o+1:=zab _ (by omega)
   refine⟨(i+1,o+1),⟨by omega,by omega,by dsimp only;omega⟩,by dsimp only;omega,?_,?_⟩
   ·unfold stWr
    simp -implicitDefEqProofs[l74_0,h,h',hg,hx,hws,ca,hw,ho]
   ·rw[if_neg (by omega)]
    simp
  ·rw[e]at ca ⊢
   by_cases hc:o<1
   ·right
    rw[if_pos (by omega)]
    unfold stWr
    constructor<;>simp -implicitDefEqProofs[l74_0,h,h',hg,hx,ca,hc]
   ·left
    have hw:IntKind.wrap .i64 o=o:=zab _ (by omega)
    refine⟨(i+1,o),⟨by omega,by omega,by dsimp only;omega⟩,by dsimp only;omega,?_,?_⟩
    ·unfold stWr
     simp -implicitDefEqProofs[l74_0,h,h',hg,hx,hws,ca,hw,hc]
    ·rw[if_neg (by omega)]
     simp
  ·rw[e]at ca ⊢
   by_cases hc:o<2
   ·right
    rw[if_pos (by omega)]
    unfold stWr
    constructor<;>simp -implicitDefEqProofs[l74_0,h,h',hg,hx,ca,hc]
   ·left
    have hw:IntKind.wrap .i64 (o + -1)=o-1:=zab _ (by omega)
    refine⟨(i+1,o-1),⟨by omega,by omega,by dsimp only;omega⟩,by dsimp only;omega,?_,?_⟩
    ·unfold stWr
     simp -implicitDefEqProofs[l74_0,h,h',hg,hx,hws,ca,hw,hc]
    ·rw[if_neg (by omega)]
     dsimp only
     rw[show o+1-2=o-1 by omega]
  ·right
   rw[e]at ca ⊢
   rw[if_pos (by omega)]
   unfold stWr
   constructor<;>simp -implicitDefEqProofs[l74_0,h,h',hg,hx,ca]
 ·have:i=l.length:=by omega
  subst this
  right
  rw[List.drop_length,goL]
  unfold stWr
  constructor<;>simp -implicitDefEqProofs[l74_0]
theorem ziu(l:List Nd)(hl:l.length≤4294967296):callF T 74 [.sl (rowN l) .an]=some (.i .i64 (wrongN l)):=by
 have hlo:=zhc (T:=T) l hl (0,0) ⟨Nat.zero_le _,by decide,by decide⟩
 have hw:=zhm l 0 0
 unfold wrongN
 rw[hw]
 unfold stWr at hlo
 simp only[List.drop_zero,Int.natCast_zero]at hlo
 rw[f74 _ rfl,b74]
 generalize goL 0 0 l=G at *
 obtain⟨_ | k,o⟩:=G
 ·dsimp only at hlo ⊢
  by_cases h:o=1
  ·subst h
   simp -implicitDefEqProofs[hlo]
  ·simp -implicitDefEqProofs[hlo,h]
 ·dsimp only at hlo ⊢
  simp -implicitDefEqProofs[hlo]
theorem zqx(l:List Nd)(hl:l.length≤4294967296):callF T 44 [.sl (rowN l) .an]=some (.b (decide (wrongN l=-1))):=by
 have c:=ziu (T:=T) l hl
 have e:decide (wrongN l<0)=decide (wrongN l=-1):=by
  rcases zdv l 0 0 with h | h
  ·unfold wrongN;rw[h];rfl
  ·have:¬ wrongN l<0:=by unfold wrongN;omega
   have h2:¬ wrongN l=-1:=by omega
   rw[decide_eq_false this,decide_eq_false h2]
 rw[f44 _ rfl,b44,←e]
 generalize wrongN l=w at *
 simp -implicitDefEqProofs[c]
theorem zed(i m:Int):callF T 108 [.i .i64 i,.i .i64 m]=some (.b (belB i m)):=by
 rw[f108 _ rfl,b108]
 unfold belB
 by_cases h:0≤i
 ·by_cases h2:i<m<;>simp -implicitDefEqProofs[h,h2]
 ·simp -implicitDefEqProofs[h]
variable[CLimb T][CNat T][CText T][CLenD T]
theorem lenD(n:Nat)(h:(ofN n).length≤1000):callF T 129 [.sl (u32s (ofN n)) .an]=some (.i .i64 (textN n).length):=by
 have c:callF T 68 [.sl (u32s (ofN n)) .an]=some (.s (textN n)):=by
  rw[p68,zhe _ (by omega),zag]
 rw[f129 _ rfl,b129]
 generalize ofN n=N at *
 simp -implicitDefEqProofs[c]
theorem zly(n:List UInt32)(hn:n.length≤1000):callF T 107 [.sl (u32s n) .an]=some (.b (wordsB n)):=by
 have c1:=zbq (T:=T) n (by omega)
 unfold wordsB
 by_cases h:n=ofN (val n)
 ·have c2:=lenD (T:=T) (val n) (by rw[←h];exact hn)
  rw[←h]at c1 c2
  rw[decide_eq_true h]
  rw[f107 _ rfl,b107]
  generalize (textN (val n)).length=L at *
  by_cases h2:L≤60
  ·have h2':(L:Int)≤60:=by omega
   simp -implicitDefEqProofs[c1,c2,h2,h2']
  ·have h2':¬ (L:Int)≤60:=by omega
   simp -implicitDefEqProofs[c1,c2,h2,h2']
 ·have h2:¬ ((ofN (val n)).length:Int)=n.length:=fun hh=>h (zi1.1 (by omega))
  have h3:¬ (ofN (val n)).length=n.length:=fun hh=>h (zi1.1 hh)
  rw[decide_eq_false h]
  rw[f107 _ rfl,b107]
  generalize ofN (val n)=N at *
  simp -implicitDefEqProofs[c1,h2,h3]
theorem zqy(x:Nd)(dim pars lets:Int)(hn:x.n.length≤1000):callF T 75 [.agg (celN x),.i .i64 dim,.i .i64 pars,.i .i64 lets]=some (.b (okN dim pars lets x)):=by
 have c1:=zly (T:=T) x.n hn
 have c3:=zed (T:=T) x.i dim
 have c4:=zed (T:=T) x.i pars
 have c5:=zed (T:=T) x.i lets
 have ca:=zb0 (T:=T) x.op
 obtain⟨op,i,n⟩:=x
 dsimp only at *
 rw[f75 _ rfl,b75]
 unfold okN
 dsimp only
 generalize wordsB n=W at *
 generalize belB i dim=B3 at *
 generalize belB i pars=B4 at *
 generalize belB i lets=B5 at *
 by_cases h1:op=1
 ·subst h1
  by_cases hi:i=0
  ·subst hi
   simp -implicitDefEqProofs[c1]
  ·simp -implicitDefEqProofs[hi]
 rw[if_neg h1]
 by_cases hne:n=[]
 ·subst hne
  by_cases h3:op=3
  ·subst h3;simp -implicitDefEqProofs[c3]
  by_cases h4:op=4
  ·subst h4;simp -implicitDefEqProofs[c4]
  by_cases h5:op=5
  ·subst h5;simp -implicitDefEqProofs[c5]
  by_cases h11:op=11
  ·subst h11
   by_cases ha:-8≤i
   ·by_cases hb:i≤8<;>simp -implicitDefEqProofs[ha,hb]
   ·simp -implicitDefEqProofs[ha]
  by_cases hi:i=0
  ·subst hi
   rcases za4 op with ⟨e,h⟩ | ⟨e,h⟩ | ⟨e,h⟩ | ⟨e,h⟩
   ·rw[e]at ca
    have g1:¬ op<1:=by omega
    have g2:¬ 11<op:=by omega
    simp -implicitDefEqProofs[h1,h3,h4,h5,h11,ca,g1,g2]
   ·rw[e]at ca
    have g1:¬ op<1:=by omega
    have g2:¬ 11<op:=by omega
    simp -implicitDefEqProofs[h1,h3,h4,h5,h11,ca,g1,g2]
   ·rw[e]at ca
    have g1:¬ op<1:=by omega
    have g2:¬ 11<op:=by omega
    simp -implicitDefEqProofs[h1,h3,h4,h5,h11,ca,g1,g2]
   ·rw[e]at ca
    simp -implicitDefEqProofs[h1,h3,h4,h5,h11,ca,h]
  ·have hb:(if (([]:List UInt32)≠[]∨op<1∨11<op) then false else if op=3 then B3 else if op=4 then B4 else if op=5 then B5 else if op=11 then decide (-8≤i)&&decide (i≤8) else decide (i=0))=false:=by
    split
    ·rfl
    ·exact decide_eq_false hi
   rw[hb]
   simp -implicitDefEqProofs[h1,h3,h4,h5,h11,hi]
 ·have hp:0<n.length:=List.length_pos_iff.2 hne
  rw[if_pos (.inl hne)]
  simp -implicitDefEqProofs[h1,hp,hne]
def stPl(l:List Nd)(dim pars lets w:Int)(i:Nat):St:=⟨[(1,.i .i64 dim),(2,.i .i64 pars),(3,.i .i64 lets),(9,.i .i64 w),(14,.sl (rowN l) .an),(15,.i .i64 l.length),(16,.i .i64 i)],[],2⟩
theorem zfp(l:List Nd)(dim pars lets w:Int)(hl:l.length≤4294967296)(hn:∀x∈l,x.n.length≤1000)(hw:w<0∨(w:Int)≤l.length):loopN T 0 0 (.norm false [9]) l46_0 (stPl l dim pars lets w 0) =
  match findL dim pars lets w 0 l with
  | some k=>some (.r,⟨[(8,.i .i64 (k:Nat))],[],2⟩)
  | none=>some (.n,⟨[(9,.i .i64 w)],[],2⟩):=by
 have e0:l.drop 0=l:=rfl
 rw[←e0]
 refine zbx (stPl l dim pars lets w) l.length (fun i=>match findL dim pars lets w i (l.drop i) with
  | some k=>some (.r,⟨[(8,.i .i64 (k:Nat))],[],2⟩)
  | none=>some (.n,⟨[(9,.i .i64 w)],[],2⟩)) (fun i hi=>?_) ?_
 ·have hg:l[i]? = some (l[i]'hi):=List.getElem?_eq_getElem hi
  have hd:l.drop i=l[i]'hi::l.drop (i+1):=List.drop_eq_getElem_cons hi
  have cn:=zqy (T:=T) (l[i]'hi) dim pars lets (hn _ (List.getElem_mem hi))
  have hi':(i:Int)<l.length:=by omega
  have hws:=zbg hi (by omega)
  generalize hx:l[i]'hi=x at *
  rw[hd,findL]
  clear hd
  by_cases h1:(i:Int)=w
  ·right
   rw[if_pos (.inl h1)]
   subst h1
   unfold stPl
   constructor<;>simp -implicitDefEqProofs[l46_0,hi,hi',hg,hx]
  ·generalize okN dim pars lets x=B at *
   cases B with
   | false=>
    right
    rw[if_pos (.inr rfl)]
    unfold stPl
    constructor<;>simp -implicitDefEqProofs[l46_0,hi,hi',hg,hx,h1,cn]
   | true=>
    left
    refine⟨?_,by rw[if_neg (by simp[h1])]⟩
    unfold stPl
    simp -implicitDefEqProofs[l46_0,hi,hi',hg,hx,h1,cn,hws]
 ·rw[List.drop_length,findL]
  unfold stPl
  constructor<;>simp -implicitDefEqProofs[l46_0]
theorem zee(l:List Nd)(dim pars lets:Int)(hl:l.length≤4294967296)(hn:∀x∈l,x.n.length≤1000):callF T 46 [.sl (rowN l) .an,.i .i64 dim,.i .i64 pars,.i .i64 lets]=some (.i .i64 (placeN dim pars lets l)):=by
 have cw:=ziu (T:=T) l hl
 have hlo:=zfp (T:=T) l dim pars lets (wrongN l) hl hn (by
  rcases zdv l 0 0 with h | h
  ·left;unfold wrongN;omega
  ·right;unfold wrongN;omega)
 unfold stPl at hlo
 simp only[Int.natCast_zero]at hlo
 have hf:=zei dim pars lets (wrongN l) l 0
 unfold placeN
 rw[hf]
 rw[f46 _ rfl,b46]
 generalize wrongN l=w at *
 generalize findL dim pars lets w 0 l=F at *
 cases F with
 | none=>
  dsimp only at hlo ⊢
  simp -implicitDefEqProofs[cw,hlo]
 | some k=>
  dsimp only at hlo ⊢
  simp -implicitDefEqProofs[cw,hlo]
end
def joinN(op:Int)(l:List (List Nd)):List Nd:=l.flatten++[⟨op,0,[]⟩]
def kNd(n:Int):List Nd:=[⟨1,0,if n=0 then [] else [w32 n.toNat]⟩]
def powN(a:List Nd)(e:Int):List Nd:=a++[⟨11,e,[]⟩]
def timesN(op:Int)(d o:List Nd)(first:Bool):List Nd:=if d=[] then [] else if first then joinN op [d,o] else joinN op [o,d]
def bothN(op:Int)(a b:List Nd):List Nd:=if b=[] then a else if a≠[] then joinN op [a,b] else if op=8 then joinN 6 [b] else b
def oneN(x:Nd)(a da:List Nd):List Nd:=
 if da=[]∨(x.op=11∧x.i=0) then [] else if x.op=6 then joinN 6 [da]
 else if 0<x.i then joinN 9 [joinN 9 [kNd x.i,powN a (x.i-1)],da]
 else joinN 6 [joinN 10 [joinN 9 [joinN 9 [kNd (-x.i),powN a x.i],da],a]]
def lowN(d b o:List Nd):List Nd:=if timesN 9 d o false=[] then [] else joinN 10 [timesN 9 d o false,joinN 9 [b,b]]
def twoN(op:Int)(a da b db:List Nd):List Nd:=
 if op=9 then bothN 7 (timesN 9 da b true) (timesN 9 db a false)
 else if op=10 then bothN 8 (timesN 10 da b true) (lowN db b a)
 else bothN op da db
def Tre.der(u:Nd):Tre→List Nd
 | .leaf x=>if x.op=u.op∧x.i=u.i then kNd 1 else []
 | .un x a=>oneN x a.flat (a.der u)
 | .bin x a b=>twoN x.op a.flat (a.der u) b.flat (b.der u)
def catN(a b:List Nd)(op i:Int):List Nd:=a++b++[⟨op,i,[]⟩]
def thin(w:Nat)(l:List Nd):Prop:=∀x∈l,x.n.length≤w
def pushT(s:List Tre)(x:Nd):List Tre:=
 if arN x.op=0 then .leaf x::s else
  match s with
  | []=>[]
  | a::s1=>if arN x.op=1 then .un x a::s1 else
   match s1 with
   | []=>[]
   | b::s2=>.bin x b a::s2
abbrev Pc:=List Nd×List Nd
def pcs(u:Nd)(s:List Tre):List Pc:=s.reverse.map fun t=>(t.flat,t.der u)
def lenP(l:List Pc):Nat:=(l.map fun p=>p.1.length).sum
def dps(l:List Nat):List (List AV):=l.map fun n=>[.i .i64 (n:Nat)]
@[simp] theorem z1z(l:List Nat):(dps l).length=l.length:=by simp[dps]
@[simp] theorem z4t(l:List Nat):wkL (dps l)=dps l:=by rw[zcb];simp[dps,wkR,wkA]
@[simp] theorem zadi(l:List Nat)(i:Nat)(h:i<(dps l).length):(dps l)[i]=[.i .i64 (l[i]'(by simp_all):Nat)]:=by simp[dps]
@[simp] theorem z8f(l:List Nat)(n:Nat):(dps l).take n=dps (l.take n):=by simp[dps]
@[simp] theorem zzu:dps []=[]:=rfl
theorem zwl{m:List Nat}{n:Nat}(x:Nat):wkL (dps (List.take n m)++[[.i .i64 (x:Nat)]])=dps (List.take n m++[x]):=by
 grind[dps,z4t]
def depE(s:List Nat)(x:Nd):List Nat:=if arN x.op=0 then 1::s else if arN x.op=1 then (s.headD 0+1)::s.tail else (max (s.headD 0) (s.tail.headD 0)+1)::s.tail.tail
def depS:List Nat→List Nd→List Nat
 | s,[]=>s
 | s,x::r=>depS (depE s x) r
def depN(l:List Nd):Nat:=if wrongN l=-1 then (depS [] l).headD 0 else 0
theorem zlz{m:List (List Nd)}{n:Nat}(h:m.length=n)(x:List Nd):wkL (rowC (List.take n m)++[[.sl (rowN x) .an]])=rowC (m++[x]):=by
 rw[List.take_of_length_le (by omega),zu2,zz9]
@[simp] theorem z4u(l:List (List Nd))(n:Nat):(rowC l).take n=rowC (l.take n):=by simp[rowC]
section
variable{T:Tbl}[CTree T][CTree2 T]
theorem zhd(l:List Nd)(hl:l.length≤4294967295)(hn:thin 1000 l):callF T 483 [.sl (rowN l) .an]=some (.sl (rowN l) .an):=by
 have hlo:loopN T 0 0 (.norm false [3]) l483_0 ⟨[(3,.bs (.loc 3) 1 3 0 0),(6,.sl (rowN l) .an),(7,.i .i64 l.length),(8,.i .i64 0)],[(.loc 3,⟨1,.own,3,[]⟩)],3⟩ =
   some (.n,⟨[(3,.bs (.loc 3) 1 3 0 l.length)],[(.loc 3,⟨1,.own,3,rowN l⟩)],3⟩):=by
  have:=zaq (T:=T) (k:=0) (id:=0) (g2:=.norm false [3]) (c:=l483_0) (fun i=>⟨[(3,.bs (.loc 3) 1 3 0 i),(6,.sl (rowN l) .an),(7,.i .i64 l.length),(8,.i .i64 (i:Int))],[(.loc 3,⟨1,.own,3,rowN (l.take i)⟩)],3⟩) l.length
   (some (.n,⟨[(3,.bs (.loc 3) 1 3 0 l.length)],[(.loc 3,⟨1,.own,3,rowN l⟩)],3⟩)) (fun i hi=>?_) ?_
  ·simp_all
  ·have hi':(i:Int)<l.length:=by omega
   have hws:=zbg hi (by omega)
   have hs:l.take (i+1)=l.take i++[l[i]'hi]:=by simp_all
   have hp:=zl9 (n:=i) (show (l.take i).length=i by grind) (l[i]'hi)
   have hle:i≤(l.take i).length:=by grind
   have h32:i+1≤4294967296:=by omega
   have hth:=hn _ (List.getElem_mem hi)
   rw[hs]
   generalize hx:l[i]'hi=x at *
   generalize l.take i=m at *
   obtain⟨op,j,n⟩:=x
   dsimp only at hth
   have hn32:n.length≤4294967296:=by omega
   simp -implicitDefEqProofs[l483_0,hi,hi',hx,hws,hp,hle,h32,hn32]
  ·constructor<;>simp -implicitDefEqProofs[l483_0]
 rw[f483 _ rfl,b483]
 simp -implicitDefEqProofs[hlo]
def thinD(w n:Nat)(f:Fd):Prop:=∀c∈codesD f,c.length≤n∧thin w c
theorem ziv(f:Fd)(h1:f.lets.length≤100000)(h2:f.outs.length≤100000)(hn:thinD 1000 4294967295 f):callF T 493 [efd f]=some (.sl (rowC (codesD f)) .an):=by
 obtain⟨L,O⟩:=f
 dsimp only at h1 h2
 have hL:loopN T 0 0 (.norm false [1,3]) l493_0 ⟨[(1,.ptr (.loc 1) 1 2 0 0),(3,.bs (.loc 3) 2 1 0 0),(9,.sl (rowLt L) .an),(10,.i .i64 L.length),(11,.i .i64 0)],[(.loc 1,⟨1,.str,2,[[.sl (rowLt L) .an,.sl (rowC O) .an]]⟩),(.loc 3,⟨2,.own,1,[]⟩)],4⟩ =
   some (.n,⟨[(1,.ptr (.loc 1) 1 2 0 0),(3,.bs (.loc 3) 2 1 0 L.length)],[(.loc 1,⟨1,.str,2,[[.sl (rowLt L) .an,.sl (rowC O) .an]]⟩),(.loc 3,⟨2,.own,1,rowC (L.map (·.code))⟩)],4⟩):=by
  have:=zaq (T:=T) (k:=0) (id:=0) (g2:=.norm false [1,3]) (c:=l493_0) (fun i=>⟨[(1,.ptr (.loc 1) 1 2 0 0),(3,.bs (.loc 3) 2 1 0 i),(9,.sl (rowLt L) .an),(10,.i .i64 L.length),(11,.i .i64 (i:Int))],[(.loc 1,⟨1,.str,2,[[.sl (rowLt L) .an,.sl (rowC O) .an]]⟩),(.loc 3,⟨2,.own,1,rowC ((L.take i).map (·.code))⟩)],4⟩) L.length
   (some (.n,⟨[(1,.ptr (.loc 1) 1 2 0 0),(3,.bs (.loc 3) 2 1 0 L.length)],[(.loc 1,⟨1,.str,2,[[.sl (rowLt L) .an,.sl (rowC O) .an]]⟩),(.loc 3,⟨2,.own,1,rowC (L.map (·.code))⟩)],4⟩)) (fun i hi=>?_) ?_
  ·simp_all
  ·have hi':(i:Int)<L.length:=by omega
   have hws:=zbg hi (by omega)
   have hs:(L.take (i+1)).map (·.code)=(L.take i).map (·.code)++[(L[i]'hi).code]:=by grind[List.take_succ_eq_append_getElem]
   have hml:((L.take i).map (·.code)).length=i:=by grind
   have hp:=zlz (n:=i) hml (L[i]'hi).code
   have hle:i≤((L.take i).map (·.code)).length:=by omega
   have h32:i+1≤4294967296:=by omega
   obtain⟨hc1,hc2⟩:=hn (L[i]'hi).code (List.mem_append.2 (.inl (List.mem_map.2 ⟨_,List.getElem_mem hi,rfl⟩)))
   have cc:=zhd (T:=T) (L[i]'hi).code hc1 hc2
   rw[hs]
   generalize hx:L[i]'hi=x at *
   generalize (L.take i).map (·.code)=m at *
   obtain⟨nm,code⟩:=x
   simp -implicitDefEqProofs[l493_0,hi,hi',hx,hws,hp,hle,h32,cc]
  ·constructor<;>simp -implicitDefEqProofs[l493_0]
 have hO:loopN T 0 2 (.norm false [3]) l493_1 ⟨[(3,.bs (.loc 3) 1 1 0 L.length),(23,.sl (rowC O) .an),(24,.i .i64 O.length),(25,.i .i64 0)],[(.loc 3,⟨1,.own,1,rowC (L.map (·.code))⟩)],3⟩ =
   some (.n,⟨[(3,.bs (.loc 3) 1 1 0 (L.length+O.length:Nat))],[(.loc 3,⟨1,.own,1,rowC (L.map (·.code)++O)⟩)],3⟩):=by
  have:=zaq (T:=T) (k:=0) (id:=2) (g2:=.norm false [3]) (c:=l493_1) (fun i=>⟨[(3,.bs (.loc 3) 1 1 0 (L.length+i:Nat)),(23,.sl (rowC O) .an),(24,.i .i64 O.length),(25,.i .i64 (i:Int))],[(.loc 3,⟨1,.own,1,rowC (L.map (·.code)++O.take i)⟩)],3⟩) O.length
   (some (.n,⟨[(3,.bs (.loc 3) 1 1 0 (L.length+O.length:Nat))],[(.loc 3,⟨1,.own,1,rowC (L.map (·.code)++O)⟩)],3⟩)) (fun i hi=>?_) ?_
  ·grind
  ·have hi':(i:Int)<O.length:=by omega
   have hws:=zbg hi (by omega)
   have hs:L.map (·.code)++O.take (i+1)=(L.map (·.code)++O.take i)++[O[i]'hi]:=by simp_all
   have hml:(L.map (·.code)++O.take i).length=L.length+i:=by grind
   have hp:=zlz hml (O[i]'hi)
   have hle:L.length+i≤(L.map (·.code)++O.take i).length:=by omega
   have h32:L.length+i+1≤4294967296:=by omega
   obtain⟨hc1,hc2⟩:=hn (O[i]'hi) (List.mem_append.2 (.inr (List.getElem_mem hi)))
   have cc:=zhd (T:=T) (O[i]'hi) hc1 hc2
   have hw2:L.length+(i+1)=L.length+i+1:=by omega
   rw[hs,hw2]
   generalize hx:O[i]'hi=x at *
   generalize L.map (·.code)++O.take i=m at *
   simp -implicitDefEqProofs[l493_1,hi,hi',hx,hws,hp,hle,h32,cc]
  ·constructor<;>simp -implicitDefEqProofs[l493_1]
 unfold codesD
 have hM:(L.map (·.code)).length=L.length:=List.length_map _
 rw[f493 _ rfl,b493]
 simp -implicitDefEqProofs[hL,hO]
 grind
theorem zqz{l:List (List Nd)}(i:Nat):((l.take i).map List.length).sum≤(l.map List.length).sum:=by
 grind[List.take_append_drop]
def sizeD(f:Fd):Nat:=((codesD f).map List.length).sum
theorem zue(f:Fd)(h1:f.lets.length≤100000)(h2:f.outs.length≤100000)(hn:thinD 1000 4294967295 f)(hs:sizeD f≤4294967295):callF T 491 [efd f]=some (.i .i64 (sizeD f)):=by
 have c:=ziv (T:=T) f h1 h2 hn
 have hlen:(codesD f).length≤200000:=by grind[codesD]
 unfold sizeD at *
 obtain⟨L,O⟩:=f
 generalize codesD ⟨L,O⟩=M at *
 have hlo:loopN T 0 0 (.norm false [3]) l491_0 ⟨[(3,.i .i64 0),(7,.sl (rowC M) .an),(8,.i .i64 M.length),(9,.i .i64 0)],[],2⟩ =
   some (.n,⟨[(3,.i .i64 ((M.map List.length).sum:Nat))],[],2⟩):=by
  have:=zaq (T:=T) (k:=0) (id:=0) (g2:=.norm false [3]) (c:=l491_0) (fun i=>⟨[(3,.i .i64 (((M.take i).map List.length).sum:Nat)),(7,.sl (rowC M) .an),(8,.i .i64 M.length),(9,.i .i64 (i:Int))],[],2⟩) M.length
   (some (.n,⟨[(3,.i .i64 ((M.map List.length).sum:Nat))],[],2⟩)) (fun i hi=>?_) ?_
  ·grind
  ·have hi':(i:Int)<M.length:=by omega
   have hws:=zbg hi (by omega)
   have hs1:((M.take (i+1)).map List.length).sum=((M.take i).map List.length).sum+(M[i]'hi).length:=by grind[List.take_succ_eq_append_getElem]
   have hle:=zqz (l:=M) (i+1)
   have hw:IntKind.wrap .i64 ((((M.take i).map List.length).sum:Nat)+(M[i]'hi).length)=((((M.take i).map List.length).sum+(M[i]'hi).length:Nat):Int):=by rw[zab _ (by omega)];omega
   rw[hs1]
   generalize hx:M[i]'hi=x at *
   generalize ((M.take i).map List.length).sum=k at *
   simp -implicitDefEqProofs[l491_0,hi,hi',hx,hws,hw]
  ·constructor<;>simp -implicitDefEqProofs[l491_0]
 rw[f491 _ rfl,b491]
 simp -implicitDefEqProofs[c,hlo]
def mxT(F:List Nat)(k:Nat):Nat→Nat
 | 0=>0
 | j+1=>max (mxT F k j) (F.getD (k-j-1) 0)
def stDi(l:List Nd)(F:List Nat)(i k a j:Nat):St:=⟨[(3,.bs (.loc 3) 1 1 0 (k-j)),(6,.i .i64 (mxT F k j:Nat)),(10,.sl (rowN l) .an),(11,.i .i64 l.length),(12,.i .i64 i),(18,.i .i64 a),(19,.i .i64 j)],[(.loc 3,⟨1,.own,1,dps F⟩)],3⟩
theorem zuf(F:List Nat)(k w:Nat)(h:∀n∈F,n≤w):∀j,mxT F k j≤w
 | 0=>Nat.zero_le _
 | j+1=>by
  have h1:=zuf F k w h j
  have h2:F.getD (k-j-1) 0≤w:=by
   rw[List.getD_eq_getElem?_getD]
   cases hg:F[k-j-1]? with
   | none=>grind
   | some x=>exact h x (List.mem_of_getElem? hg)
  exact Nat.max_le.2 ⟨h1,h2⟩
theorem z4v(l:List Nd)(F:List Nat)(i k a:Nat)(ha:a≤k)(hk:k≤F.length)(hF:∀n∈F,n≤100000)(hkk:k≤100000) :
  loopN T 0 2 (.norm false [3,6,10,11,12]) l492_0 (stDi l F i k a 0) =
   some (.n,⟨[(3,.bs (.loc 3) 1 1 0 (k-a)),(6,.i .i64 (mxT F k a:Nat)),(10,.sl (rowN l) .an),(11,.i .i64 l.length),(12,.i .i64 i)],[(.loc 3,⟨1,.own,1,dps F⟩)],3⟩):=by
 refine zaq (T:=T) (stDi l F i k a) a _ (fun j hj=>?_) ?_
 ·have hq:k-j=(k-j-1)+1:=by omega
  have hq2:k-(j+1)=k-j-1:=by omega
  have hlt:k-j-1<F.length:=by omega
  have hg:F[k-j-1]? = some (F.getD (k-j-1) 0):=by grind
  have hge:F[k-j-1]'hlt=F.getD (k-j-1) 0:=by grind
  have hmx:=zuf F k 100000 hF j
  have hws:=zbg hj (by omega)
  have hj':(j:Int)<a:=by omega
  have hmm:mxT F k (j+1)=max (mxT F k j) (F.getD (k-j-1) 0):=rfl
  unfold stDi
  rw[hq2,hq,hmm]
  generalize F.getD (k-j-1) 0=v at *
  generalize mxT F k j=m at *
  clear hF
  generalize k-j-1=q at *
  have hw:IntKind.wrap .i64 (q:Int)=q:=zab _ (by omega)
  have h1:(q:Int)<(q:Int)+1:=by omega
  have h2:(q:Int)≤(q:Int)+1:=by omega
  clear hq hq2 hmm
  simp -implicitDefEqProofs[l492_0,hj',hge,hlt,hws,hw,h1,h2]
  omega
 ·unfold stDi
  constructor<;>simp -implicitDefEqProofs[l492_0]
theorem zjx{F:List Nat}{a:Nat}{r:List Nat}(h:F.take (a::r).length=(a::r).reverse):F.take r.length=r.reverse∧F.getD r.length 0=a∧r.length<F.length:=by
 grind[List.length_reverse,List.take_succ_eq_append_getElem,List.append_inj']
def stDo(l:List Nd)(F:List Nat)(k i:Nat):St:=⟨[(3,.bs (.loc 3) 1 1 0 k),(10,.sl (rowN l) .an),(11,.i .i64 l.length),(12,.i .i64 i)],[(.loc 3,⟨1,.own,1,dps F⟩)],3⟩
theorem zug(l:List Nd)(hl:l.length≤50000)(F s:List Nat)(i:Nat)(hi:i<l.length)(h1:F.take s.length=s.reverse)(h2:s.length≤F.length)(h3:s.length≤i)(h4:∀n∈F,n≤i)(ha0:0≤arN (l[i]'hi).op)(ha:arN (l[i]'hi).op≤s.length) :
  ∃F':List Nat,(F'.take (depE s (l[i]'hi)).length=(depE s (l[i]'hi)).reverse∧(depE s (l[i]'hi)).length≤F'.length∧∀n∈F',n≤i+1)∧evX (orc T) T 0 l492_1 (stDo l F s.length i)=some (.n,stDo l F' (depE s (l[i]'hi)).length (i+1)):=by
 have ca:=zb0 (T:=T) (l[i]'hi).op
 have hi':(i:Int)<l.length:=by omega
 have hws:=zbg hi (by omega)
 generalize hx:l[i]'hi=x at *
 obtain⟨a,hea⟩:∃a:Nat,arN x.op=a:=⟨(arN x.op).toNat,by omega⟩
 have hak:a≤s.length:=by omega
 have hin:=z4v (T:=T) l F i s.length a hak h2 (fun n hn=>Nat.le_trans (h4 n hn) (by omega)) (by omega)
 have hm1:mxT F s.length a≤i:=zuf F s.length i h4 a
 -- the stack behind the node
 obtain⟨s',hs',hde⟩:∃s':List Nat,(F.take s'.length=s'.reverse∧s'.length=s.length-a)∧depE s x=(mxT F s.length a+1)::s':=by
  unfold depE
  rcases za4 x.op with ⟨e,_⟩ | ⟨e,_⟩ | ⟨e,_⟩ | ⟨e,_⟩
  ·have:a=0:=by omega
   subst this
   rw[if_pos e]
   exact⟨s,⟨h1,rfl⟩,rfl⟩
  ·have:a=1:=by omega
   subst this
   rw[if_neg (by omega),if_pos e]
   cases s with
   | nil=>grind
   | cons u r=>
    obtain⟨t1,t2,t3⟩:=zjx h1
    refine⟨r,⟨t1,by simp⟩,?_⟩
    show (u+1)::r=(max 0 (F.getD (r.length+1-0-1) 0)+1)::r
    grind
  ·have:a=2:=by omega
   subst this
   rw[if_neg (by omega),if_neg (by omega)]
   cases s with
   | nil=>grind
   | cons u r=>
    obtain⟨t1,t2,t3⟩:=zjx h1
    cases r with
    | nil=>grind
    | cons v q=>
     obtain⟨w1,w2,w3⟩:=zjx t1
     refine⟨q,⟨w1,by simp⟩,?_⟩
     show (max u v+1)::q=(max (max 0 (F.getD (q.length+1+1-0-1) 0)) (F.getD (q.length+1+1-1-1) 0)+1)::q
     grind
  omega
 rw[hde]
 generalize mxT F s.length a=v at *
 obtain⟨hs1,hs2⟩:=hs'
 have hle:s'.length≤F.length:=by omega
 refine⟨F.take s'.length++[v+1],⟨?_,?_,?_⟩,?_⟩
 ·rw[List.length_cons,List.take_of_length_le (by grind),hs1,List.reverse_cons]
 ·grind
 ·grind
 ·have hp:=zwl (m:=F) (n:=s'.length) (v+1)
  rw[hea]at ca
  rw[←hs2]at hin
  have hwv:IntKind.wrap .i64 ((v:Int)+1)=((v+1:Nat):Int):=zab _ (by omega)
  have h32:s'.length+1≤4294967296:=by omega
  unfold stDi at hin
  unfold stDo
  simp only[mxT,Nat.sub_zero,Int.natCast_zero]at hin
  obtain⟨op,j,n⟩:=x
  simp -implicitDefEqProofs[l492_1,hi,hi',hx,hws,hle,h32,ca,hin,hwv]
  grind
theorem zo1(hl:True):∀(l:List Nd) (i:Nat) (s:List Nat),wrongL i s.length l=-1→(depS s l).length=1
 | [],i,s,h=>by
  unfold wrongL at h
  by_cases h1:(s.length:Int)=1
  ·show s.length=1;omega
  ·omega
 | x::r,i,s,h=>by
  unfold wrongL at h
  by_cases h1:arN x.op<0∨(s.length:Int)<arN x.op
  ·omega
  ·rw[if_neg h1]at h
   refine zo1 hl r (i+1) (depE s x) ?_
   rw[←h]
   congr 1
   unfold depE
   rcases za4 x.op with ⟨e,_⟩ | ⟨e,_⟩ | ⟨e,_⟩ | ⟨e,_⟩
   ·rw[if_pos e,e];simp
   ·rw[if_neg (by omega),if_pos e,e,List.length_cons,List.length_tail];omega
   ·rw[if_neg (by omega),if_neg (by omega),e,List.length_cons,List.length_tail,List.length_tail];omega
   ·omega
theorem zwm{s:List Nat}{x:Nd}(h0:0≤arN x.op)(h1:arN x.op≤s.length):((depE s x).length:Int)=s.length+1-arN x.op:=by
 grind[depE,za4]
theorem zq0(l:List Nd)(hl:l.length≤50000):callF T 492 [.sl (rowN l) .an]=some (.i .i64 (depN l)):=by
 have c:=zqx (T:=T) l (by omega)
 by_cases hw:wrongN l=-1
 ·rw[decide_eq_true hw]at c
  have e:depN l=(depS [] l).headD 0:=by unfold depN;grind
  have hone:=zo1 trivial l 0 [] hw
  have hlo:∃r,(∃F:List Nat,F[0]? = some ((depS [] l).headD 0)∧r=(Ex.n,(⟨[(3,.bs (.loc 3) 1 1 0 1)],[(.loc 3,⟨1,.own,1,dps F⟩)],3⟩:St)))∧loopN T 0 0 (.norm false [3]) l492_1 (stDo l [] 0 0)=some r:=by
   refine zas (fun p:Nat×List Nat×List Nat=>stDo l p.2.2 p.2.1.length p.1)
    (fun p=>p.1≤l.length∧p.2.2.take p.2.1.length=p.2.1.reverse∧p.2.1.length≤p.2.2.length∧p.2.1.length≤p.1∧(∀n∈p.2.2,n≤p.1)∧(∃j,wrongL j p.2.1.length (l.drop p.1)=-1)∧depS p.2.1 (l.drop p.1)=depS [] l)
    (fun p=>l.length-p.1) _ ?_ (0,[],[]) ⟨Nat.zero_le _,rfl,Nat.le_refl _,Nat.le_refl _,by simp,⟨0,hw⟩,rfl⟩
   rintro⟨i,s,F⟩ ⟨hi,h1,h2,h3,h4,⟨j,h5⟩,h6⟩
   by_cases hlt:i<l.length
   ·left
    have hd:l.drop i=l[i]'hlt::l.drop (i+1):=List.drop_eq_getElem_cons hlt
    rw[hd]at h5 h6
    have hc:¬ (arN (l[i]'hlt).op<0∨(s.length:Int)<arN (l[i]'hlt).op):=by
     grind[wrongL]
    unfold wrongL at h5
    have ha0:0≤arN (l[i]'hlt).op:=by omega
    have ha1:arN (l[i]'hlt).op≤s.length:=by omega
    obtain⟨F',⟨g1,g2,g3⟩,g4⟩:=zug (T:=T) l hl F s i hlt h1 h2 h3 h4 ha0 ha1
    have hln:=zwm ha0 ha1
    refine⟨(i+1,depE s (l[i]'hlt),F'),⟨by omega,g1,g2,by grind,g3,⟨j+1,?_⟩,h6⟩,by omega,g4⟩
    grind
   ·right
    have hil:i=l.length:=by omega
    subst hil
    rw[List.drop_length]at h5 h6
    have hs:depS s []=s:=rfl
    rw[hs]at h6
    subst h6
    obtain⟨a,ha⟩:∃a,depS [] l=[a]:=List.length_eq_one_iff.1 hone
    rw[ha]at h1 h2 ⊢
    have hF0:F[0]? = some a:=by
     grind
    refine⟨_,⟨F,hF0,rfl⟩,?_⟩
    unfold stDo
    clear h4 h1
    constructor<;>simp -implicitDefEqProofs[l492_1]
  obtain⟨_,⟨F,hF,rfl⟩,hlo⟩:=hlo
  rw[e]
  unfold stDo at hlo
  simp only[Int.natCast_zero,zzu]at hlo
  obtain⟨hlt,hge⟩:=List.getElem?_eq_some_iff.1 hF
  rw[f492 _ rfl,b492]
  simp -implicitDefEqProofs[c,hlo,hge,hlt]
 ·rw[decide_eq_false hw]at c
  have e:depN l=0:=by unfold depN;grind
  rw[e,f492 _ rfl,b492]
  simp -implicitDefEqProofs[c]
end
section
variable{T:Tbl}[CJoin T][CLex T]
theorem zlk(c:UInt8):callF T 185 [u8 c.toNat]=some (.b (isD c)):=by
 rw[f185 _ rfl,b185]
 by_cases h1:48≤c.toNat
 ·simp -implicitDefEqProofs[isD,h1]
 ·simp -implicitDefEqProofs[isD,h1]
theorem zio(c:UInt8):callF T 186 [u8 c.toNat]=some (.b (isL c)):=by
 rw[f186 _ rfl,b186]
 by_cases h1:97≤c.toNat<;>by_cases h2:c.toNat≤122<;>by_cases h3:65≤c.toNat<;>by_cases h4:c.toNat≤90<;>by_cases h5:c.toNat=95 <;>
  simp -implicitDefEqProofs[isL,h1,h2,h3,h4,h5]
theorem zv1(c:UInt8):callF T 187 [u8 c.toNat]=some (.b (isS c)):=by rw[p187,zq6]
theorem zv2(c:UInt8):callF T 177 [u8 c.toNat]=some (.i .i64 (kindN c)):=by
 have h1:=zlk (T:=T) c
 have h2:=zio (T:=T) c
 have h3:=zv1 (T:=T) c
 rw[f177 _ rfl,b177]
 cases e1:isD c<;>cases e2:isL c<;>cases e3:isS c<;>simp -implicitDefEqProofs[kindN,h1,h2,h3,e1,e2,e3]
theorem zv3(k:Nat)(c:UInt8):callF T 188 [.i .i64 k,u8 c.toNat]=some (.b (moreN k c)):=by
 have h1:=zlk (T:=T) c
 have h2:=zio (T:=T) c
 rw[f188 _ rfl,b188]
 by_cases k1:k=1
 ·subst k1
  cases e1:isD c<;>cases e2:isL c<;>simp -implicitDefEqProofs[moreN,h1,e1,e2]
 ·have k1':¬ (k:Int)=1:=by omega
  by_cases k2:k=2
  ·subst k2
   cases e1:isD c<;>cases e2:isL c<;>simp -implicitDefEqProofs[moreN,h1,h2,e1,e2]
  ·have k2':¬ (k:Int)=2:=by omega
   simp -implicitDefEqProofs[moreN,k1,k2,k1',k2']
theorem zv4(k:Nat):callF T 179 [.i .i64 k]=some (.i .i64 (mostN k)):=by
 rw[f179 _ rfl,b179]
 by_cases k1:k=1
 ·subst k1
  simp -implicitDefEqProofs[mostN]
 ·have k1':¬ (k:Int)=1:=by omega
  by_cases k2:k=2
  ·subst k2
   simp -implicitDefEqProofs[mostN]
  ·have k2':¬ (k:Int)=2:=by omega
   simp -implicitDefEqProofs[mostN,k1,k2,k1',k2']
theorem zqd(s:List UInt8)(hs:s.length≤1000000)(k F:Nat):∀n:Nat,(n≤s.length∧n+((s.drop n).takeWhile (moreN k)).length=F) →
  loopN T 0 0 (.norm false [5]) l178_0 ⟨[(0,.s s),(1,.i .i64 k),(5,.i .i64 n)],[],2⟩=some (.n,⟨[(5,.i .i64 F)],[],2⟩):=by
 refine zaw (fun n:Nat=>⟨[(0,.s s),(1,.i .i64 k),(5,.i .i64 n)],[],2⟩) _ (fun n=>s.length-n) _ ?_
 rintro n ⟨hn,hF⟩
 by_cases h0:n<s.length
 ·have hd:=List.drop_eq_getElem_cons h0
  have hgo:=zv3 (T:=T) k (s[n]'h0)
  have hw:IntKind.wrap .i64 ((n:Int)+1)=((n+1:Nat):Int):=zab _ (by omega)
  by_cases hc:moreN k (s[n]'h0)=true
  ·left
   rw[hd,List.takeWhile_cons_of_pos hc]at hF
   refine⟨n+1,⟨h0,by grind⟩,by omega,?_,rfl⟩
   simp -implicitDefEqProofs[l178_0,h0,hgo,hc,hw]
  ·right
   rw[hd,List.takeWhile_cons_of_neg hc]at hF
   subst hF
   constructor<;>simp -implicitDefEqProofs[l178_0,h0,hgo,hc]
 ·right
  have:n=s.length:=by omega
  subst this
  rw[List.drop_length]at hF
  subst hF
  constructor<;>simp -implicitDefEqProofs[l178_0]
theorem zto(c:UInt8)(r:List UInt8)(hs:r.length≤100000)(k:Nat):callF T 178 [.s (c::r),.i .i64 k]=some (.i .i64 (firstN k r)):=by
 have h:=zqd (T:=T) (c::r) (by grind) k (firstN k r) 1 ⟨by simp,rfl⟩
 rw[f178 _ rfl,b178]
 simp_all
def wdR(w:Wd):List AV:=[.i .i64 w.1,.s w.2.1,.i .i64 w.2.2]
def rowsW(l:List Wd):List (List AV):=l.map wdR
def stScL(s:List UInt8)(i:Nat)(acc:List Wd):St:=
 ⟨[(0,.s s),(3,.ptr (.loc 3) 1 4 0 0),(4,.bs (.loc 4) 2 3 0 acc.length),(5,.i .i64 i)],[(.loc 3,⟨1,.str,4,[[.i .i64 0,.i .i64 0,.i .i64 0,.i .i64 0]]⟩),(.loc 4,⟨2,.own,3,rowsW acc⟩)],4⟩
def resSc:Except Nat (List Wd)→Option (Ex×St)
 | .ok ws=>some (.n,⟨[(3,.ptr (.loc 3) 1 4 0 0),(4,.bs (.loc 4) 2 3 0 ws.length)],[(.loc 3,⟨1,.str,4,[[.i .i64 0,.i .i64 0,.i .i64 0,.i .i64 0]]⟩),(.loc 4,⟨2,.own,3,rowsW ws⟩)],4⟩)
 | .error e=>some (.r,⟨[(2,.sl [] .an),(3,.ptr (.loc 3) 1 4 0 0)],[(.loc 3,⟨1,.str,4,[[.i .i64 1,.i .i64 0,.i .i64 0,.i .i64 e]]⟩)],3⟩)
def ansScan(r:Except Nat (List Wd)):AV:=
 match r with
 | .ok ws=>.tup [.sl (rowsW ws) .an,.agg [.i .i64 0,.i .i64 0,.i .i64 0,.i .i64 0]]
 | .error e=>.tup [.sl [] .an,.agg [.i .i64 1,.i .i64 0,.i .i64 0,.i .i64 e]]
def scanT(s:List UInt8):Except Nat (List Wd):=if 4000<s.length then .error 4000 else scanL (s.drop (skipC false s)) (skipC false s) []
def rightB(k:Int)(t:List UInt8):Bool:=
 match t with
 | []=>false
 | c::r=>decide (k≠0)&&decide ((kindN c:Int)=k)&&decide (firstN (kindN c) r=r.length+1)&&decide (r.length+1≤mostN (kindN c))
theorem ztp(k a:Int)(t:List UInt8)(ht:t.length≤100000):callF T 172 [.agg [.i .i64 k,.s t,.i .i64 a]]=some (.b (rightB k t)):=by
 rw[f172 _ rfl,b172]
 cases t with
 | nil=>simp -implicitDefEqProofs[rightB]
 | cons c r=>
  simp only[List.length_cons]at ht
  have hk:=zv2 (T:=T) c
  have hf:=zto (T:=T) c r (by omega) (kindN c)
  have hm:=zv4 (T:=T) (kindN c)
  by_cases h0:k=0
  ·simp -implicitDefEqProofs[rightB,h0]
  ·by_cases h1:(kindN c:Int)=k
   ·subst h1
    have h0':¬ kindN c=0:=by omega
    by_cases h2:firstN (kindN c) r=r.length+1
    ·by_cases h3:r.length+1≤mostN (kindN c)
     ·have h3':(r.length:Int)+1≤(mostN (kindN c):Nat):=by omega
      simp -implicitDefEqProofs[rightB,h0',hk,hf,hm,h2,h3,h3']
     ·have h3':¬ (r.length:Int)+1≤(mostN (kindN c):Nat):=by omega
      simp -implicitDefEqProofs[rightB,h0',hk,hf,hm,h2,h3,h3']
    ·have h2':¬ ((firstN (kindN c) r:Nat):Int)=(r.length:Int)+1:=by omega
     simp -implicitDefEqProofs[rightB,h0',hk,hf,h2,h2']
   ·simp -implicitDefEqProofs[rightB,h0,hk,h1]
abbrev Wz:=Int×List UInt8×Int
def wzR(w:Wz):List AV:=[.i .i64 w.1,.s w.2.1,.i .i64 w.2.2]
def rowsZ(l:List Wz):List (List AV):=l.map wzR
def stTe(l:List Wz)(i:Nat)(b:BId):St:=
 ⟨[(3,.bs (.loc 3) 1 1 0 i),(6,.sl (rowsZ l) .an),(7,.i .i64 l.length),(8,.i .i64 i)],[(.loc 3,⟨1,.own,1,rowsT ((l.take i).map (·.2.1))⟩)],3⟩
end
def nameB(s:List UInt8):Bool:=rightB 2 s&&decide (s≠[116])&&decide (s≠[121])&&decide (s≠[112])&&decide (s≠[108,101,116])
def twB(l:List Lt)(nm:List UInt8):Bool:=l.any fun x=>decide (x.name=nm)
def ptA(dim pars lets:Int)(c:List Nd):Int:=if placeN dim pars lets c<0∧40<depN c then c.length else placeN dim pars lets c
def chkL(dim pars:Int)(L:List Lt):Nat→List Lt→Option (Int×Int×Int)
 | _,[]=>none
 | i,x::r=>if nameB x.name=false∨twB (L.take i) x.name=true then some ((i:Int)+1,1,0) else if 0≤ptA dim pars i x.code then some ((i:Int)+1,0,ptA dim pars i x.code) else chkL dim pars L (i+1) r
def chkO(dim pars:Int)(n:Nat):Nat→List (List Nd)→Option (Int×Int×Int)
 | _,[]=>none
 | i,c::r=>if 0≤ptA dim pars n c then some (((n+i:Nat):Int)+1,0,ptA dim pars n c) else chkO dim pars n (i+1) r
def whB(f:Fd)(dim pars:Int):Bool:=decide (1≤dim∧dim≤6∧0≤pars∧pars≤6∧(f.outs.length:Int)=dim∧f.lets.length≤10∧sizeD f≤300)
def chkD(f:Fd)(dim pars:Int):Option (Int×Int×Int):=
 if whB f dim pars=false then some (0,0,0) else match chkL dim pars f.lets 0 f.lets with
  | some q=>some q
  | none=>chkO dim pars f.lets.length 0 f.outs
theorem zff{α:Type}{motive:List α→Prop}(nil:motive [])(append_singleton:∀(l:List α) (x:α),motive l→motive (l++[x]))(l:List α):motive l:=by
 have key:∀l:List α,motive l.reverse:=by
  intro l
  induction l with
  | nil=>exact nil
  | cons x l ih=>rw[List.reverse_cons];exact append_singleton _ x ih
 rw[←List.reverse_reverse l]
 exact key _
def inE(E:List (List Nd))(c:List Nd):List Nd:=c.flatMap fun x=>if x.op=5 then (E[x.i.toNat]?).getD [] else [x]
def tabE(L:List (List Nd)):List (List Nd):=L.foldl (fun E c=>E++[inE E c]) []
def refB(b:Nat)(c:List Nd):Prop:=∀x∈c,x.op=5→0≤x.i∧x.i<b
theorem refB.mono{b b':Nat}{c:List Nd}(h:refB b c)(hb:b≤b'):refB b' c:=fun x hx ho=>by have:=h x hx ho;omega
def refT(L:List (List Nd)):Prop:=∀(i:Nat) (c:List Nd),L[i]? = some c→refB i c
def noLet(c:List Nd):Prop:=∀x∈c,x.op≠5
def szC(S:List Nat)(c:List Nd):Nat:=c.foldl (fun n x=>min (n+if x.op=5 then (S[x.i.toNat]?).getD 0 else 1) 1201) 0
def szT(L:List (List Nd)):List Nat:=L.foldl (fun S c=>S++[szC S c]) []
def allE(E:List (List Nd))(O:List (List Nd)):Nat:=(O.map fun c=>(inE E c).length).sum
theorem zuw{dim pars lets:Int}{c:List Nd}(h:ptA dim pars lets c<0):placeN dim pars lets c<0∧depN c≤40:=by
 unfold ptA at h
 by_cases h1:placeN dim pars lets c<0∧40<depN c
 ·rw[if_pos h1]at h;omega
 ·rw[if_neg h1]at h
  exact⟨h,by omega⟩
theorem zl6{dim pars:Int}{L:List Lt}:∀(l:List Lt) (i:Nat),chkL dim pars L i l=none→∀k x,l[k]? = some x→ptA dim pars ((i+k:Nat):Int) x.code<0
 | [],i,h,k,x,hk=>by simp at hk
 | y::r,i,h,k,x,hk=>by
  unfold chkL at h
  split at h
  ·cases h
  ·split at h
   ·cases h
   ·next h2=>
    cases k with
    | zero=>
     simp only[List.getElem?_cons_zero,Option.some.injEq]at hk
     subst hk
     rw[Nat.add_zero];omega
    | succ k=>
     rw[List.getElem?_cons_succ]at hk
     have:=zl6 r (i+1) h k x hk
     rwa [show i+1+k=i+(k+1) by omega]at this
theorem zl7{dim pars:Int}{n:Nat}:∀(l:List (List Nd)) (i:Nat),chkO dim pars n i l=none→∀c∈l,ptA dim pars n c<0
 | [],i,h,c,hc=>by simp at hc
 | y::r,i,h,c,hc=>by
  unfold chkO at h
  split at h
  ·cases h
  ·rcases List.mem_cons.1 hc with rfl | hc
   ·omega
   ·exact zl7 r (i+1) h c hc
structure FineD (f:Fd) (dim pars:Int):Prop where
 wh:1≤dim∧dim≤6∧0≤pars∧pars≤6∧(f.outs.length:Int)=dim∧f.lets.length≤10∧sizeD f≤300
 lets:∀k x,f.lets[k]? = some x→placeN dim pars (k:Nat) x.code<0
 outs:∀c∈f.outs,placeN dim pars f.lets.length c<0
theorem zl8{f:Fd}{dim pars:Int}(h:chkD f dim pars=none):FineD f dim pars:=by
 unfold chkD at h
 cases hW:whB f dim pars with
 | false=>rw[hW,if_pos rfl]at h;cases h
 | true=>
  rw[hW,if_neg (by decide)]at h
  have hw:=by simpa[whB]using hW
  cases hL:chkL dim pars f.lets 0 f.lets with
  | some q=>rw[hL]at h;cases h
  | none=>
   rw[hL]at h
   refine⟨hw,fun k x hk=>?_,fun c hc=>(zuw (zl7 _ _ h c hc)).1⟩
   have:=zl6 _ _ hL k x hk
   rw[Nat.zero_add]at this
   exact(zuw this).1
theorem zfg{dim pars lets:Int}{x:Nd}(h:okN dim pars lets x=true)(ho:x.op=5):0≤x.i∧x.i<lets:=by
 unfold okN at h
 rw[ho,if_neg (by decide)]at h
 split at h
 ·cases h
 ·simpa[belB]using h
theorem FineD.refT{f:Fd}{dim pars:Int}(h:FineD f dim pars):refT (f.lets.map (·.code)):=by
 intro i c hc x hx ho
 rw[List.getElem?_map]at hc
 obtain⟨y,hy,rfl⟩:=Option.map_eq_some_iff.1 hc
 obtain⟨_,_,_,hok⟩:=zb1 (h.lets i y hy)
 exact zfg (hok x hx) ho
theorem FineD.refB{f:Fd}{dim pars:Int}(h:FineD f dim pars):∀c∈f.outs,refB f.lets.length c:=by
 intro c hc x hx ho
 obtain⟨_,_,_,hok⟩:=zb1 (h.outs c hc)
 exact zfg (hok x hx) ho
theorem ziy{l:List Nat}{n:Nat}(h:n∈l):n≤l.sum:=by
 induction l with
 | nil=>cases h
 | cons m l ih=>
  rw[List.sum_cons]
  rcases List.mem_cons.1 h with rfl | h
  ·omega
  ·have:=ih h;omega
theorem FineD.len{f:Fd}{dim pars:Int}(h:FineD f dim pars):∀c∈codesD f,c.length≤300:=by
 intro c hc
 have:=h.wh.2.2.2.2.2.2
 unfold sizeD at this
 have h2:c.length≤((codesD f).map List.length).sum:=ziy (List.mem_map.2 ⟨c,hc,rfl⟩)
 omega
theorem ziz{f:Fd}{x:Lt}(h:x∈f.lets):x.code∈codesD f:=List.mem_append_left _ (List.mem_map.2 ⟨x,h,rfl⟩)
theorem zi0{f:Fd}{c:List Nd}(h:c∈f.outs):c∈codesD f:=List.mem_append_right _ h
def letsB(f:Fd):Bool:=decide (0<f.lets.length) || f.outs.any fun c=>c.any fun x=>decide (x.op=5)
abbrev tabF(f:Fd):List (List Nd):=tabE (f.lets.map (·.code))
def hasP(f:Fd):Bool:=decide (chkD f f.outs.length 6=none)&&decide (allE (tabF f) f.outs≤1200)
def outsP(f:Fd):List (List Nd):=f.outs.map (inE (tabF f))
class CRow2 (T:Tbl):Prop where
class CFig (T:Tbl):Prop where
def prim344:List AV→Option AV
 | [.s s,.s [47,46]]=>if s.length≤1000000 then some (.i .i64 (Lib.indexAny s [47,46])) else none
 | _=>none
def prim194:List AV→Option AV
 | [.s s,.s [c]]=>some (.i .i64 (Lib.indexByte s c))
 | _=>none
def prim361:List AV→Option AV
 | [.s s,.s [c]]=>some (.i .i64 (Lib.countByte s c))
 | _=>none
def prim343:List AV→Option AV
 | [.s [48],.i .i64 n]=>if 0≤n∧n≤64 then some (.s (List.replicate n.toNat 48)) else none
 | _=>none
class CStr (T:Tbl):Prop where
class CSplit (T:Tbl):Prop where
def splitC(c:UInt8):List UInt8→List (List UInt8)
 | []=>[[]]
 | b::l=>if b=c then []::splitC c l else match splitC c l with
  | []=>[[b]]
  | p::r=>(b::p)::r
section
variable{T:Tbl}[CStr T][CSplit T]
def stSp(c:UInt8)(N:Nat)(ps:List (List UInt8))(s:List UInt8):St:=
 ⟨[(0,.s s),(1,.s [c]),(2,.i .i64 0),(3,.i .i64 ((N:Int)-1)),(9,.bs (.loc 31) 1 1 0 N),(10,.i .i64 ps.length)],[(.loc 31,⟨1,.own,1,rowsT ps++List.replicate (N-ps.length) [.s []]⟩)],3⟩
end
abbrev flt(k a:Int):AV:=.agg [.i .i64 k,.i .i64 0,.i .i64 0,.i .i64 a]
def isCut(c:UInt8):Bool:=c == 47 || c == 46
def cutN:List UInt8→Nat
 | []=>0
 | c::r=>if isCut c then 0 else cutN r+1
def figB(z:Int)(neg:Bool)(s:List UInt8)(c:UInt8)(at_:Nat):Rat×Int×Int:=
 let rest:=s.drop at_
 if 0≤wrongI rest then (0,1,wrongI rest+at_)
 else if c=47 then (if rd rest=0 then (0,2,at_) else (mkRat z (rd rest),0,0))
 else (mkRat (sg neg (z.natAbs*10^rest.length+rd rest)) (10^rest.length),0,0)
def figR(s:List UInt8):Rat×Int×Int:=
 let first:=s.take (cutN s)
 if 0≤wrongZ first then (0,1,wrongZ first+minus first)
 else if cutN s<s.length then figB (readZ first) (s.head? = some 45) s (s.getD (cutN s) 0) (cutN s+1)
 else (mkRat (readZ first) 1,0,0)
def readL:List (List UInt8)→Nat→List Rat→List Rat×Int×Int
 | [],_,acc=>(acc,0,0)
 | w::ws,k,acc=>if (figR w).2.1=0 then readL ws (k+w.length+1) (acc++[(figR w).1]) else ([],(figR w).2.1,(figR w).2.2+k)
def rowR(s:List UInt8):List Rat×Int×Int:=if s=[] then ([],0,0) else readL (splitC 44 s) 0 []
section
variable{T:Tbl}[CLimb T][CNat T][CProd T][CTwos T][CQuot T][CQuotD T][CDigits T][CText T][CWhole T][CCommon T][CFrac T][CFrac2 T][CStr T][CSplit T][CPow T][CFig T][CJoin T][CRow T][CRow2 T]
def stRR(ws:List (List UInt8))(y:Nat×Nat×List Rat):St:=
 ⟨[(3,.ptr (.loc 3) 1 4 0 0),(4,.bs (.loc 4) 2 3 0 y.2.2.length),(5,.i .i64 y.2.1),(14,.sl (rowsT ws) .an),(15,.i .i64 ws.length),(16,.i .i64 y.1)],
  [(.loc 3,⟨1,.str,4,[[.i .i64 0,.i .i64 0,.i .i64 0,.i .i64 0]]⟩),(.loc 4,⟨2,.own,3,rowF (fzs y.2.2)⟩)],4⟩
def resRR(r:List Rat×Int×Int):Option (Ex×St):=
 if r.2.1=0 then some (.n,⟨[(3,.ptr (.loc 3) 1 4 0 0),(4,.bs (.loc 4) 2 3 0 r.1.length)],[(.loc 3,⟨1,.str,4,[[.i .i64 0,.i .i64 0,.i .i64 0,.i .i64 0]]⟩),(.loc 4,⟨2,.own,3,rowF (fzs r.1)⟩)],4⟩)
 else some (.r,⟨[(2,.sl [] .an),(3,.ptr (.loc 3) 1 4 0 0)],[(.loc 3,⟨1,.str,4,[[.i .i64 r.2.1,.i .i64 0,.i .i64 0,.i .i64 r.2.2]]⟩)],3⟩)
end
def Dig(l:List UInt8):Prop:=∀c∈l,48≤c.toNat∧c.toNat≤57
theorem zo7{n:Nat}(h:n<10):(UInt8.ofNat (48+n)).toNat=48+n:=by
 rw[UInt8.toNat_ofNat']
 omega
theorem zo8(n:Nat):rd (textN n)=n:=by
 induction n using Nat.strongRecOn with
 | _ n ih=>
  by_cases h:n<10
  ·rw[zdd h]
   show 0*10+((UInt8.ofNat (48+n)).toNat-48)=n
   rw[zo7 h]
   omega
  ·rw[zhf h,zzz,ih (n/10) (by omega),zo7 (by omega)]
   omega
def NoCut(l:List UInt8):Prop:=∀c∈l,isCut c=false
theorem Ins.ext'{x y:Ins}(h1:x.op=y.op)(h2:x.a=y.a)(h3:x.b=y.b)(h4:x.n=y.n):x=y:=by
 obtain⟨_,_,_,_⟩:=x
 obtain⟨_,_,_,_⟩:=y
 simp_all
instance:DecidableEq Ins:=fun x y=>decidable_of_iff (x.op=y.op∧x.a=y.a∧x.b=y.b∧x.n=y.n) ⟨fun h=>Ins.ext' h.1 h.2.1 h.2.2.1 h.2.2.2,fun h=>by subst h;exact⟨rfl,rfl,rfl,rfl⟩⟩
def blk:Fz:=(false,[],[])
def MkI(x:Ins):Prop:=(x.op=1→∃n:Nat,x.n=fz (n:Rat))∧(x.op≠1→x.n=blk)
def txtI(x:Ins):List UInt8:=if x.op=1 then textN (val x.n.2.1) else []
def keyA(x:Ins):AV:=.agg [.i .i64 x.op,.i .i64 x.a,.i .i64 x.b,.s (txtI x)]
abbrev lsK:List (Nat×Leaf):=[(0,.int),(1,.int),(2,.int),(3,.str)]
theorem znu(x y:Ins):keyEq (.fs lsK) (keyA x) (keyA y)=some (decide (x.op=y.op∧x.a=y.a∧x.b=y.b∧txtI x=txtI y)):=by
 unfold keyA
 simp only[keyEq,eqL,List.getElem?_cons_zero,List.getElem?_cons_succ,leafEq]
 by_cases h1:x.op=y.op<;>by_cases h2:x.a=y.a<;>by_cases h3:x.b=y.b<;>by_cases h4:txtI x=txtI y<;>simp[h1,h2,h3,h4]
theorem zz1{x y:Ins}(hx:MkI x)(hy:MkI y)(h:x.op=y.op∧x.a=y.a∧x.b=y.b∧txtI x=txtI y):x=y:=by
 obtain⟨h1,h2,h3,h4⟩:=h
 refine Ins.ext' h1 h2 h3 ?_
 by_cases ho:x.op=1
 ·obtain⟨n,hn⟩:=hx.1 ho
  obtain⟨m,hm⟩:=hy.1 (h1▸ho)
  unfold txtI at h4
  rw[if_pos ho,if_pos (h1▸ho)]at h4
  have h5:val x.n.2.1=val y.n.2.1:=by rw[←zo8 (val x.n.2.1),h4,zo8]
  have key:∀k:Nat,val (fz (k:Rat)).2.1=k:=fun k=>by
   unfold fz
   simp[zag]
  rw[hn,hm,key,key]at h5
  rw[hn,hm,h5]
 ·rw[hx.2 ho,hy.2 (h1▸ho)]
def idxI(x:Ins):Nat→List Ins→Option Nat
 | _,[]=>none
 | k,y::r=>if y=x then some k else idxI x (k+1) r
def mapI:Nat→List Ins→List (List AV)
 | _,[]=>[]
 | k,y::r=>[keyA y,.i .i64 (k:Int)]::mapI (k+1) r
@[simp] theorem zwv(k:Nat):mapI k []=[]:=rfl
theorem zl3(x:Ins):∀(C:List Ins) (k:Nat),mapI k (C++[x])=mapI k C++[[keyA x,.i .i64 ((k+C.length:Nat):Int)]]
 | [],k=>rfl
 | y::r,k=>by
  show _::mapI (k+1) (r++[x])=_::(mapI (k+1) r++_)
  rw[zl3 x r (k+1),List.length_cons,show k+1+r.length=k+(r.length+1) by omega]
@[simp] theorem zus:∀(C:List Ins) (k:Nat),wkL (mapI k C)=mapI k C
 | [],k=>rfl
 | y::r,k=>by
  show wkR [keyA y,.i .i64 (k:Int)]::wkL (mapI (k+1) r)=_
  rw[zus r (k+1)]
  rfl
theorem zhh(x:Ins)(hx:MkI x):∀(C:List Ins) (k:Nat),(∀y∈C,MkI y)→findE (.fs lsK) (keyA x) (mapI k C)=some ((idxI x k C).map fun i=>.i .i64 (i:Int))
 | [],k,_=>rfl
 | y::r,k,h=>by
  show (keyEq (.fs lsK) (keyA x) (keyA y)).bind _=_
  rw[znu,Option.bind_some]
  by_cases hxy:y=x
  ·subst hxy
   rw[decide_eq_true ⟨rfl,rfl,rfl,rfl⟩,if_pos rfl]
   unfold idxI
   rw[if_pos rfl]
   rfl
  ·have:¬ (x.op=y.op∧x.a=y.a∧x.b=y.b∧txtI x=txtI y):=fun hh=>hxy (zz1 hx (h y List.mem_cons_self) hh).symm
   rw[decide_eq_false this,if_neg (by decide)]
   unfold idxI
   rw[if_neg hxy]
   exact zhh x hx r (k+1) fun z hz=>h z (List.mem_cons_of_mem _ hz)
theorem zut(x:Ins):∀(C:List Ins) (k i:Nat),idxI x k C=some i→k≤i∧i<k+C.length∧C[i-k]? = some x
 | [],k,i,h=>by cases h
 | y::r,k,i,h=>by
  unfold idxI at h
  split at h
  ·next hy=>
   cases h
   subst hy
   exact⟨Nat.le_refl _,by simp,by simp⟩
  ·obtain⟨h1,h2,h3⟩:=zut x r (k+1) i h
   refine⟨by omega,by simp only[List.length_cons];omega,?_⟩
   rw[show i-k=(i-(k+1))+1 by omega,List.getElem?_cons_succ]
   exact h3
def putI(C:List Ins)(x:Ins):List Ins×Nat:=match idxI x 0 C with | some i=>(C,i) | none=>(C++[x],C.length)
def leafI(x:Nd):Ins:=if x.op=1 then ⟨1,0,0,fz ((val x.n:Nat):Rat)⟩ else if x.op=2 then ⟨2,0,0,blk⟩ else ⟨x.op,x.i,0,blk⟩
def ndI(Ls:List Nat)(C:List Ins)(s:List Nat)(x:Nd):List Ins×Nat:=
 if x.op=5 then (C,(Ls[x.i.toNat]?).getD 0)
 else if arN x.op=0 then putI C (leafI x)
 else if arN x.op=1 then putI C ⟨x.op,((s[s.length-1]?).getD 0:Nat),x.i,blk⟩
 else putI C ⟨x.op,((s[s.length-2]?).getD 0:Nat),((s[s.length-1]?).getD 0:Nat),blk⟩
structure Mq where
 C:List Ins
 W:List Nat
 s:List Nat
def stepQ'(Ls:List Nat)(q:Mq)(x:Nd):Mq:=⟨(ndI Ls q.C q.s x).1,q.W++[(ndI Ls q.C q.s x).2],q.s.take (q.s.length-(arN x.op).toNat)++[(ndI Ls q.C q.s x).2]⟩
def exQ(Ls:List Nat)(C:List Ins)(W:List Nat)(c:List Nd):Mq:=c.foldl (stepQ' Ls) ⟨C,W,[]⟩
theorem zo4(Ls:List Nat)(C:List Ins)(W:List Nat)(c:List Nd)(x:Nd):exQ Ls C W (c++[x])=stepQ' Ls (exQ Ls C W c) x:=by simp[exQ]
theorem znv{C:List Ins}{x:Ins}(hC:∀y∈C,MkI y)(hx:MkI x):∀y∈(putI C x).1,MkI y:=by
 unfold putI
 split
 ·exact hC
 ·intro y hy
  rcases List.mem_append.1 hy with h | h
  ·exact hC y h
  ·rw[List.mem_singleton]at h
   rw[h];exact hx
theorem zj0(x:Nd):MkI (leafI x):=by
 unfold leafI
 split
 ·exact⟨fun _=>⟨_,rfl⟩,fun h=>absurd rfl h⟩
 ·next h1=>
  split
  ·exact⟨fun h=>absurd h (by decide),fun _=>rfl⟩
  ·exact⟨fun h=>absurd h h1,fun _=>rfl⟩
theorem z40{Ls:List Nat}{C:List Ins}{s:List Nat}{x:Nd}(hC:∀y∈C,MkI y):∀y∈(ndI Ls C s x).1,MkI y:=by
 unfold ndI
 split
 ·exact hC
 ·split
  ·exact znv hC (zj0 x)
  ·next h0=>
   have h1:x.op≠1:=fun h=>h0 (by rw[h];decide)
   split
   ·exact znv hC ⟨fun h=>absurd h h1,fun _=>rfl⟩
   ·exact znv hC ⟨fun h=>absurd h h1,fun _=>rfl⟩
theorem zl4(Ls:List Nat):∀(c:List Nd) (q:Mq),(∀y∈q.C,MkI y)→∀y∈(c.foldl (stepQ' Ls) q).C,MkI y
 | [],q,h=>h
 | x::c,q,h=>zl4 Ls c (stepQ' Ls q x) (z40 h)
theorem zj1(C:List Ins)(x:Ins):C.length≤(putI C x).1.length∧(putI C x).1.length≤C.length+1∧(putI C x).2<(putI C x).1.length:=by
 unfold putI
 split
 ·next i h=>
  have:=zut x C 0 i h
  exact⟨Nat.le_refl _,by simp,by simpa using this.2.1⟩
 ·simp
class CPlain (T:Tbl):Prop where
abbrev mkP:AV:=.ptr (.bor 0) 0 2 0 0
def memR(E:List (List Nd))(D:List Nat):List (List AV):=D.map fun(i:Nat)=>[.i .i64 (i:Int),.sl (rowN ((E[i]?).getD [])) .an]
def plH(L:List Lt)(E:List (List Nd))(D:List Nat):Heap:=[(.bor 0,⟨0,.str,2,[[.sl (rowLt L) .an,.fnp 0 (.bor 1) 1 2 0 0]]⟩),(.bor 1,⟨1,.mp,2,memR E D⟩)]
theorem zfv{k:KTy}{id:BId}{g:Nat}{i y:AV}{h:Heap}{clk:Nat}:mupdXV k (.fnp 0 id g 2 0 0) i y h clk =
  (mapAt h id g).bind fun bx=>if (keyEq k i i).isSome&&noRef i&&noRef y&&isNew (findE k i bx.els) then some (.dead,(id,⟨g,.mp,2,bx.els++[[i,y]]⟩)::h,clk) else none:=rfl
def stPc(L:List Lt)(E:List (List Nd))(D:List Nat)(out c:List Nd)(i:Nat):St:=
 ⟨[(0,mkP),(5,.bs (.loc 5) 5 3 0 out.length),(8,.sl (rowN c) .an),(9,.i .i64 c.length),(10,.i .i64 i)],plH L E D++[(.loc 5,⟨5,.own,3,rowN out⟩)],7⟩
end Go.Ab
section
namespace Go.Ab
end Go.Ab
end
namespace Go.Ab
def natR(S:List Nat):List (List AV):=S.map fun(n:Nat)=>[.i .i64 (n:Int)]
@[simp] theorem zam(S:List Nat):(natR S).length=S.length:=by simp[natR]
@[simp] theorem zadd(S:List Nat):wkL (natR S)=natR S:=by rw[zcb];simp[natR,wkR,wkA]
@[simp] theorem z8c(S:List Nat)(i:Nat)(h:i<(natR S).length):(natR S)[i]=[.i .i64 ((S[i]'(by simpa using h):Nat):Int)]:=by simp[natR]
@[simp] theorem zo0:natR []=[]:=rfl
theorem zav(S:List Nat)(n:Nat):natR S++[[.i .i64 (n:Int)]]=natR (S++[n]):=by simp[natR]
def stPs(S:List Nat)(n:Nat)(c:List Nd)(i:Nat):St:=
 ⟨[(1,.bs (.bor 0) 0 1 0 S.length),(5,.i .i64 (n:Int)),(8,.sl (rowN c) .an),(9,.i .i64 c.length),(10,.i .i64 (i:Int))],[(.bor 0,⟨0,.own,1,natR S⟩)],4⟩
abbrev cmP:AV:=.ptr (.bor 0) 0 4 0 0
def cmH(gc gw:Nat)(C:List Ins)(L W:List Nat):Heap:=
 [(.bor 0,⟨0,.str,4,[[.bs (.bor 1) gc 6 0 C.length,.fnp 0 (.bor 2) 2 2 0 0,.bs (.bor 3) 3 1 0 L.length,.bs (.bor 4) gw 1 0 W.length]]⟩),(.bor 1,⟨gc,.own,6,rowI C⟩),(.bor 2,⟨2,.mp,2,mapI 0 C⟩),(.bor 3,⟨3,.own,1,natR L⟩),(.bor 4,⟨gw,.own,1,natR W⟩)]
section
variable{T:Tbl}[CText T][CComp T]
theorem zlg(C:List Ins)(L W:List Nat)(x:Ins)(hC:∀y∈C,MkI y)(hx:MkI x)(hn:x.n.2.1.length≤1000)(i:Nat)(hi:idxI x 0 C=some i) :
  callH T 650 [cmP,.agg (celI x)] (cmH 1 4 C L W)=some (.i .i64 (i:Int),cmH 1 4 C L W):=by
 have hf:=zhh x hx C 0 hC
 rw[hi]at hf
 have hk:=znu x x
 rw[decide_eq_true ⟨rfl,rfl,rfl,rfl⟩]at hk
 unfold keyA at hf hk
 unfold cmH
 by_cases ho:x.op=1
 ·have c68:callF T 68 [.sl (u32s x.n.2.1) .an]=some (.s (textN (val x.n.2.1))):=by
   rw[p68]
   exact zhe x.n.2.1 hn
  have ht:txtI x=textN (val x.n.2.1):=if_pos ho
  rw[ht]at hf hk
  obtain⟨op,a,b,⟨n0,n1,n2⟩⟩:=x
  dsimp only at *
  subst ho
  generalize textN (val n1)=tx at *
  rw[f650 _ _ rfl,b650]
  simp -implicitDefEqProofs[hf,hk,c68,genAt,zfv]
 ·have ht:txtI x=[]:=if_neg ho
  rw[ht]at hf hk
  obtain⟨op,a,b,⟨n0,n1,n2⟩⟩:=x
  dsimp only at *
  rw[f650 _ _ rfl,b650]
  simp -implicitDefEqProofs[hf,hk,ho,genAt,zfv]
theorem zlh(C:List Ins)(L W:List Nat)(x:Ins)(hC:∀y∈C,MkI y)(hx:MkI x)(hn:x.n.2.1.length≤1000)(hi:idxI x 0 C=none)(hl:C.length≤100000) :
  callH T 650 [cmP,.agg (celI x)] (cmH 1 4 C L W)=some (.i .i64 (C.length:Int),cmH 7 4 (C++[x]) L W):=by
 have hf:=zhh x hx C 0 hC
 rw[hi]at hf
 have hk:=znu x x
 rw[decide_eq_true ⟨rfl,rfl,rfl,rfl⟩]at hk
 have hms:=zl3 x C 0
 have hrs:=zhl C x
 rw[Nat.zero_add]at hms
 have hwk:=zus (C++[x]) 0
 rw[hms]at hwk
 have hw3:IntKind.wrap .i64 (C.length:Int)=(C.length:Int):=zab _ (by omega)
 have hl2:C.length+1≤4294967296:=by omega
 unfold keyA at hf hk hms hwk
 unfold cmH
 by_cases ho:x.op=1
 ·have c68:callF T 68 [.sl (u32s x.n.2.1) .an]=some (.s (textN (val x.n.2.1))):=by
   rw[p68]
   exact zhe x.n.2.1 hn
  have ht:txtI x=textN (val x.n.2.1):=if_pos ho
  rw[ht]at hf hk hms hwk
  obtain⟨op,a,b,⟨n0,n1,n2⟩⟩:=x
  dsimp only at *
  subst ho
  generalize textN (val n1)=tx at *
  rw[f650 _ _ rfl,b650]
  simp -implicitDefEqProofs[hf,hk,c68,genAt,zfv,hms,hrs,hl2,hw3,hwk]
 ·have ht:txtI x=[]:=if_neg ho
  rw[ht]at hf hk hms hwk
  obtain⟨op,a,b,⟨n0,n1,n2⟩⟩:=x
  dsimp only at *
  rw[f650 _ _ rfl,b650]
  simp -implicitDefEqProofs[hf,hk,ho,genAt,zfv,hms,hrs,hl2,hw3,hwk]
end
class CRun (T:Tbl):Prop where
def meths1:List RV:=[.cell 1 (some 445),.cell 2 (some 444),.cell 3 (some 441),.cell 4 (some 448),.cell 5 (some 443),.cell 6 (some 447),.cell 7 (some 446),.cell 8 (some 442)]
class CIfc (T:Tbl):Prop where
section
variable{T:Tbl}[CLimb T][CNat T][CProd T][CTwos T][CQuot T][CQuotD T][CWhole T][CCommon T][CFrac T][CFrac3 T]
def stPw(a:List UInt32)(k i:Nat):St:=⟨[(0,.sl (u32s a) .an),(5,.sl (u32s (ofN (val a^i))) .an),(7,.i .i64 k),(8,.i .i64 i)],[],2⟩
def powR(q:Rat)(e:Int):Rat×Bool:=if -8≤e∧e≤8∧¬ (e<0∧q=0) then (powZ q e,true) else (0,false)
end
@[simp] theorem zzt(l:List Int):(ints l).length=l.length:=by simp[ints]
@[simp] theorem zadh(l:List Int):wkL (ints l)=ints l:=by rw[zcb];simp[ints,wkR,wkA]
@[simp] theorem z8d(l:List Int)(i:Nat)(h:i<(ints l).length):(ints l)[i]=[.i .i64 (l[i]'(by simpa using h))]:=by simp[ints]
@[simp] theorem z4s(l:List Int)(n:Nat):(ints l).take n=ints (l.take n):=by simp[ints]
@[simp] theorem z8e:ints []=[]:=rfl
section
variable{T:Tbl}[CLimb T][CNat T][CProd T][CTwos T][CQuot T][CQuotD T][CWhole T][CCommon T][CFrac T][CFrac3 T][CTape T]
def stMy(t:Tp)(p:Nat)(x:Ins)(i:Nat):St:=
 ⟨[(1,.i .i64 p),(2,.ptr (.loc 2) 1 4 0 0),(5,.ptr (.loc 5) 2 6 0 0),(30,.sl (ints (readsI x)) .an),(31,.i .i64 (readsI x).length),(32,.i .i64 i)],
  [(.loc 2,⟨1,.str,4,[[.sl (rowI t.code) .an,.sl (ints t.outs) .an,.i .i64 t.dim,.i .i64 t.par]]⟩),(.loc 5,⟨2,.str,6,[celI x]⟩)],4⟩
end
section
variable{T:Tbl}[CLimb T][CNat T][CProd T][CTwos T][CQuot T][CQuotD T][CWhole T][CCommon T][CFrac T][CFrac3 T][CTape T]
structure Small (t:Tp):Prop where
 code:t.code.length≤4294967296
 outs:t.outs.length≤4294967296
 ns:∀i∈t.code,fsz i.n≤10000
 d1:-9223372036854775808≤t.dim
 d2:t.dim<9223372036854775808
def bxT(t:Tp):Box:=⟨1,.str,4,[[.sl (rowI t.code) .an,.sl (ints t.outs) .an,.i .i64 t.dim,.i .i64 t.par]]⟩
def stW1(t:Tp)(i:Nat):St:=⟨[(1,.ptr (.loc 1) 1 4 0 0),(11,.i .i64 t.code.length),(12,.i .i64 i)],[(.loc 1,bxT t)],3⟩
def stW2(t:Tp)(i:Nat):St:=⟨[(1,.ptr (.loc 1) 1 4 0 0),(22,.sl (ints t.outs) .an),(23,.i .i64 t.outs.length),(24,.i .i64 i)],[(.loc 1,bxT t)],3⟩
end
def limI(n:Int):Int:=if n<0 then 0 else if 4096<n then 4096 else n
abbrev bxG(g:Nat)(s p L:Int):Box:=⟨g,.str,3,[[.i .i64 s,.i .i64 p,.i .i64 L]]⟩
def cntS(s:Int):Int:=IntKind.wrap .i64 (s+1)
def cntP(p:Int)(x:Fz):Int:=if p<(sizF x:Int) then (sizF x:Int) else p
section
variable{T:Tbl}[CLimb T][CNat T][CProd T][CTwos T][CQuot T][CQuotD T][CWhole T][CCommon T][CFrac T][CFrac3 T][CFrac5 T][CPow T][CTape T][CGauge T][CEval T]
def stEn(l:List Fz)(i:Nat):St:=⟨[(3,.bs (.loc 3) 1 3 0 i),(6,.sl (rowF l) .an),(7,.i .i64 l.length),(8,.i .i64 i)],[(.loc 3,⟨1,.own,3,rowF (nrm (l.take i))⟩)],3⟩
structure PoS (x:PoF) (B:Nat):Prop where
 t:fsz x.t≤B
 y:∀u∈x.y,fsz u≤B
 p:∀u∈x.p,fsz u≤B
 yl:x.y.length≤1000
 pl:x.p.length≤1000
end
abbrev mD:AV:=.agg [.dead]
structure PvS (P:Po) (B:Nat):Prop where
 t:sz P.t≤B
 y:∀q∈P.y,sz q≤B
 p:∀q∈P.p,sz q≤B
def runG(lim:Nat)(P:Po):List Ins→List Rat→Int→Int→Int×Int
 | [],_,s,p=>(s,p)
 | i::r,D,s,p=>if (valI P D i).2=false then (s,p) else if lim<sizQ (valI P D i).1 then (cntS s,cntP p (fz (valI P D i).1)) else runG lim P r (D++[(valI P D i).1]) (cntS s) (cntP p (fz (valI P D i).1))
abbrev bxM:Box:=⟨3,.str,1,[[.ptr (.bor 0) 0 3 0 0]]⟩
abbrev bxP(g:Nat)(x:PoF):Box:=⟨g,.str,5,[[.b x.t.1,.sl (u32s x.t.2.1) .an,.sl (u32s x.t.2.2) .an,.sl (rowF x.y) .an,.sl (rowF x.p) .an]]⟩
abbrev bxF(g:Nat)(a b c d:Int):Box:=⟨g,.str,4,[[.i .i64 a,.i .i64 b,.i .i64 c,.i .i64 d]]⟩
def stRun(Q:PoF)(L:Int)(code:List Ins)(i:Nat)(D:List Fz)(s p:Int)(kd:Kind):St:=
 ⟨[(3,.ptr (.loc 3) 3 1 0 0),(5,.ptr (.loc 5) 4 5 0 0),(7,.ptr (.loc 7) 5 4 0 0),(8,.bs (.loc 8) 6 3 0 i),(34,.sl (rowI code) .an),(35,.i .i64 code.length),(36,.i .i64 i)],
  [(.bor 0,bxG 0 s p L),(.loc 3,bxM),(.loc 5,bxP 4 Q),(.loc 7,bxF 5 0 0 0 0),(.loc 8,⟨6,kd,3,rowF D⟩)],8⟩
def endN(n:Nat)(D:List Fz)(s p L:Int)(kd:Kind):Ex×St:=(.n,⟨[(7,.ptr (.loc 7) 3 4 0 0),(8,.bs (.loc 8) 4 3 0 n)],[(.bor 0,bxG 0 s p L),(.loc 7,bxF 3 0 0 0 0),(.loc 8,⟨4,kd,3,rowF D⟩)],6⟩)
def endR(kind at_ s p L:Int):Ex×St:=(.r,⟨[(6,.sl [] .an),(7,.ptr (.loc 7) 3 4 0 0)],[(.bor 0,bxG 0 s p L),(.loc 7,bxF 3 kind 0 0 at_)],5⟩)
section
variable{T:Tbl}[CLimb T][CNat T][CProd T][CTwos T][CQuot T][CQuotD T][CWhole T][CCommon T][CFrac T][CFrac3 T][CFrac5 T][CPow T][CTape T][CGauge T][CEval T][CRun T][CIfc T]
def kdE(kd:Kind)(l:List Ins):Kind:=if l=[] then kd else .sh
def endRun(lim:Nat)(P:Po)(code l:List Ins)(D:List Rat)(s p:Int)(kd:Kind):Ex×St:=
 if (runR lim P l D).2.1=0 then endN code.length (fzs (runR lim P l D).1) (runG lim P l D s p).1 (runG lim P l D s p).2 lim (kdE kd l)
 else endR (runR lim P l D).2.1 (runR lim P l D).2.2 (runG lim P l D s p).1 (runG lim P l D s p).2 lim
end
def leafV(P:Po)(ls:List Rat)(x:Nd):Rat:=if x.op=1 then ((val x.n:Nat):Rat) else if x.op=3 then gI P.y x.i else if x.op=4 then gI P.p x.i else if x.op=5 then gI ls x.i else P.t
def unV(x:Nd)(a:Rat):Rat×Bool:=if x.op=6 then (-a,true) else powR a x.i
def biV(op:Int)(a b:Rat):Rat×Bool:=if op=7 then (a+b,true) else if op=8 then (a-b,true) else if op=9 then (a*b,true) else (a/b,decide (b≠0))
def finV(lim:Nat)(v:Rat×Bool)(i:Nat):Rat×Nat×Nat:=if v.2=false then (0,3,i) else if lim<sizQ v.1 then (0,6,i) else (v.1,0,0)
def stepV(P:Po)(ls:List Rat)(s:List Rat)(x:Nd):(Rat×Bool)×List Rat:=
 if arN x.op=0 then ((leafV P ls x,true),s) else if arN x.op=1 then (unV x (s.headD 0),s.tail) else (biV x.op (s.tail.headD 0) (s.headD 0),s.tail.tail)
def walkR(lim:Nat)(P:Po)(ls:List Rat):Nat→List Rat→List Nd→Rat×Nat×Nat
 | _,s,[]=>(s.headD 0,0,0)
 | i,s,x::r=>if (finV lim (stepV P ls s x).1 i).2.1≠0 then finV lim (stepV P ls s x).1 i else walkR lim P ls (i+1) ((stepV P ls s x).1.1::(stepV P ls s x).2) r
def evT(lim:Nat)(P:Po)(ls:List Rat):Tre→Nat→Rat×Nat×Nat
 | .leaf x,i=>finV lim (leafV P ls x,true) i
 | .un x a,i=>if (evT lim P ls a i).2.1≠0 then evT lim P ls a i else finV lim (unV x (evT lim P ls a i).1) (i+a.flat.length)
 | .bin x a b,i=>if (evT lim P ls a i).2.1≠0 then evT lim P ls a i else if (evT lim P ls b (i+a.flat.length)).2.1≠0 then evT lim P ls b (i+a.flat.length)
   else finV lim (biV x.op (evT lim P ls a i).1 (evT lim P ls b (i+a.flat.length)).1) (i+a.flat.length+b.flat.length)
def walkG(lim:Nat)(P:Po)(ls:List Rat):List Rat→List Nd→Int→Int→Int×Int
 | _,[],c,p=>(c,p)
 | s,x::r,c,p=>if (stepV P ls s x).1.2=false then (c,p) else if lim<sizQ (stepV P ls s x).1.1 then (cntS c,cntP p (fz (stepV P ls s x).1.1))
   else walkG lim P ls ((stepV P ls s x).1.1::(stepV P ls s x).2) r (cntS c) (cntP p (fz (stepV P ls s x).1.1))
abbrev hpA(gk:Nat)(Q:PoF)(LS:List Fz)(s p L seen:Int)(F:List Fz)(m:Nat):Heap:=
 [(.bor 0,⟨0,.str,9,[[.b Q.t.1,.sl (u32s Q.t.2.1) .an,.sl (u32s Q.t.2.2) .an,.sl (rowF Q.y) .an,.sl (rowF Q.p) .an,.sl (rowF LS) .an,.ptr (.bor 1) 1 3 0 0,.i .i64 seen,.bs (.bor 2) gk 3 0 m]]⟩),(.bor 1,bxG 1 s p L),(.bor 2,⟨gk,.own,3,rowF F⟩)]
abbrev wP:AV:=.ptr (.bor 0) 0 9 0 0
section
variable{T:Tbl}[CLimb T][CNat T][CProd T][CTwos T][CQuot T][CQuotD T][CWhole T][CCommon T][CFrac T][CFrac2 T][CFrac3 T][CFrac5 T][CPow T][CTape T][CGauge T][CEval T][CEval2 T][CTree T][CText T][CLenD T]
theorem zq2(a:List UInt32)(ha:a.length≤10000):callF T 204 [.agg [.b false,.sl (u32s a) .an],.sl [[u32 1]] .an]=some (.tup [efz (fz ((val a:Nat):Rat)),.b true]):=by
 have c1:callF T 70 [.sl [[u32 1]] .an]=some (.b false):=zfu (T:=T) [1] (by decide)
 have c2:callF T 202 [.agg [.b false,.sl (u32s a) .an],.sl [[u32 1]] .an]=some (efz (fz (mkRat (wv false a) 1))):=zng (T:=T) false a [1] ha (by decide) (by decide)
 have e:mkRat (wv false a) 1=((val a:Nat):Rat):=by
  rw[Rat.mkRat_one]
  rfl
 rw[e]at c2
 rw[f204 _ rfl,b204]
 generalize fz ((val a:Nat):Rat)=R at *
 simp -implicitDefEqProofs[c1,c2]
end
end Go.Ab