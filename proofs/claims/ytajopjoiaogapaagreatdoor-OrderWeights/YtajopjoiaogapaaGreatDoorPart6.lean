/-
  A calculus of values, boxes and code, and what functions of the program compute, proved in it.
  Conditions: none beyond those that the theorems state. (Part 6.)
-/
import Derived.Test.YtajopjoiaogapaaGreatDoorPart5
import Derived.Test.YtajopjoiaogapaaGreatDoorProg
import Derived.KernelRfl
import Derived.Shelf.Strings.Builder1
import Derived.Shelf.Strings.Builder2
import Derived.Shelf.Strings.OnBuilder
import Derived.Shelf.Strings.IndexAnyAll
import Derived.Shelf.Strings.Count
import Derived.Shelf.Strings.Search2
import Derived.Laws.RangeAny
import Derived.Laws.Runes
import Derived.Lib.DecodeN
import Derived.Shelf.RegionOpenPlain
import Derived.WalkMore
import Derived.Deep.LoopGhost
import Derived.Shelf.Small.Utf8
import Derived.Shelf.Strings.Cut
import Derived.ProofKit
import Derived.OpenShut
import Derived.WalkKit
import Derived.Deep.DeepCutAuto
import Derived.Deep.DeepFit
import Derived.Deep.CutBlock
import Derived.Lib.OthersKept
import Derived.Test.YtajopjoiaogapaaGreatDoorRows
import Derived.Test.YtajopjoiaogapaaGreatDoorCards
import Derived.Test.YtajopjoiaogapaaGreatDoorTie
import Derived.LaidMore
import Derived.Stop.Joined
import Derived.SevenTiedAt
import Derived.Lib.LaidU8

set_option linter.unusedSectionVars false
set_option linter.unusedVariables false
set_option linter.unusedSimpArgs false
set_option linter.unnecessarySimpa false

section
namespace Go.Proofs.YtajopjoiaogapaaGreatDoor
open Go Go.Ab
set_option maxRecDepth 100000
def nus:List (Nat×Nat):=[(23,63),(24,80),(25,114),(27,66),(32,170),(36,83),(37,113),(38,86),(39,108),(40,141),(41,67),(43,74),(52,104),(54,73),(55,87),(56,88),(57,89),(58,49),(59,109),(60,65),(61,79),(62,117),(63,107),(64,138),(65,183),(70,84),(71,91),(72,68),(73,142),(84,78),(85,118),(86,92),(87,119),(88,120),(89,90),(90,144),(91,145),(92,146),(93,147),(94,148),(95,102),(96,134),(97,105),(98,159),(99,190),(100,191),(106,122),(115,149),(116,150),(117,121),(118,161),(119,162),(120,163),(121,164),(122,131),(123,175),(168,71),(172,94),(173,44),(177,124),(178,125),(179,126),(180,99),(181,100),(182,101),(184,93),(185,152),(186,153),(187,154),(188,155),(189,129),(190,130),(194,151),(198,143),(199,115),(200,116),(201,85),(202,62),(203,61),(204,171),(205,36),(207,82),(208,127),(210,64),(211,60),(212,33),(215,34),(217,35),(223,128),(224,132),(225,133),(226,103),(227,106),(228,76),(229,75),(230,77),(231,48),(232,22),(233,46),(235,51),(239,52),(241,53),(245,72),(247,29),(248,30),(249,55),(250,25),(252,185),(253,184),(254,172),(255,173),(256,158),(258,192),(275,139),(278,24),(286,16),(287,19),(308,41),(344,169),(345,174),(346,160),(353,50),(354,176),(356,156),(357,196),(360,186),(361,187),(362,157),(515,15),(527,17),(529,21),(536,42),(540,45),(541,47),(551,70),(559,95),(560,96),(561,97),(562,98),(588,7),(589,8),(590,9),(592,11),(593,12),(594,13),(595,14),(603,37),(604,20),(605,38),(606,39),(607,40),(608,58),(609,57),(610,69),(611,26),(612,81),(613,56),(614,110),(615,111),(616,112),(617,18),(618,135),(619,136),(620,137),(621,140),(622,43),(638,4),(641,23),(642,27),(643,54),(2043,74),(2071,91),(2092,146),(2097,105),(2106,122)]
def nu(u:Nat):FuncId:=(nus.lookup u).getD 0
def RowOk(P:Program)(ν:Nat→FuncId)(τ:Nat→Nat)(u:Nat)(af:AFx):Prop:=
 match af.body.isPrim with
 | some f=>∀xs r,f xs=some r→Zal P (ν u) xs (·=r)
 | none=>if af.body.isBad=true then (∀m∈Zis af,Zen P af.np m.1=some (ν m.2))∧(af.res.isEmpty=true→af.np=ν af.nt) else Zfw P (ν u)=some (erF ν τ af)
theorem ok_pr{P:Program}{ν:Nat→FuncId}{τ:Nat→Nat}{u:Nat}{af:AFx}{f:List AV→Option AV}(h0:af.body.isPrim=some f)(h:∀xs r,f xs=some r→Zal P (ν u) xs (·=r)):RowOk P ν τ u af:=by unfold RowOk;rw[h0];exact h
theorem ok_fn{P:Program}{ν:Nat→FuncId}{τ:Nat→Nat}{u:Nat}{af:AFx}(h0:af.body.isPrim=none)(h1:af.body.isBad=false)(h:Zfw P (ν u)=some (erF ν τ af)):RowOk P ν τ u af:=by unfold RowOk;rw[h0];simp only[h1];exact h
theorem ok_cons{P:Program}{ν:Nat→FuncId}{τ:Nat→Nat}{u:Nat}{af:AFx}{l:List (Nat×AFx)}(h:RowOk P ν τ u af)(hl:∀p∈l,RowOk P ν τ p.1 p.2) :
  ∀p∈(u,af)::l,RowOk P ν τ p.1 p.2:=by
 intro p hp;rcases List.mem_cons.1 hp with rfl | hp
 ·exact h
 ·exact hl p hp
theorem ok_lookup{P:Program}{ν:Nat→FuncId}{l:List (Nat×AFx)}(hl:∀p∈l,RowOk P ν (Zu fun u=>l.lookup u) p.1 p.2):TOk P ν (fun u=>l.lookup u):=fun _ _ h=>hl _ (zdm h)
def pT(i:Nat):List (Nat×AFx):=match i with
 | 0=>[(115,row115),(116,row116),(117,row117),(118,row118),(91,row91),(86,row86),(106,row106),(71,row71),(72,row72),(73,row73),(70,row70),(87,row87),(85,row85),(56,row56),(88,row88),(57,row57),(2106,row2106),(89,row89),(100,row100),(60,row60),(92,row92),(94,row94),(90,row90),(119,row119),(120,row120)]
 | 1=>[(121,row121),(93,row93),(2071,row2071),(2092,row2092),(62,row62),(98,row98),(123,row123),(64,row64),(99,row99),(65,row65),(55,row55),(38,row38),(40,row40),(23,row23),(25,row25),(27,row27),(37,row37),(41,row41),(36,row36),(32,row32),(198,row198),(199,row199),(200,row200),(201,row201),(202,row202)]
 | 2=>[(203,row203),(205,row205),(207,row207),(210,row210),(211,row211),(212,row212),(215,row215),(217,row217),(204,row204),(208,row208),(223,row223),(346,row346),(354,row354),(362,row362),(345,row345),(258,row258),(356,row356),(357,row357),(252,row252),(253,row253),(254,row254),(255,row255),(256,row256),(275,row275),(185,row185)]
 | 3=>[(186,row186),(177,row177),(188,row188),(179,row179),(178,row178),(172,row172),(536,row536),(551,row551),(559,row559),(560,row560),(561,row561),(562,row562),(608,row608),(612,row612),(614,row614),(615,row615),(616,row616),(618,row618),(619,row619),(620,row620),(621,row621),(43,row43),(84,row84),(52,row52),(54,row54)]
 | 4=>[(58,row58),(59,row59),(61,row61),(122,row122),(95,row95),(96,row96),(97,row97),(63,row63),(2043,row2043),(224,row224),(225,row225),(226,row226),(227,row227),(228,row228),(229,row229),(230,row230),(2097,row2097),(39,row39),(24,row24),(231,row231),(232,row232),(233,row233),(235,row235),(239,row239),(241,row241)]
 | 5=>[(247,row247),(353,row353),(278,row278),(286,row286),(245,row245),(189,row189),(190,row190),(181,row181),(180,row180),(182,row182),(168,row168),(173,row173),(248,row248),(249,row249),(250,row250),(287,row287),(308,row308),(515,row515),(527,row527),(529,row529),(540,row540),(541,row541),(603,row603),(609,row609),(610,row610)]
 | 6=>[(589,row589),(594,row594),(595,row595),(605,row605),(607,row607),(604,row604),(611,row611),(613,row613),(617,row617),(622,row622),(590,row590),(592,row592),(593,row593),(606,row606),(641,row641),(642,row642),(643,row643),(588,row588),(638,row638)]
 | _=>[]
def Zpu:List (Nat×AFx):=[(344,row344),(194,row194),(361,row361),(187,row187),(184,row184)]
def lTab:List (Nat×AFx):=pT 0++pT 1++pT 2++pT 3++pT 4++pT 5++pT 6++Zpu
def gTab:List (Nat×AFx):=lTab++[]
def tab:Tbl:=fun u=>gTab.lookup u
def tau_l:Nat→Nat:=Zu fun u=>lTab.lookup u
def Zcq(l:List (Nat×AFx)):Prop:=(l.map fun p=>Zfw Tryz.prog (nu p.1))=l.map fun p=>some (erF nu tau_l p.2)
theorem res_mem{l:List (Nat×AFx)}(h:Zcq l)(h2:(l.all fun p=>p.2.body.isPrim.isNone&&!p.2.body.isBad)=true):∀p∈l,RowOk Tryz.prog nu tau_l p.1 p.2:=by
 intro p hp;have h3:=List.all_eq_true.1 h2 p hp;simp only[Bool.and_eq_true,Option.isNone_iff_eq_none,Bool.not_eq_true']at h3;exact ok_fn h3.1 h3.2 (List.map_inj_left.1 h p hp)
theorem ok_app{l r:List (Nat×AFx)}(h1:∀p∈l,RowOk Tryz.prog nu tau_l p.1 p.2)(h2:∀p∈r,RowOk Tryz.prog nu tau_l p.1 p.2):∀p∈l++r,RowOk Tryz.prog nu tau_l p.1 p.2:=fun p hp=>(List.mem_append.1 hp).elim (h1 p) (h2 p)
theorem res0:Zcq (pT 0):=by unfold Zcq;kernel_rfl
theorem res1:Zcq (pT 1):=by unfold Zcq;kernel_rfl
theorem res2:Zcq (pT 2):=by unfold Zcq;kernel_rfl
theorem res3:Zcq (pT 3):=by unfold Zcq;kernel_rfl
theorem res4:Zcq (pT 4):=by unfold Zcq;kernel_rfl
theorem res5:Zcq (pT 5):=by unfold Zcq;kernel_rfl
theorem res6:Zcq (pT 6):=by unfold Zcq;kernel_rfl
theorem lTab_ok(hp344:∀xs r,prim344 xs=some r→Zal Tryz.prog (nu 344) xs (·=r))(hp194:∀xs r,prim194 xs=some r→Zal Tryz.prog (nu 194) xs (·=r))(hp361:∀xs r,prim361 xs=some r→Zal Tryz.prog (nu 361) xs (·=r))(hp187:∀xs r,prim187 xs=some r→Zal Tryz.prog (nu 187) xs (·=r))(hp184:∀xs r,prim184 xs=some r→Zal Tryz.prog (nu 184) xs (·=r)):TOk Tryz.prog nu (fun u=>lTab.lookup u):=ok_lookup (ok_app (ok_app (ok_app (ok_app (ok_app (ok_app (ok_app (res_mem res0 (by kernel_rfl)) (res_mem res1 (by kernel_rfl))) (res_mem res2 (by kernel_rfl))) (res_mem res3 (by kernel_rfl))) (res_mem res4 (by kernel_rfl))) (res_mem res5 (by kernel_rfl))) (res_mem res6 (by kernel_rfl))) (ok_cons (ok_pr rfl hp344) (ok_cons (ok_pr rfl hp194) (ok_cons (ok_pr rfl hp361) (ok_cons (ok_pr rfl hp187) (ok_cons (ok_pr rfl hp184) (fun p hp=>by cases hp)))))))
def Zl3:List Nat→Bool
 | []=>true
 | a::l=>!l.contains a&&Zl3 l
theorem sub_app{l r:List (Nat×AFx)}(h:Zl3 (l.map (·.1))=true):∀p∈l,(l++r).lookup p.1=some p.2:=by
 induction l with
 | nil=>intro p hp;cases hp
 | cons a l ih=>
  intro p hp;obtain⟨k,v⟩:=a;simp only[List.map_cons,Zl3,Bool.and_eq_true,Bool.not_eq_true']at h;rcases List.mem_cons.1 hp with rfl | hq
  ·simp
  ·have hne:(p.1 == k)=false:=by
    cases hb:p.1 == k with
    | false=>rfl
    | true=>
     have:=eq_of_beq hb;subst this;have h5:(l.map (·.1)).contains p.1=true:=List.contains_iff_mem.2 (List.mem_map.2 ⟨p,hq,rfl⟩);rw[h5]at h;cases h.1
   rw[List.cons_append,List.lookup_cons,hne];exact ih h.2 p hq
theorem lTab_part:Part gTab lTab:=⟨sub_app (by kernel_rfl),by kernel_rfl⟩
instance:Z0 tab:=⟨by kernel_rfl,by kernel_rfl,by kernel_rfl,by kernel_rfl,by kernel_rfl⟩
instance:Zq tab where
 h115:=by kernel_rfl
 h116:=by kernel_rfl
 h117:=by kernel_rfl
 h118:=by kernel_rfl
 h91:=by kernel_rfl
 h86:=by kernel_rfl
 h106:=by kernel_rfl
 h71:=by kernel_rfl
 h72:=by kernel_rfl
 h73:=by kernel_rfl
 h70:=by kernel_rfl
 h87:=by kernel_rfl
 h85:=by kernel_rfl
 h56:=by kernel_rfl
 h88:=by kernel_rfl
 h57:=by kernel_rfl
 h2106:=by kernel_rfl
instance:Zv tab where
 h115:=by kernel_rfl
 h116:=by kernel_rfl
 h117:=by kernel_rfl
 h118:=by kernel_rfl
 h91:=by kernel_rfl
 h86:=by kernel_rfl
 h106:=by kernel_rfl
 h71:=by kernel_rfl
 h72:=by kernel_rfl
 h73:=by kernel_rfl
 h70:=by kernel_rfl
 h87:=by kernel_rfl
 h85:=by kernel_rfl
 h56:=by kernel_rfl
 h88:=by kernel_rfl
 h57:=by kernel_rfl
 h2106:=by kernel_rfl
 h89:=by kernel_rfl
 h100:=by kernel_rfl
 h60:=by kernel_rfl
instance:Zy tab:=⟨by kernel_rfl,by kernel_rfl⟩
instance:Zr tab:=⟨by kernel_rfl,by kernel_rfl,by kernel_rfl,by kernel_rfl,by kernel_rfl⟩
instance:Zn tab:=⟨by kernel_rfl,by kernel_rfl,by kernel_rfl⟩
instance:Zx tab:=⟨by kernel_rfl,by kernel_rfl,by kernel_rfl,by kernel_rfl,by kernel_rfl⟩
instance:Zbc tab where
instance:Zno tab where
instance:Zf tab:=⟨by kernel_rfl,by kernel_rfl,by kernel_rfl,by kernel_rfl,by kernel_rfl,by kernel_rfl,by kernel_rfl,by kernel_rfl,by kernel_rfl,by kernel_rfl⟩
instance:Zg tab:=⟨by kernel_rfl,by kernel_rfl,by kernel_rfl,by kernel_rfl⟩
instance:Zw tab:=⟨by kernel_rfl,by kernel_rfl,by kernel_rfl,by kernel_rfl,by kernel_rfl,by kernel_rfl,by kernel_rfl,by kernel_rfl,by kernel_rfl⟩
instance:Zbn tab:=⟨by kernel_rfl⟩
instance:Zak tab:=⟨by kernel_rfl⟩
instance:Zan tab:=⟨by kernel_rfl⟩
instance:Zc5 tab:=⟨by kernel_rfl,by kernel_rfl,by kernel_rfl⟩
instance:Zas tab:=⟨by kernel_rfl,by kernel_rfl,by kernel_rfl,by kernel_rfl⟩
instance:Zbv tab:=⟨by kernel_rfl,by kernel_rfl,by kernel_rfl⟩
instance:Zc3 tab:=⟨by kernel_rfl,by kernel_rfl,by kernel_rfl,by kernel_rfl,by kernel_rfl⟩
instance:Zb0 tab where
instance:Za8 tab where
instance:Zch tab where
instance:Zdx tab where
instance:Zdw tab where
instance:Zam tab where
instance:Zcs tab where
instance:Zcz tab:=⟨by kernel_rfl⟩
instance:Zfj tab where
instance:Zbr tab:=⟨by kernel_rfl,by kernel_rfl,by kernel_rfl,by kernel_rfl,by kernel_rfl,by kernel_rfl,by kernel_rfl,by kernel_rfl,by kernel_rfl⟩
instance:Z9 tab:=⟨by kernel_rfl,by kernel_rfl,by kernel_rfl,by kernel_rfl,by kernel_rfl,by kernel_rfl⟩
instance:Zaz tab:=⟨by kernel_rfl,by kernel_rfl,by kernel_rfl,by kernel_rfl,by kernel_rfl,by kernel_rfl,by kernel_rfl,by kernel_rfl,by kernel_rfl⟩
instance:Zgs tab where
instance:Zge tab where
instance:Z4 tab:=⟨by kernel_rfl,by kernel_rfl,by kernel_rfl,by kernel_rfl,by kernel_rfl,by kernel_rfl⟩
instance:Zai tab where
 h43:=by kernel_rfl
 h84:=by kernel_rfl
 h52:=by kernel_rfl
 h54:=by kernel_rfl
 h58:=by kernel_rfl
 h59:=by kernel_rfl
 h61:=by kernel_rfl
instance:Z1 tab where
 h43:=by kernel_rfl
 h84:=by kernel_rfl
 h52:=by kernel_rfl
 h54:=by kernel_rfl
 h58:=by kernel_rfl
 h59:=by kernel_rfl
 h61:=by kernel_rfl
 h122:=by kernel_rfl
 h95:=by kernel_rfl
 h96:=by kernel_rfl
 h97:=by kernel_rfl
 h63:=by kernel_rfl
instance:Zao tab where
 h43:=by kernel_rfl
 h84:=by kernel_rfl
 h52:=by kernel_rfl
 h54:=by kernel_rfl
 h58:=by kernel_rfl
 h59:=by kernel_rfl
 h61:=by kernel_rfl
 h122:=by kernel_rfl
 h95:=by kernel_rfl
 h96:=by kernel_rfl
 h97:=by kernel_rfl
 h63:=by kernel_rfl
 h2043:=by kernel_rfl
instance:Z2 tab:=⟨by kernel_rfl,by kernel_rfl,by kernel_rfl,by kernel_rfl,by kernel_rfl,by kernel_rfl,by kernel_rfl,by kernel_rfl⟩
instance:Zar tab where
 h43:=by kernel_rfl
 h84:=by kernel_rfl
 h52:=by kernel_rfl
 h54:=by kernel_rfl
 h58:=by kernel_rfl
 h59:=by kernel_rfl
 h61:=by kernel_rfl
 h122:=by kernel_rfl
 h95:=by kernel_rfl
 h96:=by kernel_rfl
 h97:=by kernel_rfl
 h63:=by kernel_rfl
 h2043:=by kernel_rfl
 h39:=by kernel_rfl
 h24:=by kernel_rfl
instance:Zz tab:=⟨by kernel_rfl,by kernel_rfl,by kernel_rfl,by kernel_rfl,by kernel_rfl,by kernel_rfl,by kernel_rfl,by kernel_rfl⟩
instance:Za9 tab:=⟨by kernel_rfl,by kernel_rfl⟩
instance:Zfi tab:=⟨by kernel_rfl⟩
instance:Zbo tab:=⟨by kernel_rfl,by kernel_rfl,by kernel_rfl,by kernel_rfl,by kernel_rfl,by kernel_rfl,by kernel_rfl⟩
instance:Zgg tab where
instance:Zcx tab:=⟨by kernel_rfl,by kernel_rfl,by kernel_rfl⟩
instance:Zdq tab:=⟨by kernel_rfl⟩
instance:Zfp tab:=⟨by kernel_rfl⟩
instance:Ziw tab where
instance:Zia tab where
instance:Zfc tab:=⟨by kernel_rfl⟩
instance:Zib tab:=⟨by kernel_rfl⟩
instance:Zdr tab:=⟨by kernel_rfl,by kernel_rfl,by kernel_rfl⟩
instance:Zdd tab:=⟨by kernel_rfl,by kernel_rfl,by kernel_rfl⟩
instance:Zah tab:=⟨by kernel_rfl,by kernel_rfl,by kernel_rfl,by kernel_rfl,by kernel_rfl⟩
instance:Zag tab:=⟨by kernel_rfl,by kernel_rfl,by kernel_rfl,by kernel_rfl,by kernel_rfl⟩
instance:Zb3 tab:=⟨by kernel_rfl,by kernel_rfl,by kernel_rfl,by kernel_rfl⟩
instance:Zci tab:=⟨by kernel_rfl,by kernel_rfl,by kernel_rfl⟩
instance:Zgf tab:=⟨by kernel_rfl⟩
instance:Zd3 tab:=⟨by kernel_rfl⟩
end Go.Proofs.YtajopjoiaogapaaGreatDoor
end
section
set_option linter.unusedVariables false
namespace Go.Proofs
open Go.Shelf Go.RowKit
variable{P:Program}{ρ:Ren}
structure JL (P:Program) (ρ:Ren):Prop extends Lays.n169 P ρ,Lays.n241 P ρ,Builder.Extra P ρ where
 f156:P.funcs[ρ.f 156]? = some (Body.n156 ρ)
 f165:P.funcs[ρ.f 165]? = some (Body.n165 ρ)
 f166:P.funcs[ρ.f 166]? = some (Body.n166 ρ)
 t4:P.underlying (ρ.t 4)=some (TypeDesc.bool)
 a4:∀w,(isAgg (ρ.t 4)).run P w=.ok false w
 z4:∀w,(Go.sizeOf (ρ.t 4)).run P w=.ok 1 w
 v4:∀w,(zeroValue (ρ.t 4)).run P w=.ok (Value.bool false) w
 t20:P.underlying (ρ.t 20)=some (TypeDesc.interface #[])
 a20:∀w,(isAgg (ρ.t 20)).run P w=.ok false w
 z20:∀w,(Go.sizeOf (ρ.t 20)).run P w=.ok 1 w
 v20:∀w,(zeroValue (ρ.t 20)).run P w=.ok (Value.nilIface) w
 t31:P.underlying (ρ.t 31)=some (TypeDesc.slice (ρ.t 9))
 a31:∀w,(isAgg (ρ.t 31)).run P w=.ok false w
 z31:∀w,(Go.sizeOf (ρ.t 31)).run P w=.ok 1 w
 v31:∀w,(zeroValue (ρ.t 31)).run P w=.ok (Value.slice none 0 0) w
 t75:P.underlying (ρ.t 75)=some (TypeDesc.interface #[("Error",ρ.t 80)])
 a75:∀w,(isAgg (ρ.t 75)).run P w=.ok false w
 z75:∀w,(Go.sizeOf (ρ.t 75)).run P w=.ok 1 w
 v75:∀w,(zeroValue (ρ.t 75)).run P w=.ok (Value.nilIface) w
 t76:P.underlying (ρ.t 76)=some (TypeDesc.tuple #[ρ.t 3,ρ.t 75])
 a76:∀w,(isAgg (ρ.t 76)).run P w=.ok false w
 z76:∀w,(Go.sizeOf (ρ.t 76)).run P w=.ok 1 w
 v76:∀w,(zeroValue (ρ.t 76)).run P w=.ok (Value.tuple #[Value.int IntKind.i64 0,Value.nilIface]) w
 t164:P.underlying (ρ.t 164)=some (TypeDesc.unsafePointer)
 a164:∀w,(isAgg (ρ.t 164)).run P w=.ok false w
 z164:∀w,(Go.sizeOf (ρ.t 164)).run P w=.ok 1 w
 v164:∀w,(zeroValue (ρ.t 164)).run P w=.ok (Value.pointer none) w
 e240:∀args w,(callFunc (ρ.f 240) args).run P w=.ok (.enter (ρ.f 240) args) w
 c240:∀(B b:Nat) (bs:List Value) (w:World),Lib.IsBuilder (ρ.t 72) (ρ.t 5) B b bs w →
  Calls P (ρ.f 240) #[.pointer (some ⟨b,0,none⟩)] w fun e w'=>e=.returned (.tuple #[])∧(Lib.BuilderAt (ρ.t 72) (ρ.t 5) B b (.pointer (some ⟨b,0,none⟩)) bs w'∧Below B w w')
 c240f:∀(b:Nat) (w:World),w.cell? ⟨b,0,none⟩=some (.pointer none)→w.shape? b=some ((ρ.t 72),2)→w.frozen? ⟨b,0,none⟩=false →
  Calls P (ρ.f 240) #[.pointer (some ⟨b,0,none⟩)] w fun e w'=>e=.returned (.tuple #[])∧w'=w.setCell ⟨b,0,none⟩ (.pointer (some ⟨b,0,none⟩))
theorem Jl.hid{p:Prop}(h:p):Hid p:=h
end Go.Proofs
end
section
namespace Go.Proofs
open Go.Shelf Go.RowKit Go.Ab
variable{P:Program}{ρ:Ren}
theorem s_inv{w:World}{S:Nat→Nat→Prop}{v:Value}{l:List UInt8}(h:CP w S v (.s l)):v=.string ⟨l.toArray⟩:=by
 cases h with
 | s=>rfl
theorem two_args{cargs:Array Value}(h:cargs.size=2):∃a b,cargs=#[a,b]:=by
 obtain⟨l⟩:=cargs
 match l,h with
 | [a,b],_=>exact⟨a,b,rfl⟩
theorem one_arg{cargs:Array Value}(h:cargs.size=1):∃a,cargs=#[a]:=by
 obtain⟨l⟩:=cargs
 match l,h with
 | [a],_=>exact⟨a,rfl⟩
end Go.Proofs
end
section
namespace Go.Proofs
open Go.Shelf Go.RowKit Go.Ab
variable{P:Program}{ρ:Ren}
theorem bytes_size(s:List UInt8):(⟨s.toArray⟩:ByteArray).size=s.length:=by simp[ByteArray.size]
theorem bytes_list(s:List UInt8):(⟨s.toArray⟩:ByteArray).data.toList=s:=by simp
theorem all_ascii{s:List UInt8}(h:s.all (fun c=>decide (c.toNat<128))=true):∀(j:Nat) b,(⟨s.toArray⟩:ByteArray).data.toList[j]? = some b→b.toNat<128:=by
 intro j b hb;rw[bytes_list]at hb;exact of_decide_eq_true (List.all_eq_true.1 h b (List.mem_of_getElem? hb))
theorem index_pcall(L:Lays.n219 P ρ):∀xs r,prim194 xs=some r→Zal P (ρ.f 219) xs (·=r):=by
 intro xs r h;unfold prim194 at h;split at h
 ·rename_i s c;cases h;refine⟨enters_of L.f219 (by kernel_rfl) rfl,fun w S cargs hsz hC hS=>?_⟩;obtain⟨v0,v1,rfl⟩:=two_args hsz;have c0:=s_inv (hC 0 _ _ rfl rfl);have c1:=s_inv (hC 1 _ _ rfl rfl);subst c0 c1;have:=Any.stringslite_Index_one L ⟨s.toArray⟩ c w;rw[bytes_list]at this;refine this.mono ?_
  rintro e w' ⟨rfl,rfl⟩
  exact⟨_,_,rfl,rfl,Below.refl _ _,.i _ _⟩
 ·cases h
theorem count_pcall(L:Lays.n138 P ρ):∀xs r,prim361 xs=some r→Zal P (ρ.f 138) xs (·=r):=by
 intro xs r h;unfold prim361 at h;split at h
 ·rename_i s c;cases h;refine⟨enters_of L.f138 (by kernel_rfl) rfl,fun w S cargs hsz hC hS=>?_⟩;obtain⟨v0,v1,rfl⟩:=two_args hsz;have c0:=s_inv (hC 0 _ _ rfl rfl);have c1:=s_inv (hC 1 _ _ rfl rfl);subst c0 c1;have:=Any.strings_Count_one L ⟨s.toArray⟩ c w;rw[bytes_list]at this;refine this.mono ?_
  rintro e w' ⟨rfl,rfl⟩
  exact⟨_,_,rfl,rfl,Below.refl _ _,.i _ _⟩
 ·cases h
end Go.Proofs
end
section
namespace Go.Proofs
open Go.Shelf Go.RowKit Go.Lib
variable{P:Program}{ρ:Ren}
abbrev Zaq:ByteArray:=⟨#[47,46]⟩
set_option maxHeartbeats 2000000 in
set_option maxRecDepth 1000000 in
theorem rune_invalid(L:Lays.n152 P ρ)(r:Int)(w:World)(h0:128≤r)(h1:r≤2147483647)(h2:r≠65533)(hv:Lib.validRune r=false) :
  Calls P (ρ.f 152) #[.string Zaq,.int .i32 r] w fun e w'=>e=.returned (.int .i64 (-1))∧w'=w:=by
 have t3:=L.t3;have a3:=L.a3;have z3:=L.z3;have v3:=L.v3;have t4:=L.t4;have a4:=L.a4;have z4:=L.z4;have v4:=L.v4;have t5:=L.t5;have a5:=L.a5;have z5:=L.z5;have v5:=L.v5;have t9:=L.t9;have a9:=L.a9;have z9:=L.z9;have v9:=L.v9;have t21:=L.t21;have a21:=L.a21;have z21:=L.z21;have v21:=L.v21;have e119:∀args w,(callFunc (ρ.f 119) args).run P w=.ok (.enter (ρ.f 119) args) w:=enters_of L.f119 (by kernel_rfl) rfl
 go_enter L.f152,Body.n152_ntmps ρ
 go_wp2_with (go_at_fn (ρ.f 119);refine(Any.utf8_ValidRune { L with } _ _).mono ?_;rintro e w' ⟨rfl,hw⟩;rw[hw,hv])
 go_ret
 exact⟨rfl,rfl⟩
theorem next_slash(w:World)(ty:TypeId):(Instr.next (.pointer (some ⟨w.heap.size,0,none⟩)) true ty).run P (w.iter Zaq 0)=.ok (.tuple #[.bool true,.int .i64 0,.int .i32 47]) (w.iter Zaq 1):=
 run_next_ascii (P:=P) w Zaq 0 ty (by decide) (by decide)
theorem next_dot(w:World)(ty:TypeId):(Instr.next (.pointer (some ⟨w.heap.size,0,none⟩)) true ty).run P (w.iter Zaq 1)=.ok (.tuple #[.bool true,.int .i64 1,.int .i32 46]) (w.iter Zaq 2):=
 run_next_ascii (P:=P) w Zaq 1 ty (by decide) (by decide)
set_option maxHeartbeats 2000000 in
set_option maxRecDepth 1000000 in
theorem rune_error(L:Lays.n152 P ρ)(w:World) :
  Calls P (ρ.f 152) #[.string Zaq,.int .i32 65533] w fun e w'=>e=.returned (.int .i64 (-1))∧∃pos,w'=w.iter Zaq pos:=by
 have t3:=L.t3;have a3:=L.a3;have z3:=L.z3;have v3:=L.v3;have t4:=L.t4;have a4:=L.a4;have z4:=L.z4;have v4:=L.v4;have t5:=L.t5;have a5:=L.a5;have z5:=L.z5;have v5:=L.v5;have t9:=L.t9;have a9:=L.a9;have z9:=L.z9;have v9:=L.v9;have t21:=L.t21;have a21:=L.a21;have z21:=L.z21;have v21:=L.v21
 go_enter L.f152,Body.n152_ntmps ρ
 go_wp2
 go_loopg [5,6] 2 (fun g _ _ wx=>∃i:Nat,i+g=2∧wx=w.iter Zaq i)
 case atStart=>exact⟨0,by omega,rfl⟩
 case round=>
  obtain⟨i,hig,rfl⟩:=hrel
  match gk,i,hig with
  | 0,2,_=>
   have hnx:=fun ty=>run_next_end (P:=P) w Zaq 2 ty (by decide)
   go_wp2
   go_ret
   exact⟨rfl,_,rfl⟩
  | 1,1,_=>
   have hnx:=next_dot (P:=P) w
   go_wp2
   go_roundg 0
   case measure=>omega
   case rel=>exact⟨2,by omega,rfl⟩
  | 2,0,_=>
   have hnx:=next_slash (P:=P) w
   go_wp2
   go_roundg 1
   case measure=>omega
   case rel=>exact⟨1,by omega,rfl⟩
set_option maxHeartbeats 4000000 in
set_option maxRecDepth 1000000 in
theorem rune_three(L:Lays.n152 P ρ)(r:Int)(w:World)(h0:128≤r)(h1:r≤2147483647)(h2:r≠65533)(hv:Lib.validRune r=true)(hk:3≤(Utf8.encode r).size)(hk4:(Utf8.encode r).size≤4) :
  Calls P (ρ.f 152) #[.string Zaq,.int .i32 r] w fun e w'=>e=.returned (.int .i64 (-1))∧w'=w:=by
 have t3:=L.t3;have a3:=L.a3;have z3:=L.z3;have v3:=L.v3;have t4:=L.t4;have a4:=L.a4;have z4:=L.z4;have v4:=L.v4;have t5:=L.t5;have a5:=L.a5;have z5:=L.z5;have v5:=L.v5;have t9:=L.t9;have a9:=L.a9;have z9:=L.z9;have v9:=L.v9;have t21:=L.t21;have a21:=L.a21;have z21:=L.z21;have v21:=L.v21;have e119:∀args w,(callFunc (ρ.f 119) args).run P w=.ok (.enter (ρ.f 119) args) w:=enters_of L.f119 (by kernel_rfl) rfl;have hcv:∀w,(convert (ρ.t 21) (ρ.t 9) (.int .i32 r)).run P w=.ok (.string (Utf8.encode r)) w:=fun w=>run_convert_int_string w _ _ _ _ (by rw[L.t21];rfl) L.t9;generalize Utf8.encode r=b at *
 go_enter L.f152,Body.n152_ntmps ρ
 go_wp2_with (first | (go_at_fn (ρ.f 119);refine(Any.utf8_ValidRune { L with } _ _).mono ?_;rintro e w' ⟨rfl,hw⟩;rw[hw,hv]) | simp only[hcv])
 go_step3
 go_wp2_with (simp only[hcv])
 go_loopg [9] 0 (fun g i wx=>i=.int .i64 ((b.size:Int)-1)∧wx=w)
 case atStart=>exact⟨rfl,rfl⟩
 case round=>
  obtain⟨rfl,rfl⟩:=hrel;have hge:decide (((b.size:Int)-1)<2)=false:=decide_eq_false (by omega)
  go_wp2
  rw[Exit.noGoto_ret]
  go_ret
  exact⟨rfl,rfl⟩
set_option maxHeartbeats 4000000 in
set_option maxRecDepth 1000000 in
theorem rune_two(L:Lays.n152 P ρ)(r:Int)(w:World)(h0:128≤r)(h1:r≤2147483647)(h2:r≠65533)(hv:Lib.validRune r=true)(x:UInt8)(hk:(Utf8.encode r).size=2)(hx:∀h:1<(Utf8.encode r).size,(Utf8.encode r)[1]'h=x)(hx128:128≤x.toNat) :
  Calls P (ρ.f 152) #[.string Zaq,.int .i32 r] w fun e w'=>e=.returned (.int .i64 (-1))∧Below w.heap.size w w':=by
 have mixed:=L.mixed;have t3:=L.t3;have a3:=L.a3;have z3:=L.z3;have v3:=L.v3;have t4:=L.t4;have a4:=L.a4;have z4:=L.z4;have v4:=L.v4;have t5:=L.t5;have a5:=L.a5;have z5:=L.z5;have v5:=L.v5;have t9:=L.t9;have a9:=L.a9;have z9:=L.z9;have v9:=L.v9;have t21:=L.t21;have a21:=L.a21;have z21:=L.z21;have v21:=L.v21;have e119:∀args w,(callFunc (ρ.f 119) args).run P w=.ok (.enter (ρ.f 119) args) w:=enters_of L.f119 (by kernel_rfl) rfl;have e137:∀args w,(callFunc (ρ.f 137) args).run P w=.ok (.enter (ρ.f 137) args) w:=enters_of L.f137 (by kernel_rfl) rfl;have hcv:∀w,(convert (ρ.t 21) (ρ.t 9) (.int .i32 r)).run P w=.ok (.string (Utf8.encode r)) w:=fun w=>run_convert_int_string w _ _ _ _ (by rw[L.t21];rfl) L.t9;generalize Utf8.encode r=b at *
 go_enter L.f152,Body.n152_ntmps ρ
 go_wp2_with (first | (go_at_fn (ρ.f 119);refine(Any.utf8_ValidRune { L with } _ _).mono ?_;rintro e w' ⟨rfl,hw⟩;rw[hw,hv]) | simp only[hcv])
 go_step3
 go_wp2_with (simp only[hcv])
 go_loopg [9] 0 (fun g i wx=>i=.int .i64 1∧wx=w)
 case atStart=>exact⟨rfl,rfl⟩
 case round=>
  obtain⟨rfl,rfl⟩:=hrel;have hb:1<b.size:=by omega
  have hxx:=hx hb;have hne:((46:Int) == (x.toNat:Int))=false:=beq_eq_false_iff_ne.2 (by omega);have hsz:(b.size:Int)=2:=by omega
  have hg:Zaq[1]'(by decide)=46:=rfl
  go_wp2
  go_step3
  go_wp2_with (go_at_fn (ρ.f 137);refine(Any.strings_IndexByte { L with } _ _ _).mono ?_;rintro e w' ⟨rfl,hw⟩;rw[hw])
  go_region_o
  have hne2:((46:Int) != (x.toNat:Int))=true:=by rw[bne,hne];rfl
  try rw[hne2]
  go_wp2
  go_region_with_o (go_at_fn (ρ.f 137);refine(Any.strings_IndexByte { L with } _ _ _).mono ?_;rintro e w' ⟨rfl,hw⟩;rw[hw])
  all_goals go_wp2
  all_goals rw[Exit.noGoto_ret]
  all_goals go_wp2
  all_goals rw[Exit.noGoto_ret]
  all_goals go_ret
  all_goals exact⟨rfl,⟨rfl,rfl,rfl,Nat.le_refl _,fun _ _=>rfl⟩⟩
theorem rune_wide(L:Lays.n152 P ρ)(r:Int)(w:World)(h0:128≤r)(h1:r≤2147483647) :
  Calls P (ρ.f 152) #[.string Zaq,.int .i32 r] w fun e w'=>e=.returned (.int .i64 (-1))∧Below w.heap.size w w':=by
 by_cases h2:r=65533
 ·subst h2;refine(rune_error L w).mono ?_
  rintro e w' ⟨h,pos,rfl⟩
  exact⟨h,(Below.refl _ _).alloc (Nat.le_refl _) _⟩
 ·cases hv:Lib.validRune r with
  | false=>
   refine(rune_invalid L r w h0 h1 h2 hv).mono ?_
   rintro e w' ⟨h,rfl⟩
   exact⟨h,Below.refl _ _⟩
  | true=>
   have hu:Utf8.valid r=true:=by rw[Go.validRune_eq];exact hv
   obtain⟨k2,k4,kx⟩:=encode_facts r hu h0;by_cases h3:(Utf8.encode r).size=2
   ·have hk:=kx (by omega);have he:(Utf8.encode r).size-1=1:=by omega
    simp only[he]at hk;exact rune_two L r w h0 h1 h2 hv ((Utf8.encode r)[1]'(by omega)) h3 (fun _=>rfl) hk
   ·refine(rune_three L r w h0 h1 h2 hv (by omega) k4).mono ?_
    rintro e w' ⟨h,rfl⟩
    exact⟨h,Below.refl _ _⟩
theorem wide_n(n b0 b1 b2 b3:Nat)(hn:1≤n)(h:128≤b0):1≤(decodeN n b0 b1 b2 b3).2∧(decodeN n b0 b1 b2 b3).2≤4∧(decodeN n b0 b1 b2 b3).2≤n ∧
  (2≤(decodeN n b0 b1 b2 b3).2→128≤b1)∧(3≤(decodeN n b0 b1 b2 b3).2→128≤b2)∧(4≤(decodeN n b0 b1 b2 b3).2→128≤b3):=by
 unfold decodeN;rw[if_neg (by omega)]
 (repeat' split)<;>simp only<;>omega
theorem wide_bytes(s:ByteArray)(i:Nat)(hi:i<s.size)(h:128≤(s[i]'hi).toNat):1≤(Utf8.decode s i).2∧i+(Utf8.decode s i).2≤s.size ∧
  ∀(j:Nat) (b:UInt8),i≤j→j<i+(Utf8.decode s i).2→s.data.toList[j]? = some b→128≤b.toNat:=by
 have hg:∀(j:Nat) (b:UInt8),s.data.toList[j]? = some b→s.get! j=b:=by
  intro j b hb;obtain⟨hj,hb⟩:=List.getElem?_eq_some_iff.1 hb;have hj2:j<s.size:=by simpa using hj
  have:s.get! j=s[j]'hj2:=by
   simp[ByteArray.get!,getElem!_pos,hj2]
   rfl
  rw[this,←hb]
  rfl
 have h0:s.get! i=s[i]'hi:=get_at s i hi;have hw:=wide_n (s.size-i) (s.get! i).toNat (s.get! (i+1)).toNat (s.get! (i+2)).toNat (s.get! (i+3)).toNat (by omega) (by rw[h0];exact h);rw[←decode_at]at hw;obtain⟨w1,w2,w3,w4,w5,w6⟩:=hw;refine⟨w1,by omega,fun j b hij hj hb=>?_⟩;have hgb:=hg j b hb;rw[←hgb];have hc:j=i∨j=i+1∨j=i+2∨j=i+3:=by omega
 rcases hc with rfl | rfl | rfl | rfl
 ·rw[h0];exact h
 ·exact w4 (by omega)
 ·exact w5 (by omega)
 ·exact w6 (by omega)
theorem next_at(wx:World)(B:Nat)(s:ByteArray)(pos:Nat)(ty:TypeId)(hB:wx.heap[B]? = some (.stringIter s pos))(h:pos<s.size) :
  (Instr.next (.pointer (some ⟨B,0,none⟩)) true ty).run P wx=.ok (.tuple #[.bool true,.int .i64 pos,.int .i32 (Utf8.decode s pos).1]) { wx with heap:=wx.heap.setIfInBounds B (.stringIter s (pos+(Utf8.decode s pos).2)) }:=by
 simp only[Instr.next,getObj,setObj,Sem.run_bind,Sem.run,hB,Result.andThen,h,if_true];simp[goInt]
theorem next_none(wx:World)(B:Nat)(s:ByteArray)(pos:Nat)(ty:TypeId)(hB:wx.heap[B]? = some (.stringIter s pos))(h:¬ pos<s.size) :
  (Instr.next (.pointer (some ⟨B,0,none⟩)) true ty).run P wx=.ok (.tuple #[.bool false]) wx:=by
 simp[Instr.next,getObj,Sem.run,hB,h]
theorem below_iter{B:Nat}{w wx:World}(h:Below B w wx)(o:Obj):Below B w { wx with heap:=wx.heap.setIfInBounds B o }:=
 h.trans ⟨rfl,rfl,rfl,by simp,fun k hk=>by
  show (wx.heap.setIfInBounds B o)[k]? = wx.heap[k]?;rw[Array.getElem?_setIfInBounds_ne (by omega)]⟩
set_option maxHeartbeats 8000000 in
set_option maxRecDepth 1000000 in
theorem indexAny_short_any(L:Lays.n153 P ρ)(s:ByteArray)(w:World)(h8:s.size≤8) :
  Calls P (ρ.f 153) #[.string s,.string Zaq] w fun e w'=>e=.returned (.int .i64 (Lib.indexAny s.data.toList [47,46]))∧Below w.heap.size w w':=by
 have h8z:decide ((8:Int)<(s.size:Int))=false:=decide_eq_false (by omega);have t3:=L.t3;have a3:=L.a3;have z3:=L.z3;have v3:=L.v3;have t4:=L.t4;have a4:=L.a4;have z4:=L.z4;have v4:=L.v4;have t5:=L.t5;have a5:=L.a5;have z5:=L.z5;have v5:=L.v5;have t9:=L.t9;have a9:=L.a9;have z9:=L.z9;have v9:=L.v9;have t21:=L.t21;have a21:=L.a21;have z21:=L.z21;have v21:=L.v21;have e152:∀args w,(callFunc (ρ.f 152) args).run P w=.ok (.enter (ρ.f 152) args) w:=enters_of L.f152 (by kernel_rfl) rfl;have e226:∀args w,(callFunc (ρ.f 226) args).run P w=.ok (.enter (ρ.f 226) args) w:=enters_of L.f226 (by kernel_rfl) rfl
 go_enter L.f153,Body.n153_ntmps ρ
 go_wp2_with (go_at_fn (ρ.f 226);refine(Any.strings_shouldUseASCIISet { L with } _ _).mono ?_;rintro e w' ⟨rfl,hw⟩;rw[hw,h8z])
 go_loopg [9,10] s.size (fun g _ _ wx=>∃i:Nat,s.size≤i+g∧i≤s.size∧wx.heap[w.heap.size]? = some (.stringIter s i)∧Below w.heap.size w wx∧Lib.NoAny s.data.toList [47,46] i)
 case atStart=>exact⟨0,by omega,by omega,World.iter_heap w s 0,(Below.refl _ _).alloc (Nat.le_refl _) _,Lib.NoAny.zero _ _⟩
 case round=>
  obtain⟨i,hig,his,hit,hbel,hno⟩:=hrel;have HN:Aside (Lib.NoAny s.data.toList [47,46] i):=hno;have HB:Aside (Below w.heap.size w wr):=hbel;have HI:Aside (wr.heap[w.heap.size]? = some (.stringIter s i)):=hit;clear hno hbel;by_cases hi:i<s.size
  ·cases gk with
   | zero=>omega
   | succ g=>
   have hlt:w.heap.size<wr.heap.size:=(Array.getElem?_eq_some_iff.1 hit).1;obtain⟨x,hx⟩:∃x:UInt8,s[i]'hi=x:=⟨_,rfl⟩;have hxl:s.data.toList[i]? = some x:=by rw[←hx];exact Lib.data_getElem? s i hi
   have hnx:=fun ty=>next_at (P:=P) wr w.heap.size s i ty hit hi;by_cases h128:x.toNat<128
   ·have hd:=decode_ascii s i hi (by rw[hx];exact h128);rw[hx]at hd;rw[hd]at hnx;simp only at hnx;have Hx:Aside (s.data.toList[i]? = some x):=hxl;clear hxl hx hit;have hcon:=Lib.contains_iff_indexByte [47,46] x;have hback:((x.toNat:Int)).toNat.toUInt8=x:=by simp
    cases hin:([47,46]:List UInt8).contains x
    ·rw[hin]at hcon;have hlt0:¬ ((0:Int)≤Lib.indexByte [47,46] x):=of_decide_eq_false hcon.symm;clear hcon
     go_wp2_with (go_at_fn (ρ.f 152);refine(Any.strings_IndexRune_ascii { L with } _ _ _ (by omega) (by omega)).mono ?_;rintro e w' ⟨rfl,hw⟩;rw[hw,hback])
     go_roundg g
     case measure=>omega
     case rel=>exact⟨i+1,by omega,by omega,by simp[hlt],below_iter HB.out _,HN.out.succ Hx.out hin⟩
    ·rw[hin]at hcon;have hge:(0:Int)≤Lib.indexByte [47,46] x:=of_decide_eq_true hcon.symm;clear hcon
     go_wp2_with (go_at_fn (ρ.f 152);refine(Any.strings_IndexRune_ascii { L with } _ _ _ (by omega) (by omega)).mono ?_;rintro e w' ⟨rfl,hw⟩;rw[hw,hback])
     go_ret
     exact⟨by rw[Lib.indexAny_hit HN.out Hx.out hin];rfl,below_iter HB.out _⟩
   ·have hwb:=wide_bytes s i hi (by rw[hx];omega);have hdh:=decode_high s i hi (by rw[hx];omega);have hdl:=decode_le s i;obtain⟨r,hr⟩:∃r,r=(Utf8.decode s i).1:=⟨_,rfl⟩;obtain⟨k,hk⟩:∃k,k=(Utf8.decode s i).2:=⟨_,rfl⟩;rw[←hr,←hk]at hnx;rw[←hk]at hwb hdh;rw[←hr]at hdh hdl;obtain⟨wb1,wb2,wb3⟩:=hwb;have HW:Aside (∀(j:Nat) (b:UInt8),i≤j→j<i+k→s.data.toList[j]? = some b→128≤b.toNat):=wb3;clear wb3 hxl hx hit hr hk;have r1:(128:Int)≤(r:Int):=by omega
    have r2:(r:Int)≤2147483647:=by omega
    go_wp2_with (go_at_fn (ρ.f 152);refine(rune_wide { L with } _ _ r1 r2).mono ?_;rintro e w' ⟨rfl,hw⟩)
    go_roundg g
    case measure=>omega
    case rel=>
     refine⟨i+k,by omega,by omega,?_,(below_iter HB.out _).trans (hw.mono (by simp;omega)),?_⟩
     ·rw[hw.block _ (by simpa using hlt)];simp[hlt]
     ·intro j b hj hb;by_cases hji:j<i
      ·exact HN.out j b hji hb
      ·have h3:=HW.out j b (by omega) hj hb;have e1:¬ b=47:=fun e=>by rw[e]at h3;exact absurd h3 (by decide)
       have e2:¬ b=46:=fun e=>by rw[e]at h3;exact absurd h3 (by decide)
       simp[e1,e2]
  ·obtain rfl:i=s.size:=by omega
   have hnx:=fun ty=>next_none (P:=P) wr w.heap.size s s.size ty hit hi;clear hit
   go_wp2
   go_ret
   exact⟨by rw[Lib.indexAny_none (by rw[←Lib.size_eq];exact HN.out)];rfl,HB.out⟩
open Go.Ab in
theorem indexAny_pcall(L:Lays.n153 P ρ)(h116:(P.info? (ρ.t 116)).map (fun i=>(i.zero,i.size))=some (some (.agg (Array.replicate 256 (.bool false))),256)):∀xs r,prim344 xs=some r→Zal P (ρ.f 153) xs (·=r):=by
 intro xs r h;unfold prim344 at h;split at h
 ·split at h
  ·rename_i s hs;cases h;refine⟨enters_of L.f153 (by kernel_rfl) rfl,fun w S cargs hsz hC hS=>?_⟩;obtain⟨v0,v1,rfl⟩:=two_args hsz;have c0:=s_inv (hC 0 _ _ rfl rfl);have c1:=s_inv (hC 1 _ _ rfl rfl);subst c0 c1;have key:Calls P (ρ.f 153) #[.string ⟨s.toArray⟩,.string Zaq] w fun e w'=>e=.returned (.int .i64 (Lib.indexAny s [47,46]))∧Below w.heap.size w w':=by
    by_cases h8:s.length≤8
    ·have:=indexAny_short_any L ⟨s.toArray⟩ w (by rw[bytes_size];exact h8)
     rwa [bytes_list]at this
    ·have:=Any.strings_IndexAny_long L (zero_of_info h116).1 (zero_of_info h116).2 ⟨s.toArray⟩ Zaq w (by decide) (by rw[bytes_size];omega) (by rw[bytes_size];omega) (by decide) (all_ascii (s:=[47,46]) (by decide));rw[bytes_list]at this;refine this.mono fun e w' ⟨h1,h2⟩=>⟨h1,?_⟩;rw[h2];exact((Below.refl _ _).alloc (Nat.le_refl _) _).alloc (by simp) _
   exact key.mono fun e w' ⟨he,hb⟩=>⟨_,_,he,rfl,hb,.i _ _⟩
  ·cases h
 ·cases h
end Go.Proofs
end
section
set_option linter.unusedVariables false
namespace Go.Proofs
open Go.Shelf Go.RowKit Go.Lib Go.Ab
variable{P:Program}{ρ:Ren}
set_option maxHeartbeats 2000000 in
set_option maxRecDepth 100000 in
theorem cut_one_lite(L:Lays.n220 P ρ)(b:UInt8)(s:ByteArray)(w:World)(hs:s.size<4294967281) :
  Calls P (ρ.f 220) #[.string s,.string ⟨#[b]⟩] w fun e w'=>e=.returned (.tuple #[.string ⟨(Lib.cut s.data.toList [b]).1.toArray⟩,.string ⟨(Lib.cut s.data.toList [b]).2.1.toArray⟩,.bool (Lib.cut s.data.toList [b]).2.2])∧∃n,w'=w.drewN n:=by
 have hone:Lib.index s.data.toList [b]=Lib.indexByte s.data.toList b:=Lib.index_one _ _;rcases Lib.indexB_cases s ⟨#[b]⟩ with hix | ⟨i,hix,hroom⟩
 ·obtain⟨e1,e2,e3⟩:=Lib.cutB_miss s ⟨#[b]⟩ hix;have hib:Lib.indexByte s.data.toList b=-1:=hone.symm.trans hix
  change (⟨(Lib.cut s.data.toList [b]).1.toArray⟩:ByteArray)=s at e1
  change (⟨(Lib.cut s.data.toList [b]).2.1.toArray⟩:ByteArray)=ByteArray.empty at e2
  change (Lib.cut s.data.toList [b]).2.2=false at e3
  rw[e1,e2,e3];have t3:=L.t3;have t4:=L.t4;have t9:=L.t9;have a3:∀w,(isAgg (ρ.t 3)).run P w=.ok false w:=run_isAgg_plain L.t3 rfl;have a4:∀w,(isAgg (ρ.t 4)).run P w=.ok false w:=run_isAgg_plain L.t4 rfl;have a9:∀w,(isAgg (ρ.t 9)).run P w=.ok false w:=run_isAgg_plain L.t9 rfl;have e219:∀args w,(callFunc (ρ.f 219) args).run P w=.ok (.enter (ρ.f 219) args) w:=enters_of L.f219 (by kernel_rfl) rfl;have mixed:=L.mixed;have z3:=L.z3;have v3:=L.v3;have z4:=L.z4;have v4:=L.v4;have z9:=L.z9;have v9:=L.v9
  go_enter L.f220,Body.n220_ntmps ρ
  go_wp2_with (go_at_fn (ρ.f 219);refine(Any.stringslite_Index_one { L with } _ b _).mono ?_;rintro e w' ⟨rfl,rfl⟩;rw[hib])
  go_ret3
  exact⟨rfl,0,rfl⟩
 ·obtain⟨e1,e2,e3⟩:=Lib.cutB_hit s ⟨#[b]⟩ i hix;have hib:Lib.indexByte s.data.toList b=(i:Int):=hone.symm.trans hix;have hsz:(⟨#[b]⟩:ByteArray).size=1:=rfl;rw[hsz]at hroom e2
  change (⟨(Lib.cut s.data.toList [b]).1.toArray⟩:ByteArray)=s.extract 0 i at e1
  change (⟨(Lib.cut s.data.toList [b]).2.1.toArray⟩:ByteArray)=s.extract (i+1) s.size at e2
  change (Lib.cut s.data.toList [b]).2.2=true at e3
  rw[e1,e2,e3];have c1:(0:Int)≤↑i:=by omega
  have c2:(↑i:Int)≤↑s.size:=by omega
  have c3:(0:Int)≤↑i+1:=by omega
  have c4:(↑i+1:Int)≤↑s.size:=by omega
  have t3:=L.t3;have t4:=L.t4;have t9:=L.t9;have a3:∀w,(isAgg (ρ.t 3)).run P w=.ok false w:=run_isAgg_plain L.t3 rfl;have a4:∀w,(isAgg (ρ.t 4)).run P w=.ok false w:=run_isAgg_plain L.t4 rfl;have a9:∀w,(isAgg (ρ.t 9)).run P w=.ok false w:=run_isAgg_plain L.t9 rfl;have e219:∀args w,(callFunc (ρ.f 219) args).run P w=.ok (.enter (ρ.f 219) args) w:=enters_of L.f219 (by kernel_rfl) rfl;have mixed:=L.mixed;have z3:=L.z3;have v3:=L.v3;have z4:=L.z4;have v4:=L.v4;have z9:=L.z9;have v9:=L.v9
  go_enter L.f220,Body.n220_ntmps ρ
  go_wp2_with (go_at_fn (ρ.f 219);refine(Any.stringslite_Index_one { L with } _ b _).mono ?_;rintro e w' ⟨rfl,rfl⟩;rw[hib])
  go_region_o
  go_wp2
  go_ret3
  exact⟨rfl,1,rfl⟩
set_option maxHeartbeats 1000000 in
theorem cut_one(L:Lays.n145 P ρ)(b:UInt8)(s:ByteArray)(w:World)(hs:s.size<4294967281) :
  Calls P (ρ.f 145) #[.string s,.string ⟨#[b]⟩] w fun e w'=>e=.returned (.tuple #[.string ⟨(Lib.cut s.data.toList [b]).1.toArray⟩,.string ⟨(Lib.cut s.data.toList [b]).2.1.toArray⟩,.bool (Lib.cut s.data.toList [b]).2.2])∧∃n,w'=w.drewN n:=by
 have t4:=L.t4;have t9:=L.t9;have t59:=L.t59;have a4:∀w,(isAgg (ρ.t 4)).run P w=.ok false w:=run_isAgg_plain L.t4 rfl;have a9:∀w,(isAgg (ρ.t 9)).run P w=.ok false w:=run_isAgg_plain L.t9 rfl;have a59:∀w,(isAgg (ρ.t 59)).run P w=.ok false w:=run_isAgg_plain L.t59 rfl;have e220:∀args w,(callFunc (ρ.f 220) args).run P w=.ok (.enter (ρ.f 220) args) w:=enters_of L.f220 (by kernel_rfl) rfl;have mixed:=L.mixed;have z4:=L.z4;have v4:=L.v4;have z9:=L.z9;have v9:=L.v9;have z59:=L.z59;have v59:=L.v59
 go_enter L.f145,Body.n145_ntmps ρ
 go_wp2_with (go_at_fn (ρ.f 220);refine(cut_one_lite { L with } b _ _ hs).mono ?_;rintro e w' ⟨rfl,n,rfl⟩)
 go_ret3
 exact⟨rfl,n,rfl⟩
theorem indexByte_tw(b:UInt8):∀(l:List UInt8),(Lib.indexByte l b=-1∧l.takeWhile (· != b)=l∧l.dropWhile (· != b)=[]∧l.contains b=false) ∨
  (∃i:Nat,Lib.indexByte l b=i∧l.takeWhile (· != b)=l.take i∧(l.dropWhile (· != b)).drop 1=l.drop (i+1)∧l.contains b=true)
 | []=>.inl ⟨rfl,rfl,rfl,rfl⟩
 | c::r=>by
  by_cases hc:c=b
  ·subst hc;right;exact⟨0,by simp[Lib.indexByte],by simp,by simp,by simp⟩
  ·have hb:(c != b)=true:=by simpa using hc
   have hb2:(b == c)=false:=by
    rw[beq_eq_false_iff_ne];exact fun h=>hc h.symm
   rcases indexByte_tw b r with ⟨h1,h2,h3,h4⟩ | ⟨i,h1,h2,h3,h4⟩
   ·left;refine⟨by simp[Lib.indexByte,hc,h1],?_,?_,?_⟩
    ·rw[List.takeWhile_cons_of_pos (p:=(· != b)) hb,h2]
    ·rw[List.dropWhile_cons_of_pos (p:=(· != b)) hb,h3]
    ·rw[List.contains_cons,hb2,h4];rfl
   ·right;refine⟨i+1,?_,?_,?_,?_⟩
    ·have hne:¬ (i:Int)=-1:=by omega
     simp[Lib.indexByte,hc,h1,hne]
    ·rw[List.takeWhile_cons_of_pos (p:=(· != b)) hb,h2];rfl
    ·rw[List.dropWhile_cons_of_pos (p:=(· != b)) hb,h3];rfl
    ·rw[List.contains_cons,hb2,h4];rfl
theorem cut_lines(b:UInt8)(l:List UInt8):Lib.cut l [b]=(l.takeWhile (· != b),(l.dropWhile (· != b)).drop 1,l.contains b):=by
 unfold Lib.cut;rw[Lib.index_one];rcases indexByte_tw b l with ⟨h1,h2,h3,h4⟩ | ⟨i,h1,h2,h3,h4⟩
 ·rw[h1,if_neg (by decide),h2,h3,h4];rfl
 ·rw[h1,if_pos (by omega),h2,h3,h4];rfl
theorem cut_pcall(L:Lays.n145 P ρ):∀xs r,prim184 xs=some r→Zal P (ρ.f 145) xs (·=r):=by
 intro xs r h;unfold prim184 at h;split at h
 ·rename_i l b;split at h
  ·rename_i hl;cases h;refine⟨enters_of L.f145 (by kernel_rfl) rfl,fun w S cargs hsz hC hS=>?_⟩;obtain⟨v0,v1,rfl⟩:=two_args hsz;have c0:=s_inv (hC 0 _ _ rfl rfl);have c1:=s_inv (hC 1 _ _ rfl rfl);subst c0 c1;have:=cut_one L b ⟨l.toArray⟩ w (by rw[bytes_size];omega);rw[bytes_list,cut_lines]at this;refine this.mono ?_
   rintro e w' ⟨rfl,n,rfl⟩
   refine⟨_,_,rfl,rfl,⟨rfl,rfl,rfl,Nat.le_refl _,fun _ _=>rfl⟩,.tup _ _ rfl fun j v c hv hc=>?_⟩
   match j,hv,hc with
   | 0,hv,hc=>cases hv;cases hc;exact .s _
   | 1,hv,hc=>cases hv;cases hc;exact .s _
   | 2,hv,hc=>cases hv;cases hc;exact .b _
  ·cases h
 ·cases h
end Go.Proofs
end
section
namespace Go.Proofs
open Go.Shelf Go.RowKit
set_option maxRecDepth 100000
def Tryz.sren:Ren:=⟨fun | 119=>189 | 137=>188 | 138=>187 | 143=>157 | 145=>93 | 152=>179 | 153=>169 | 195=>193 | 217=>165 | 218=>195 | 219=>151 | 220=>123 | 224=>167 | 225=>166 | 226=>180 | 227=>181 | 228=>182 | 266=>177 | 267=>168 | 314=>178 | n=>n,fun | 0=>0 | 3=>3 | 4=>4 | 5=>5 | 9=>9 | 21=>21 | 46=>134 | 51=>92 | 59=>135 | 116=>208 | 117=>209 | 124=>217 | 146=>165 | n=>n,fun | 1=>0 | n=>n⟩
theorem Tryz.lays153:Lays.n153 Tryz.prog Tryz.sren:={
 mixed:=by kernel_rfl,
 f119:=Tryz.func189.trans (congrArg some (by kernel_rfl)),
 f137:=Tryz.func188.trans (congrArg some (by kernel_rfl)),
 f152:=Tryz.func179.trans (congrArg some (by kernel_rfl)),
 f153:=Tryz.func169.trans (congrArg some (by kernel_rfl)),
 f217:=Tryz.func165.trans (congrArg some (by kernel_rfl)),
 f224:=Tryz.func167.trans (congrArg some (by kernel_rfl)),
 f225:=Tryz.func166.trans (congrArg some (by kernel_rfl)),
 f226:=Tryz.func180.trans (congrArg some (by kernel_rfl)),
 f227:=Tryz.func181.trans (congrArg some (by kernel_rfl)),
 f228:=Tryz.func182.trans (congrArg some (by kernel_rfl)),
 f266:=Tryz.func177.trans (congrArg some (by kernel_rfl)),
 t0:=Tryz.underlying0,
 a0:=Tryz.isAgg0,
 z0:=Tryz.sizeOf0,
 v0:=Tryz.zeroValue0,
 t3:=Tryz.underlying3,
 a3:=Tryz.isAgg3,
 z3:=Tryz.sizeOf3,
 v3:=Tryz.zeroValue3,
 t4:=Tryz.underlying4,
 a4:=Tryz.isAgg4,
 z4:=Tryz.sizeOf4,
 v4:=Tryz.zeroValue4,
 t5:=Tryz.underlying5,
 a5:=Tryz.isAgg5,
 z5:=Tryz.sizeOf5,
 v5:=Tryz.zeroValue5,
 t9:=Tryz.underlying9,
 a9:=Tryz.isAgg9,
 z9:=Tryz.sizeOf9,
 v9:=Tryz.zeroValue9,
 t21:=Tryz.underlying21,
 a21:=Tryz.isAgg21,
 z21:=Tryz.sizeOf21,
 v21:=Tryz.zeroValue21,
 t46:=Tryz.underlying134,
 a46:=Tryz.isAgg134,
 z46:=Tryz.sizeOf134,
 v46:=Tryz.zeroValue134,
 t116:=Tryz.underlying208,
 a116:=Tryz.isAgg208,
 z116:=Tryz.sizeOf208,
 t117:=Tryz.underlying209,
 a117:=Tryz.isAgg209,
 z117:=Tryz.sizeOf209,
 v117:=Tryz.zeroValue209,
 t124:=Tryz.underlying217,
 a124:=Tryz.isAgg217,
 z124:=Tryz.sizeOf217,
 v124:=Tryz.zeroValue217 }
theorem Tryz.lays219:Lays.n219 Tryz.prog Tryz.sren:={
 mixed:=by kernel_rfl,
 f217:=Tryz.func165.trans (congrArg some (by kernel_rfl)),
 f219:=Tryz.func151.trans (congrArg some (by kernel_rfl)),
 f224:=Tryz.func167.trans (congrArg some (by kernel_rfl)),
 f225:=Tryz.func166.trans (congrArg some (by kernel_rfl)),
 f266:=Tryz.func177.trans (congrArg some (by kernel_rfl)),
 f267:=Tryz.func168.trans (congrArg some (by kernel_rfl)),
 f314:=Tryz.func178.trans (congrArg some (by kernel_rfl)),
 t3:=Tryz.underlying3,
 a3:=Tryz.isAgg3,
 z3:=Tryz.sizeOf3,
 v3:=Tryz.zeroValue3,
 t4:=Tryz.underlying4,
 a4:=Tryz.isAgg4,
 z4:=Tryz.sizeOf4,
 v4:=Tryz.zeroValue4,
 t5:=Tryz.underlying5,
 a5:=Tryz.isAgg5,
 z5:=Tryz.sizeOf5,
 v5:=Tryz.zeroValue5,
 t9:=Tryz.underlying9,
 a9:=Tryz.isAgg9,
 z9:=Tryz.sizeOf9,
 v9:=Tryz.zeroValue9,
 t46:=Tryz.underlying134,
 a46:=Tryz.isAgg134,
 z46:=Tryz.sizeOf134,
 v46:=Tryz.zeroValue134,
 t51:=Tryz.underlying92,
 a51:=Tryz.isAgg92,
 z51:=Tryz.sizeOf92,
 v51:=Tryz.zeroValue92,
 t146:=Tryz.underlying165,
 a146:=Tryz.isAgg165,
 z146:=Tryz.sizeOf165,
 v146:=Tryz.zeroValue165,
 g1:=by kernel_rfl }
theorem Tryz.lays138:Lays.n138 Tryz.prog Tryz.sren:={
 mixed:=by kernel_rfl,
 f138:=Tryz.func187.trans (congrArg some (by kernel_rfl)),
 f143:=Tryz.func157.trans (congrArg some (by kernel_rfl)),
 f195:=Tryz.func193.trans (congrArg some (by kernel_rfl)),
 f217:=Tryz.func165.trans (congrArg some (by kernel_rfl)),
 f218:=Tryz.func195.trans (congrArg some (by kernel_rfl)),
 f219:=Tryz.func151.trans (congrArg some (by kernel_rfl)),
 f224:=Tryz.func167.trans (congrArg some (by kernel_rfl)),
 f225:=Tryz.func166.trans (congrArg some (by kernel_rfl)),
 f266:=Tryz.func177.trans (congrArg some (by kernel_rfl)),
 f267:=Tryz.func168.trans (congrArg some (by kernel_rfl)),
 f314:=Tryz.func178.trans (congrArg some (by kernel_rfl)),
 t0:=Tryz.underlying0,
 a0:=Tryz.isAgg0,
 z0:=Tryz.sizeOf0,
 v0:=Tryz.zeroValue0,
 t3:=Tryz.underlying3,
 a3:=Tryz.isAgg3,
 z3:=Tryz.sizeOf3,
 v3:=Tryz.zeroValue3,
 t4:=Tryz.underlying4,
 a4:=Tryz.isAgg4,
 z4:=Tryz.sizeOf4,
 v4:=Tryz.zeroValue4,
 t5:=Tryz.underlying5,
 a5:=Tryz.isAgg5,
 z5:=Tryz.sizeOf5,
 v5:=Tryz.zeroValue5,
 t9:=Tryz.underlying9,
 a9:=Tryz.isAgg9,
 z9:=Tryz.sizeOf9,
 v9:=Tryz.zeroValue9,
 t46:=Tryz.underlying134,
 a46:=Tryz.isAgg134,
 z46:=Tryz.sizeOf134,
 v46:=Tryz.zeroValue134,
 t51:=Tryz.underlying92,
 a51:=Tryz.isAgg92,
 z51:=Tryz.sizeOf92,
 v51:=Tryz.zeroValue92,
 t146:=Tryz.underlying165,
 a146:=Tryz.isAgg165,
 z146:=Tryz.sizeOf165,
 v146:=Tryz.zeroValue165,
 g1:=by kernel_rfl }
theorem Tryz.lays145:Lays.n145 Tryz.prog Tryz.sren:={
 mixed:=by kernel_rfl,
 f145:=Tryz.func93.trans (congrArg some (by kernel_rfl)),
 f217:=Tryz.func165.trans (congrArg some (by kernel_rfl)),
 f219:=Tryz.func151.trans (congrArg some (by kernel_rfl)),
 f220:=Tryz.func123.trans (congrArg some (by kernel_rfl)),
 f224:=Tryz.func167.trans (congrArg some (by kernel_rfl)),
 f225:=Tryz.func166.trans (congrArg some (by kernel_rfl)),
 f266:=Tryz.func177.trans (congrArg some (by kernel_rfl)),
 f267:=Tryz.func168.trans (congrArg some (by kernel_rfl)),
 f314:=Tryz.func178.trans (congrArg some (by kernel_rfl)),
 t3:=Tryz.underlying3,
 a3:=Tryz.isAgg3,
 z3:=Tryz.sizeOf3,
 v3:=Tryz.zeroValue3,
 t4:=Tryz.underlying4,
 a4:=Tryz.isAgg4,
 z4:=Tryz.sizeOf4,
 v4:=Tryz.zeroValue4,
 t5:=Tryz.underlying5,
 a5:=Tryz.isAgg5,
 z5:=Tryz.sizeOf5,
 v5:=Tryz.zeroValue5,
 t9:=Tryz.underlying9,
 a9:=Tryz.isAgg9,
 z9:=Tryz.sizeOf9,
 v9:=Tryz.zeroValue9,
 t46:=Tryz.underlying134,
 a46:=Tryz.isAgg134,
 z46:=Tryz.sizeOf134,
 v46:=Tryz.zeroValue134,
 t51:=Tryz.underlying92,
 a51:=Tryz.isAgg92,
 z51:=Tryz.sizeOf92,
 v51:=Tryz.zeroValue92,
 t59:=Tryz.underlying135,
 a59:=Tryz.isAgg135,
 z59:=Tryz.sizeOf135,
 v59:=Tryz.zeroValue135,
 t146:=Tryz.underlying165,
 a146:=Tryz.isAgg165,
 z146:=Tryz.sizeOf165,
 v146:=Tryz.zeroValue165,
 g1:=by kernel_rfl }
end Go.Proofs
namespace Go.Proofs.YtajopjoiaogapaaGreatDoor
open Go.Ab
theorem str344_ok:∀xs r,prim344 xs=some r→Zal Tryz.prog (nu 344) xs (·=r):=by
 have e:nu 344=Tryz.sren.f 153:=by kernel_rfl
 rw[e];exact indexAny_pcall Tryz.lays153 (by kernel_rfl)
theorem str194_ok:∀xs r,prim194 xs=some r→Zal Tryz.prog (nu 194) xs (·=r):=by
 have e:nu 194=Tryz.sren.f 219:=by kernel_rfl
 rw[e];exact index_pcall Tryz.lays219
theorem str361_ok:∀xs r,prim361 xs=some r→Zal Tryz.prog (nu 361) xs (·=r):=by
 have e:nu 361=Tryz.sren.f 138:=by kernel_rfl
 rw[e];exact count_pcall Tryz.lays138
theorem str184_ok:∀xs r,prim184 xs=some r→Zal Tryz.prog (nu 184) xs (·=r):=by
 have e:nu 184=Tryz.sren.f 145:=by kernel_rfl
 rw[e];exact cut_pcall Tryz.lays145
end Go.Proofs.YtajopjoiaogapaaGreatDoor
end
namespace Go.Ab
section
open Go.ChangeShapes Go.WideShapes Go.ChangeAt Go.RowKit
theorem zke{H:Type}{enc:TypeId×Value→H}{P:Program}{f:Func}{s:ChangeSpec}{apart fresh handsOn again:Bool}{W W':World}{args:Array Value}{v:Value}{ds gs:List (DataW H)}{before pa pv:List MemPlace}
  (hW:DataW.Whole enc P f.params.toList s.vars apart W args.toList ds gs before)
  (hres:∀(b:Nat) (sp:Nat→Bool) (hd:Bool),DataW.TrodAll enc P W' b sp hd f.resultTypes.toList (v.resultList f.resultTypes.size) (s.fn H (ds++gs)).results [])
  (hargs:∀sp:Nat→Bool,(∀p∈before,sp p.block=true)→DataW.TrodAll enc P W' 0 sp true f.params.toList args.toList (s.fn H (ds++gs)).args pa)
  (hvars:∀sp:Nat→Bool,(∀p∈before,sp p.block=true)→DataW.TrodVars enc P W' sp s.vars (s.fn H (ds++gs)).vars pv)
  (hps:before=pa++pv) (hw:Below W.heap.size W W')
  (hok:∀(j:Nat) (t:TypeId) (r:Value),f.resultTypes[j]? = some t→(v.resultList f.resultTypes.size)[j]? = some r→Value.okWide P W' .any 0 t r) :
  s.post enc P f apart fresh handsOn again W args v W':=by
 have hold:∀p∈before,(fun b=>decide (b<W.heap.size)) p.block=true:=fun p hp=>by simpa using hW.lt p hp
 have hlt:∀p∈before,p.block<W.heap.size:=fun p hp=>hW.lt p hp;refine⟨ds,gs,before,[],pa,pv,hW,hres _ _ _,hargs _ hold,hvars _ hold,World.keptBut_mono (fun p hp=>⟨hp,?_⟩) (hw.frame (·∈before)),fun _=>?_⟩
 ·grind
 ·obtain⟨_,_,_,_,_,hz,hn⟩:=hW;refine⟨hok,_,_,([]++pa)++pv,⟨[]++pa,pv,trodAll_append (hargs _ (fun _ _=>rfl)) (hres _ _ _),hvars _ (fun _ _=>rfl),rfl,?_,?_⟩,?_⟩
  ·intro b off hp;have hp':MemPlace.cell b off∈before:=by grind
   rw[hw.frozen (p:=⟨b,off,none⟩) (hlt _ hp')];exact hz b off hp'
  all_goals grind
end
section
open Go.ChangeShapes Go.WideShapes Go.ChangeAt Go.RowKit
inductive Ty where
 | int (k:IntKind)
 | bool
 | str
 | sl (r:Ty)
 | nil
 | cons (a:Ty) (r:Ty)
def Ty.z:Ty→Nat
 | .nil=>0
 | .cons a r=>a.z+r.z
 | _=>1
def Ok:Ty→List AV→Prop
 | .int k,cs=>∃n,cs=[.i k n]∧(Lit.int k n).wf=true
 | .bool,cs=>∃b,cs=[.b b]
 | .str,cs=>∃l,cs=[.s l]∧l.length≤maxLen
 | .sl r,cs=>∃els f,cs=[.sl els f]∧els.length≤maxLen∧(f=.nl∧els=[]∨f=.so)∧∀row∈els,Ok r row
 | .nil,cs=>cs=[]
 | .cons a r,cs=>∃c1 c2,cs=c1++c2∧Ok a c1∧Ok r c2
theorem Ok.len:∀{ty:Ty} {cs:List AV},Ok ty cs→cs.length=ty.z
 | .int _,_,⟨_,h,_⟩=>by rw[h];rfl
 | .bool,_,⟨_,h⟩=>by rw[h];rfl
 | .str,_,⟨_,h,_⟩=>by rw[h];rfl
 | .sl _,_,⟨_,_,h,_⟩=>by rw[h];rfl
 | .nil,_,h=>by rw[show _=[] from h];rfl
 | .cons _ _,_,⟨_,_,h,h1,h2⟩=>by rw[h,Y1,h1.len,h2.len];rfl
def Zdv(w:World)(S:Nat→Nat→Prop)(cs:List Value)(xs:List AV):Prop:=
 xs.length=cs.length∧∀(j:Nat) (v:Value) (c:AV),cs[j]? = some v→xs[j]? = some c→CP w S v c∧v.oneCell'=true
section
variable{H:Type}{enc:TypeId×Value→H}{P:Program}{w:World}{base:Nat}{held:Bool}{S:Nat→Nat→Prop}
theorem Zdv.nil:Zdv w S [] []:=⟨rfl,fun j v c h=>by grind⟩
theorem Zdv.one{v:Value}{c:AV}(h:CP w S v c)(h1:v.oneCell'=true):Zdv w S [v] [c]:=by
 refine⟨rfl,fun j v' c' hv hc=>?_⟩
 grind
theorem Zdv.append{cs cs':List Value}{xs xs':List AV}(h:Zdv w S cs xs)(h':Zdv w S cs' xs'):Zdv w S (cs++cs') (xs++xs'):=by
 refine⟨by rw[Y1,Y1,h.1,h'.1],fun j v c hv hc=>?_⟩;by_cases hj:j<cs.length
 ·rw[Yv hj]at hv;rw[Yv (by rw[h.1];omega)]at hc;exact h.2 j v c hv hc
 ·rw[Yl (by omega)]at hv;rw[Yl (by rw[h.1];omega),h.1]at hc;exact h'.2 _ v c hv hc
def Zfz(P:Program)(g:TypeId→Option Ty)(tot:Nat):Nat→List Field→Option Ty
 | off,[]=>if off=tot then some .nil else none
 | off,f::fs=>(g f.type).bind fun a=>if f.offset=off∧a.z=P.cellsOf f.type then (Zfz P g tot (off+a.z) fs).map (.cons a) else none
def Zkx:Nat→Ty→Ty
 | 0,_=>.nil
 | n+1,a=>.cons a (Zkx n a)
def Zgt(P:Program):Nat→TypeId→Option Ty
 | 0,_=>none
 | n+1,t=>
  match P.underlying t with
  | some .bool=>some .bool
  | some (.int k)=>some (.int k)
  | some .string=>some .str
  | some (.slice e)=>(Zgt P n e).bind fun r=>if r.z=P.cellsOf e∧0<r.z then some (.sl r) else none
  | some (.struct fs)=>Zfz P (Zgt P n) (P.cellsOf t) 0 fs.toList
  | some (.array k e)=>(Zgt P n e).bind fun a=>if a.z=P.cellsOf e∧k*a.z=P.cellsOf t then some (Zkx k a) else none
  | _=>none
theorem zt5{α:Type}{Q:Nat→α→Prop}:∀(n:Nat),(∀i,i<n→∃x,Q i x)→∃l:List α,l.length=n∧∀i x,l[i]? = some x→Q i x
 | 0,_=>⟨[],rfl,fun i x h=>by grind⟩
 | n+1,h=>by
  obtain⟨l,hl,hq⟩:=zt5 n fun i hi=>h i (by omega);obtain⟨x,hx⟩:=h n (by omega);refine⟨l++[x],by grind,fun i y hy=>?_⟩
  grind
def Zfn(S:Nat→Nat→Prop)(ps:List MemPlace):Prop:=∀k o,MemPlace.cell k o∈ps→S k o
theorem zhh{n:Nat}{g:TypeId→Option Ty}{cs:List Value}
  (ih:∀t cs x ty,DataW.trod enc P w base (fun _=>true) held n t cs=some x→g t=some ty→Zfn S x.2→∃xs,Ok ty xs∧Zdv w S cs xs) :
  ∀(fs:List Field) (off:Nat) (ty:Ty) (ys:List (DataW H×List MemPlace)),
   ys.length=fs.length→(∀(i:Nat) (f:Field),fs[i]? = some f→DataW.trod enc P w base (fun _=>true) held n f.type ((cs.drop f.offset).take (P.cellsOf f.type))=ys[i]?) →
   Zfz P g cs.length off fs=some ty→Zfn S (ys.flatMap (·.2))→∃xs,Ok ty xs∧Zdv w S (cs.drop off) xs
 | [],off,ty,ys,hl,hm,ht,hp=>by
  simp only[Zfz]at ht;split at ht<;>cases ht;rename_i ho;exact⟨[],rfl,by rw[ho,Y5];exact Zdv.nil⟩
 | f::fs,off,ty,[],hl,hm,ht,hp=>by grind
 | f::fs,off,ty,y::ys1,hl,hm,ht,hp=>by
  obtain⟨a,ha,ht1⟩:=bind_some ht;split at ht1
  ·rename_i hc;obtain⟨ho,hz⟩:=hc;obtain⟨r,hr,rfl⟩:=map_some ht1;have hy:=hm 0 f rfl;rw[ho,←hz]at hy;obtain⟨xs1,ho1,hr1⟩:=ih _ _ _ _ hy ha fun k o h=>hp k o (by grind);obtain⟨xs2,ho2,hr2⟩:=zhh ih fs _ r ys1 (by grind) (fun i f' hf=>by simpa using hm (i+1) f' (by grind)) hr fun k o h=>hp k o (by
    grind)
   refine⟨xs1++xs2,⟨xs1,xs2,rfl,ho1,ho2⟩,?_⟩;have e:cs.drop off=(cs.drop off).take a.z++cs.drop (off+a.z):=by rw[←Yeo,Yan]
   rw[e];exact hr1.append hr2
  grind
theorem zjh{n:Nat}{e:TypeId}{r:Ty}(ih:∀cs x,DataW.trod enc P w base (fun _=>true) held n e cs=some x→Zfn S x.2→∃xs,Ok r xs∧Zdv w S cs xs) :
  ∀(k:Nat) (cs:List Value) (ys:List (DataW H×List MemPlace)),ys.length=k→cs.length=k*r.z →
   (∀(i:Nat),i<k→DataW.trod enc P w base (fun _=>true) held n e ((cs.drop (i*r.z)).take r.z)=ys[i]?)→Zfn S (ys.flatMap (·.2))→∃xs,Ok (Zkx k r) xs∧Zdv w S cs xs
 | 0,cs,ys,hl,hc,hm,hp=>by
  rw[Yc9,Yb1]at hc;subst hc;exact⟨[],rfl,Zdv.nil⟩
 | k+1,cs,[],hl,hc,hm,hp=>by grind
 | k+1,cs,y::ys,hl,hc,hm,hp=>by
  have hy:=hm 0 (by omega);rw[Yc9,Yad]at hy;obtain⟨xs1,ho1,hr1⟩:=ih _ _ hy fun k o h=>hp k o (by grind);obtain⟨xs2,ho2,hr2⟩:=zjh ih k (cs.drop r.z) ys (by grind) (by grind) (fun i hi=>by
   grind[List.drop_drop]) fun k o h=>hp k o (by
    grind)
  refine⟨xs1++xs2,⟨xs1,xs2,rfl,ho1,ho2⟩,?_⟩;have e:cs=cs.take r.z++cs.drop r.z:=(Yan ..).symm;rw[e];exact hr1.append hr2
theorem zp7{a:Addr}{m z:Nat}{cs:List Value}(h:w.cells? base (a.add m) z=some cs)(j:Nat)(hj:j<z):w.cell? ((a.add m).add j)=cs[j]? := (World.cells?_some h).2.2 j hj
theorem zt6{a:Addr}{v:Value}(h:w.cell? a=some v):a.spot=none:=by
 unfold World.cell? at h;split at h
 all_goals simp_all
theorem zfa:∀(n m:Nat) (t:TypeId) (cs:List Value) (x:DataW H×List MemPlace) (ty:Ty),
  DataW.trod enc P w base (fun _=>true) held n t cs=some x→Zgt P m t=some ty→Zfn S x.2→∃xs,Ok ty xs∧Zdv w S cs xs
 | 0,_,_,_,_,_,h,_,_=>by simp[DataW.trod]at h
 | n+1,0,_,_,_,_,_,ht,_=>by simp[Zgt]at ht
 | n+1,m+1,t,cs,x,ty,h,ht,hp=>by
  simp only[Zgt]at ht;split at ht
  ·rename_i hu;cases ht;obtain⟨b,rfl,rfl⟩:=DataW.trod_bool hu h;exact⟨[.b b],⟨b,rfl⟩,Zdv.one (.b b) rfl⟩
  ·rename_i k hu;cases ht;obtain⟨z,rfl,rfl,hw⟩:=DataW.trod_int hu h;exact⟨[.i k z],⟨z,rfl,hw⟩,Zdv.one (.i k z) rfl⟩
  ·rename_i hu;cases ht;obtain⟨s,rfl,rfl,hs⟩:=DataW.trod_string hu h;exact⟨[.s s.data.toList],⟨_,rfl,by simp_all⟩,Zdv.one (.s s.data.toList) rfl⟩
  ·rename_i e hu;obtain⟨r,hr,ht1⟩:=bind_some ht;split at ht1
   ·rename_i hz;cases ht1;obtain⟨hz,hzp⟩:=hz;rcases DataW.trod_slice hu h with ⟨rfl,rfl⟩ | ⟨a,len,cap,elems,rest,n',hn',rfl,rfl,hb,hl,hmx,hlen,hel,hsp,hns⟩
    ·exact⟨[.sl [] .nl],⟨[],.nl,rfl,Yo _,.inl ⟨rfl,rfl⟩,fun row h=>by grind⟩,Zdv.one (.slnil _ (.inl rfl)) rfl⟩
    ·obtain⟨hrl,hrest⟩:=hsp rfl;have hall:∀i,i<cap→∃y cs',y∈elems++rest∧w.cells? base (a.add (i*P.cellsOf e)) (P.cellsOf e)=some cs'∧DataW.trod enc P w base (fun _=>true) held n e cs'=some y:=by
      intro i hi;by_cases hil:i<len
      ·have h1:=hel i hil;rw[Ya (by omega)]at h1;obtain⟨cs',h2,h3⟩:=bind_some h1
       grind
      ·have h1:=hrest (i-len) (by omega);rw[Ya (by omega),show len+(i-len)=i by omega]at h1;obtain⟨cs',h2,h3⟩:=bind_some h1
       grind
     by_cases hcap:cap=0
     ·have hl0:len=0:=by omega
      subst hcap;subst hl0;exact⟨[.sl [] .so],⟨[],.so,rfl,Yo _,.inr rfl,fun row h=>by grind⟩,Zdv.one (.slz a _ (.inl rfl)) rfl⟩
     ·have hspot:a.spot=none:=by
       obtain⟨y,cs',_,h2,_⟩:=hall 0 (by omega);have h3:=zp7 h2 0 (by omega)
       grind[World.cells?_some,zt6,Addr.add]
      obtain⟨blk,off,sp⟩:=a;have hrows:∀i,i<len→∃xs,Ok r xs∧∃cs',w.cells? base ((⟨blk,off,none⟩:Addr).add (i*P.cellsOf e)) (P.cellsOf e)=some cs'∧Zdv w S cs' xs:=by
       intro i hi;obtain⟨y,cs',hy,h2,h3⟩:=hall i (by omega);obtain⟨xs,ho,hrc⟩:=zfa n m e cs' y r h3 hr fun k o hk=>hp k o (by
        grind)
       grind
      obtain⟨els,hels,hq⟩:=zt5 len hrows;refine⟨[.sl els .so],⟨els,.so,rfl,by omega,.inr rfl,fun row hrow=>?_⟩,Zdv.one ?_ rfl⟩
      ·grind[List.getElem?_of_mem]
      ·have hcell:∀i j,i<els.length→j<r.z→∃v,w.cell? ⟨blk,off+i*r.z+j,none⟩=some v∧v.oneCell'=true∧∀row c,els[i]? = some row→row[j]? = some c→CP w S v c:=by
        intro i j hi hj;obtain⟨ho,cs',h2,hrc⟩:=hq i _ (Ya hi);have h3:=zp7 h2 j (by omega);have h4:=(World.cells?_some h2).2.1;rw[zbm,zbm,←hz,Ya (by omega)]at h3;have hlr:=ho.len;have h5:=hrc.2 j _ _ (Ya (by omega)) (Ya (by omega))
        grind
       have hS:∀i j,i<els.length→j<r.z→S blk (off+i*r.z+j):=by
        intro i j hi hj;refine hp _ _ ?_;rw[Ya9];left;unfold MemPlace.row;rw[Y6];refine⟨i*r.z+j,?_,by rw[Ya6]⟩;have h1:(i+1)*r.z≤(elems.length+rest.length)*r.z:=Yu _ (by omega)
        grind
       have:=CP.sl (w:=w) (S:=S) blk off r.z cap els .so (fun i j=>(w.cell? ⟨blk,off+i*r.z+j,none⟩).getD undef) (by simp) (by simp) (by omega) hmx
        (fun i row hrow=>(hq i row hrow).1.len) (fun i j hi hj=>?_) (fun i row j c hrow hc=>?_)
       ·grind
       ·grind
       ·have hi:=(Yd.1 hrow).1;have hj:=(Yd.1 hc).1;rw[(hq i row hrow).1.len]at hj
        grind
   grind
  ·rename_i fs hu;obtain⟨xs,n',hn',rfl,hcl,hxl,hx⟩:=DataW.trod_struct hu h;cases hn';rw[←hcl]at ht;have:=zhh (S:=S) (g:=Zgt P m) (cs:=cs) (n:=n) (fun t cs x ty h1 h2 h3=>zfa n m t cs x ty h1 h2 h3) fs.toList 0 ty xs (by omega) (fun i f hf=>hx i f (by grind)) ht hp
   grind
  ·rename_i k e hu;obtain⟨r,hr,ht1⟩:=bind_some ht;split at ht1
   ·rename_i hz;cases ht1;obtain⟨hz,hzt⟩:=hz;obtain⟨xs,n',hn',rfl,hcl,hxl,hx⟩:=DataW.trod_array hu h;cases hn';rw[←hz]at hx;exact zjh (S:=S) (n:=n) (e:=e) (r:=r) (fun cs x h1 h3=>zfa n m e cs x r h1 hr h3) k cs xs hxl (by omega) hx hp
   grind
  grind
end
end
section
open Go.ChangeShapes Go.WideShapes Go.ChangeAt Go.RowKit
def isAgg(P:Program)(t:TypeId):Bool:=match P.underlying t with | some (.struct _)=>true | some (.array _ _)=>true | _=>false
def Zky(P:Program)(m:Nat):List TypeId→Option (List (Bool×Ty))
 | []=>some []
 | t::ts=>(Zgt P m t).bind fun a=>(Zky P m ts).map fun r=>(isAgg P t,a)::r
def Zh8:Bool×Ty→AV→Prop
 | (true,ty),x=>∃cs,x=.agg cs∧Ok ty cs
 | (false,ty),x=>Ok ty [x]
def Zio:List (Bool×Ty)→List AV→Prop
 | [],xs=>xs=[]
 | a::r,xs=>∃x ys,xs=x::ys∧Zh8 a x∧Zio r ys
section
variable{H:Type}{enc:TypeId×Value→H}{P:Program}{w:World}{S:Nat→Nat→Prop}
theorem zyj{m:Nat}{t:TypeId}{v:Value}{d:DataW H}{p:List MemPlace}{ty:Ty}{base:Nat}(hA:DataW.Trod enc P w 0 (fun _=>true) true t v d p)(hT:Zgt P m t=some ty)
  (hval:Value.okWide P w .any base t v) (hp:Zfn S p):∃x,Zh8 (isAgg P t,ty) x∧CP w S v x:=by
 obtain⟨fuel,hf⟩:=hA;obtain⟨xs,ho,hrc⟩:=zfa (S:=S) fuel m t _ _ ty hf hT hp;have hlen:=ho.len;cases hu:P.underlying t with
 | none=>cases m<;>simp[Zgt,hu]at hT
 | some desc=>
  have one:∀(hag:isAgg P t=false) (hz:ty.z=1) (hv:v.cells=#[v]),∃x,Zh8 (isAgg P t,ty) x∧CP w S v x:=by
   intro hag hz hv;rw[hag]
   match xs,hlen with
   | [x],_=>
    refine⟨x,ho,?_⟩;have:=hrc.2 0 v x (by grind) rfl
    grind
   | [],h=>grind
   | _::_::_,h=>grind
  cases m with
  | zero=>simp[Zgt]at hT
  | succ m=>
  cases desc<;>simp only[Zgt,hu]at hT<;>try (cases hT;done)
  case struct fs=>
   have hag:isAgg P t=true:=by simp[isAgg,hu]
   rw[hag];unfold Value.okWide at hval;rw[hu]at hval;obtain⟨cs,rfl,hcs,_⟩:=hval;refine⟨.agg xs,⟨xs,rfl,ho⟩,.agg cs xs ?_ ?_ ?_⟩
   ·have:=hrc.1;simpa[Value.cells]using this.symm
   ·intro j u hu;have hl:=hrc.1;have hj:j<cs.size:=(Ycy.1 hu).1;have hj':j<xs.length:=by rw[hl];simpa[Value.cells]using hj
    exact(hrc.2 j u _ (by simpa[Value.cells]using hu) (Ya hj')).2
   ·intro j u c hu hc;exact(hrc.2 j u c (by simpa[Value.cells]using hu) hc).1
  case array k e=>
   have hag:isAgg P t=true:=by simp[isAgg,hu]
   rw[hag];unfold Value.okWide at hval;rw[hu]at hval;obtain⟨cs,rfl,hcs,_⟩:=hval;refine⟨.agg xs,⟨xs,rfl,ho⟩,.agg cs xs ?_ ?_ ?_⟩
   ·have:=hrc.1;simpa[Value.cells]using this.symm
   ·intro j u hu;have hl:=hrc.1;have hj:j<cs.size:=(Ycy.1 hu).1;have hj':j<xs.length:=by rw[hl];simpa[Value.cells]using hj
    exact(hrc.2 j u _ (by simpa[Value.cells]using hu) (Ya hj')).2
   ·intro j u c hu hc;exact(hrc.2 j u c (by simpa[Value.cells]using hu) hc).1
  case bool=>
   cases hT;unfold Value.okWide Cell.okWide Cell.ok at hval;refine one (by simp[isAgg,hu]) rfl ?_;cases v<;>first | rfl | grind
  case int k=>
   cases hT;unfold Value.okWide Cell.okWide Cell.ok at hval;rw[hu]at hval;refine one (by simp[isAgg,hu]) rfl ?_;cases v<;>first | rfl | grind
  case string=>
   cases hT;unfold Value.okWide Cell.okWide Cell.ok at hval;rw[hu]at hval;refine one (by simp[isAgg,hu]) rfl ?_;cases v<;>first | rfl | grind
  case slice e=>
   obtain⟨r,hr,ht1⟩:=bind_some hT;split at ht1<;>cases ht1;unfold Value.okWide Cell.okWide Cell.ok at hval;rw[hu]at hval;refine one (by simp[isAgg,hu]) rfl ?_;cases v<;>first | rfl | grind
theorem zlx{m base:Nat}:∀(ts:List TypeId) (vs:List Value) (ds:List (DataW H)) (p:List MemPlace) (tys:List (Bool×Ty)),DataW.TrodAll enc P w 0 (fun _=>true) true ts vs ds p→Zky P m ts=some tys →
  (∀(j:Nat) t v,ts[j]? = some t→vs[j]? = some v→Value.okWide P w .any base t v)→Zfn S p →
  ∃xs,Zio tys xs∧vs.length=xs.length∧∀(j:Nat) (v:Value) (c:AV),vs[j]? = some v→xs[j]? = some c→CP w S v c
 | [],vs,ds,p,tys,hA,hT,hval,hp=>by
  obtain⟨rfl,_,_⟩:=trodAll_nil hA;cases hT;exact⟨[],rfl,rfl,fun j v c h=>by grind⟩
 | t::ts,vs,ds,p,tys,hA,hT,hval,hp=>by
  obtain⟨v,vs1,d,ds1,a,b,rfl,rfl,rfl,h1,h2⟩:=trodAll_cons hA;obtain⟨ty,hty,hT1⟩:=bind_some hT;obtain⟨r,hr,rfl⟩:=map_some hT1;obtain⟨x,hx,hC⟩:=zyj (S:=S) h1 hty (hval 0 t v rfl rfl) fun k o h=>hp k o (Ya4 _ h);obtain⟨xs,ho,hl,hc⟩:=zlx (m:=m) (base:=base) ts vs1 ds1 b r h2 hr (fun j t v ht hv=>hval (j+1) t v (by grind) (by grind)) fun k o h=>hp k o (Yba _ h);refine⟨x::xs,⟨x,xs,rfl,hx,ho⟩,by grind,fun j u c hu hcc=>?_⟩
  grind
theorem zp8(hl:laidOutB P=true){W W':World}(hb:Below W.heap.size W W'){sp:Nat→Bool}:∀(ts:List TypeId) (vs:List Value) (ds:List (DataW H)) (p:List MemPlace),
  (ts.all fun t=>P.readableRec t&&decide (t<P.types.size))=true→DataW.TrodAll enc P W 0 (fun _=>true) true ts vs ds p→(∀x∈p,x.block<W.heap.size)→(∀x∈p,sp x.block=true)→DataW.TrodAll enc P W' 0 sp true ts vs ds p
 | [],_,_,_,_,hA,_,_=>by
  obtain⟨rfl,rfl,rfl⟩:=trodAll_nil hA;exact rfl
 | t::ts,vs,ds,p,hr,hA,hlt,hsp=>by
  obtain⟨v,vs1,d,ds1,a,b,rfl,rfl,rfl,h1,h2⟩:=trodAll_cons hA;rw[Yb0,Yn,Yn,decide_eq_true_eq]at hr;exact⟨a,b,WideElems.Trod_stays hl hr.1.1 hr.1.2 h1 (fun x hx=>hb.same (hlt x (Ya4 _ hx))) (fun x hx=>hsp x (Ya4 _ hx)),
   zp8 hl hb ts vs1 ds1 b hr.2 h2 (fun x hx=>hlt x (Yba _ hx)) (fun x hx=>hsp x (Yba _ hx)),rfl⟩
theorem zt7:∀(ts:List TypeId) (vs:List Value) (ds:List (DataW H)) (p:List MemPlace),DataW.TrodAll enc P w 0 (fun _=>true) true ts vs ds p→ds.length=ts.length
 | [],_,_,_,hA=>by
  obtain⟨rfl,rfl,rfl⟩:=trodAll_nil hA
  rfl
 | t::ts,vs,ds,p,hA=>by
  obtain⟨v,vs1,d,ds1,a,b,rfl,rfl,rfl,h1,h2⟩:=trodAll_cons hA;simp[zt7 ts vs1 ds1 b h2]
theorem zyk{f:FuncId}{fn:Func}{s:ChangeSpec}{m tb:Nat}{tys:List (Bool×Ty)}{fresh handsOn again:Bool}(hvars:s.vars=[])(hT:Zky P m fn.params.toList=some tys)(hl:laidOutB P=true)
  (hread:(fn.params.toList.all fun t=>P.readableRec t&&decide (t<P.types.size))=true) (hr:fn.resultTypes=#[tb]) (hb:P.underlying tb=some .bool)
  (hfn:∀ds:List (DataW H),ds.length=fn.params.toList.length→s.fn H ds={ results:=[.lit (.bool true)],args:=ds })
  (hcall:∀xs,Zio tys xs→Zal P f xs (·=.b true)) {W:World} {args:Array Value} {ds gs:List (DataW H)} {before:List MemPlace} {base:Nat}
  (hval:∀(j:Nat) t v,fn.params[j]? = some t→args[j]? = some v→Value.okWide P W .any base t v) (hW:DataW.Whole enc P fn.params.toList s.vars false W args.toList ds gs before) :
  Calls P f args W fun e W'=>∃v,e=.returned v∧s.post enc P fn false fresh handsOn again W args v W':=by
 have hW':=hW;obtain⟨p,q,hA,hV,rfl,hfz,hnd⟩:=hW;rw[hvars]at hV;obtain⟨rfl,rfl⟩:=trodVars_none hV;have hlt:∀x∈p,x.block<W.heap.size:=fun x hx=>hW'.lt x (Ya4 _ hx);obtain⟨xs,ho,hlen,hC⟩:=zlx (S:=fun k o=>MemPlace.cell k o∈p) _ _ _ _ _ hA hT (fun j t v ht hv=>hval j t v (by grind) (by grind)) (fun k o h=>h);have hc:=(hcall xs ho).2 W (fun k o=>MemPlace.cell k o∈p) args (by omega) (fun j v c hv hc=>hC j v c (by grind) hc) (fun k o h=>hlt _ h);refine hc.mono fun e W' ⟨v,r,he,hrr,hbel,hCr⟩=>?_;subst he hrr;have hv:v=.bool true:=by cases hCr;rfl
 subst hv;have hlf:=hfn ds (zt7 _ _ _ _ hA);refine⟨_,rfl,zke (pa:=p) (pv:=[]) hW' (fun b sp hd=>?_) (fun sp hsp=>?_) (fun sp _=>?_) rfl hbel (ok_one hr rfl (okWide_bool_mk hb _))⟩
 ·rw[Ybf,hlf,hr];exact trodAll_mk1 (shut_bool hb _)
 ·grind[zp8]
 ·rw[Ybf,hlf,hvars];exact rfl
end
end
theorem zkp:∀(els:List (List AV)),(∀row∈els,Ok (.int .u32) row)→∃l:List UInt32,els=Zb l
 | [],_=>⟨[],rfl⟩
 | r::els,h=>by
  obtain⟨l,rfl⟩:=zkp els fun row hr=>h row (Ys _ hr);obtain⟨n,rfl,hw⟩:=h r Y9;have h1:0≤n∧n<4294967296:=by
   simp[Lit.wf,IntKind.min,IntKind.max,IntKind.signed,IntKind.bits]at hw;omega
  refine⟨w32 n.toNat::l,?_⟩;have:(w32 n.toNat).toNat=n.toNat:=zah (by omega);simp only[Zb,Yy,this,u32];rw[Int.toNat_of_nonneg h1.1]
theorem zyx{P:Program}{ν:Nat→FuncId}{T:Tbl}(hT:TOk P ν T)(hm:P.follows .mixedOrders=true){u:Nat}{af:AFx}{xs ys:List AV}{r:AV}(hu:T u=some af)(hl:af.lent=none)(h:Za T u ys=some r)(hx:xs.map wkA=ys):Zal P (ν u) xs (·=r):=by
 subst hx;have h1:=zom hT hm hu hl h;exact Zal.wk (ex:=false) h1
abbrev Fz:=Bool×List UInt32×List UInt32
abbrev Zbg(x:Fz):List AV:=[.b x.1,.sl (Zb x.2.1) .an,.sl (Zb x.2.2) .an]
abbrev efz(x:Fz):AV:=.agg (Zbg x)
def fv(x:Fz):Rat:=mkRat (wv x.1 x.2.1) (val x.2.2)
def fz(q:Rat):Fz:=(decide (q.num<0),ofN q.num.natAbs,ofN q.den)
@[simp] theorem zbx(q:Rat):fv (fz q)=q:=by
 unfold fv fz;rw[zi6,zae,Rat.mkRat_self]
def fsz(x:Fz):Nat:=max x.2.1.length x.2.2.length
theorem zdr(x:Fz):x.2.1.length≤fsz x:=Nat.le_max_left ..
theorem zds(x:Fz):x.2.2.length≤fsz x:=Nat.le_max_right ..
def sz(q:Rat):Nat:=max (ofN q.num.natAbs).length (ofN q.den).length
theorem znt(q:Rat):(ofN q.num.natAbs).length≤sz q:=Nat.le_max_left ..
theorem zj7(q:Rat):(ofN q.den).length≤sz q:=Nat.le_max_right ..
theorem zpk{n:Nat}(h:n≠0):1≤(ofN n).length:=by
 have:ofN n≠[]:=fun e=>h (zas.1 e);exact Ybp.2 this
theorem zxr(q:Rat):1≤sz q:=Yc (zpk q.den_nz) (zj7 q)
theorem z1n{z:Int}{d:Nat}(h:d≠0):(mkRat z d).num.natAbs=z.natAbs/Nat.gcd z.natAbs d:=by
 rw[Rat.num_mkRat,if_neg h,Int.natAbs_ediv_of_dvd (Int.ofNat_dvd_left.2 (Nat.gcd_dvd_right ..)),Ybv,Yb9]
theorem z1o{z:Int}{d:Nat}(h:d≠0):(mkRat z d).den=d/Nat.gcd z.natAbs d:=by
 rw[Rat.den_mkRat,if_neg h,Yb9]
theorem z1p{z:Int}{d:Nat}(h:d≠0):sgI (mkRat z d).num=sgI z:=by
 rw[Rat.num_mkRat,if_neg h];have hg:0<Nat.gcd d z.natAbs:=Nat.gcd_pos_of_pos_left _ (Ya7 h);obtain⟨k,hk⟩:((Nat.gcd d z.natAbs:Nat):Int) ∣ z:=Int.ofNat_dvd_left.2 (Nat.gcd_dvd_right ..);generalize Nat.gcd d z.natAbs=g at *
 have hg':(0:Int)<g:=by omega
 subst hk;rw[Int.mul_ediv_cancel_left _ (by omega)];unfold sgI;rcases Int.lt_trichotomy k 0 with h1 | h1 | h1
 ·have:=Int.mul_neg_of_pos_of_neg hg' h1;rw[if_pos h1,if_pos this]
 ·subst h1;simp
 ·have:=Int.mul_pos hg' h1;rw[if_neg (by omega),if_neg (by omega),if_neg (by omega),if_neg (by omega)]
theorem zxs(z:Int):decide (z<0)=decide (sgI z<0):=by
 unfold sgI;split
 ·simp[*]
 ·split<;>simp[*]
theorem z95{z:Int}{d:Nat}(h:d≠0):decide ((mkRat z d).num<0)=decide (z<0):=by
 rw[zxs,zxs z,z1p h]
theorem z96(n:Bool)(x:Nat){d:Nat}(h:d≠0):fz (mkRat (sg n x) d)=(n&&decide (x≠0),ofN (x/Nat.gcd x d),ofN (d/Nat.gcd x d)):=by
 unfold fz;rw[z95 h,z1n h,z1o h,z1l,znq]
theorem ze3:ofN 1=[1]:=by
 rw[zgi (by decide),show 1/4294967296=0 from rfl,zlb]
 rfl
theorem zpl:fz 0=(false,[],[1]):=by
 unfold fz;rw[Rat.zero_num,Rat.zero_den,ze3];simp
theorem zgk:sz 0=1:=by
 unfold sz;rw[Rat.zero_num,Rat.zero_den,ze3];simp
theorem znu:sz 1=1:=by
 unfold sz;rw[Rat.one_num,Rat.one_den,show (1:Int).natAbs=1 from rfl,ze3]
 rfl
theorem za6(q:Rat):fsz (fz q)=sz q:=rfl
theorem ztb{z:Int}{d L:Nat}(hz:(ofN z.natAbs).length≤L)(hd:(ofN d).length≤L)(h1:1≤L):sz (mkRat z d)≤L:=by
 unfold sz;by_cases h:d=0
 ·subst h;rw[Yep,Rat.zero_num,Rat.zero_den,ze3];simp;omega
 ·rw[z1n h,z1o h];exact Yen.2 ⟨Yc (zat (Ybk _ _)) hz,Yc (zat (Ybk _ _)) hd⟩
theorem ze4{x:Fz}{L:Nat}(h:fsz x≤L)(h1:1≤L):sz (fv x)≤L:=
 ztb (Yc (zcf _ _) (Yc (zdr x) h)) (Yc (zad _) (Yc (zds x) h)) h1
theorem za7{x y L M:Nat}(hx:(ofN x).length≤L)(hy:(ofN y).length≤M):(ofN (x*y)).length≤L+M:=by
 have:=zbi (x:=(x:Int)) (y:=(y:Int)) (L:=L) (M:=M) (by simpa using hx) (by simpa using hy);simpa[Int.natAbs_mul]using this
theorem zxt(p q:Rat):sz (p+q)≤sz p+sz q+1:=by
 rw[Rat.add_def'];have h1:=znt p;have h2:=zj7 p;have h3:=znt q;have h4:=zj7 q;have h5:=zxr p;refine ztb ?_ (Yc (za7 h2 h4) (by omega)) (by omega);refine zbw ?_ ?_
 ·exact zbi h1 (by simpa using h4)
 ·rw[Ybl];exact zbi h3 (by simpa using h2)
theorem zet(p q:Rat):sz (p*q)≤sz p+sz q:=by
 rw[Rat.mul_def'];have h1:=znt p;have h2:=zj7 p;have h3:=znt q;have h4:=zj7 q;have h5:=zxr p;exact ztb (zbi h1 h3) (za7 h2 h4) (by omega)
def sgQ(q:Rat):Int:=sgI q.num
theorem z97{z:Int}{d:Nat}(h:d≠0):sgQ (mkRat z d)=sgI z:=z1p h
theorem z0m{z:Int}:sgI z=0↔z=0:=by
 unfold sgI;split
 ·constructor<;>intro h<;>omega
 ·split<;>constructor<;>intro h<;>omega
theorem z0n{q:Rat}:sgQ q=0↔q=0:=by
 unfold sgQ;rw[z0m,Rat.num_eq_zero]
def Zd(l:List Fz):List (List AV):=l.map Zbg
@[simp] theorem zb8(l:List Fz):(Zd l).length=l.length:=by simp[Zd]
@[simp] theorem zc8(l:List Fz):wkL (Zd l)=Zd l:=by rw[zb3];simp[Zd,wkR,wkA]
@[simp] theorem rowF_get?(l:List Fz)(i:Nat):(Zd l)[i]? = (l[i]?).map Zbg:=by simp[Zd]
@[simp] theorem zac8(l:List Fz)(i:Nat)(h:i<(Zd l).length):(Zd l)[i]=Zbg (l[i]'(by simpa using h)):=by simp[Zd]
theorem zit(l:List Fz)(x:Fz):Zd l++[Zbg x]=Zd (l++[x]):=by simp[Zd]
theorem z0o(l:List Fz)(i:Nat)(x:Fz):(Zd l).set i (Zbg x)=Zd (l.set i x):=by simp[Zd,Ycs]
@[simp] theorem z98(l:List Fz)(n:Nat):(Zd l).take n=Zd (l.take n):=by simp[Zd]
@[simp] theorem za8:Zd []=[]:=rfl
def Zs(m:List (List Fz)):List (List AV):=m.map fun r=>[.sl (Zd r) .an]
@[simp] theorem z42(l:List (List Fz)):(Zs l).length=l.length:=by simp[Zs]
@[simp] theorem zby(l:List (List Fz)):wkL (Zs l)=Zs l:=by rw[zb3];simp[Zs,wkR,wkA]
@[simp] theorem zac9(l:List (List Fz))(i:Nat)(h:i<(Zs l).length):(Zs l)[i]=[.sl (Zd (l[i]'(by simpa using h))) .an]:=by simp[Zs]
theorem zxu(l:List (List Fz))(r:List Fz):Zs l++[[.sl (Zd r) .an]]=Zs (l++[r]):=by simp[Zs]
@[simp] theorem z99(l:List (List Fz))(n:Nat):(Zs l).take n=Zs (l.take n):=by simp[Zs]
@[simp] theorem zq2:Zs []=[]:=rfl
abbrev tyF:Ty:=.cons .bool (.cons (.sl (.int .u32)) (.cons (.sl (.int .u32)) .nil))
theorem z9g{cs:List AV}(h:Ok tyF cs):∃x:Fz,wkR cs=Zbg x:=by
 obtain⟨c1,c2,rfl,⟨b,rfl⟩,c3,c4,rfl,⟨els,f,rfl,_,_,he⟩,c5,c6,rfl,⟨els2,f2,rfl,_,_,he2⟩,rfl⟩:=h;obtain⟨l,rfl⟩:=zkp els he;obtain⟨l2,rfl⟩:=zkp els2 he2;refine⟨(b,l,l2),?_⟩;simp[wkA,wkR]
theorem zmn:∀(els:List (List AV)),(∀r∈els,Ok tyF r)→∃l:List Fz,wkL els=Zd l
 | [],_=>⟨[],rfl⟩
 | r::els,h=>by
  obtain⟨l,hl⟩:=zmn els fun r hr=>h r (Ys _ hr);obtain⟨x,hx⟩:=z9g (h r Y9);refine⟨x::l,?_⟩;simp only[wkL,hx,hl]
  rfl
theorem zdz{cs:List AV}(h:Ok (.sl tyF) cs):∃l:List Fz,wkR cs=[.sl (Zd l) .an]:=by
 obtain⟨els,f,rfl,_,_,he⟩:=h;obtain⟨l,hl⟩:=zmn els he;exact⟨l,by simp[wkR,wkA,hl]⟩
theorem z25{x:AV}(h:Zh8 (false,.sl tyF) x):∃l:List Fz,wkA x=.sl (Zd l) .an:=by
 obtain⟨l,hl⟩:=zdz h;exact⟨l,by simpa[wkR]using hl⟩
theorem zmo:∀(els:List (List AV)),(∀r∈els,Ok (.sl tyF) r)→∃m:List (List Fz),wkL els=Zs m
 | [],_=>⟨[],rfl⟩
 | r::els,h=>by
  obtain⟨m,hm⟩:=zmo els fun r hr=>h r (Ys _ hr);obtain⟨l,hl⟩:=zdz (h r Y9);refine⟨l::m,?_⟩;simp only[wkL,hl,hm]
  rfl
theorem zr0{P:Program}{ν:Nat→FuncId}{l l':List (Nat×AFx)}(hT:TOk P ν fun u=>l'.lookup u)(hp:Part l l')(hm:P.follows .mixedOrders=true){u:Nat}{af:AFx}{xs ys:List AV}{r:AV}
  (hu:l'.lookup u=some af) (hl:af.lent=none) (h:Za (fun u=>l.lookup u) u ys=some r) (hx:xs.map wkA=ys):Zal P (ν u) xs (·=r):=
 zyx hT hm hu hl (hp.call (by rw[hu];rfl) h) hx
end Go.Ab
section
namespace Go.Proofs.YtajopjoiaogapaaGreatDoor
open Go Go.Ab Go.RowKit
def signS:ByteArray:=⟨#[43,45,42,47,94,40,41,91,93,44,59,61]⟩
theorem signS_lt:∀(p:Nat) (h:p<signS.size),(signS[p]'h).toNat<128:=by decide
theorem sign_at(c:Nat)(hc:c<256):Zhs.contains (UInt8.ofNat c)=decide (∃p,∃h:p<signS.size,(signS[p]'h).toNat=c):=by
 rw[Ycf,decide_eq_true_iff];have:∀c,c<256→(Zhs.contains (UInt8.ofNat c)=true↔∃p,∃h:p<signS.size,(signS[p]'h).toNat=c):=by decide +kernel
 exact this c hc
set_option maxHeartbeats 1000000 in
set_option maxRecDepth 100000 in
theorem sign_calls(c:Nat)(hc:c<256)(w:World):Calls Tryz.prog 154 #[.int .u8 (c:Int)] w fun e w'=>e=.returned (.bool (Zhs.contains (UInt8.ofNat c)))∧Below w.heap.size w w':=by
 rw[sign_at c hc]
 go_enter Tryz.func154,Tryz.ntmps154
 go_wp2
 go_loopw [] (fun wr=>∃pos:Nat,wr.heap[w.heap.size]? = some (.stringIter signS pos)∧Below w.heap.size w wr∧∀j,j<pos→∀h:j<signS.size,(signS[j]'h).toNat≠c) (fun wr=>signS.size-wr.iterPos w.heap.size)
 case atStart=>
  refine⟨0,World.iter_heap w signS 0,?_,fun j hj=>absurd hj (Nat.not_lt_zero _)⟩;exact(Below.refl _ w).alloc (Ye _) _
 case round=>
  obtain⟨pos,hit,hbw,hne⟩:=hrel;by_cases hp:pos<signS.size
  ·have hnx:∀ty,(Instr.next (.pointer (some ⟨w.heap.size,0,none⟩)) true ty).run Tryz.prog wr=_:=fun ty=>Lib.run_next_ascii_at wr w.heap.size signS pos ty hit hp (signS_lt pos hp);have hit2:=Lib.iterAt_heap wr w.heap.size signS pos (pos+1) hit;have hbw2:=Lib.below_iterAt hbw (k:=w.heap.size) (Ye _) signS (pos+1);obtain⟨x,hx⟩:∃x:Nat,(signS[pos]'hp).toNat=x:=⟨_,rfl⟩;have hx1:=signS_lt pos hp;rw[hx]at hnx hx1;have hwr:IntKind.u8.wrap (x:Int)=(x:Int):=by rw[IntKind.wrap_u8];omega
   by_cases hxc:x=c
   ·subst hxc
    go_wp2
    go_ret
    exact⟨by rw[decide_eq_true ⟨pos,hp,hx⟩];rfl,hbw2⟩
   ·have hxc':¬ (x:Int)=(c:Int):=by omega
    go_wp2
    go_roundw
    case rel=>
     refine⟨pos+1,hit2,hbw2,fun j hj h=>?_⟩;rcases Yt j pos with h1 | h1
     ·exact hne j h1 h
     ·obtain rfl:j=pos:=by omega
      rw[hx];exact hxc
    case measure=>
     simp only[World.iterPos,hit2,hit];omega
  ·have hnx:∀ty,(Instr.next (.pointer (some ⟨w.heap.size,0,none⟩)) true ty).run Tryz.prog wr=_:=fun ty=>Lib.run_next_end_at wr w.heap.size signS pos ty hit hp
   go_wp2
   go_ret
   have hno:¬ ∃p,∃h:p<signS.size,(signS[p]'h).toNat=c:=by
    rintro⟨p,h,hpc⟩
    exact hne p (by omega) h hpc
   exact⟨by rw[decide_eq_false hno];rfl,hbw⟩
theorem sign_ok:∀xs r,prim187 xs=some r→Zal Tryz.prog (nu 187) xs (·=r):=by
 have e:nu 187=154:=by kernel_rfl
 rw[e];intro xs r h;unfold prim187 at h;split at h
 ·rename_i n;split at h
  ·rename_i hn;cases h;refine⟨enters_of Tryz.func154 (by kernel_rfl) rfl,fun w S cargs hsz hC hS=>?_⟩;obtain⟨v0,rfl⟩:=one_arg hsz;have c0:v0=.int .u8 n:=by
    have:=hC 0 _ _ rfl rfl;cases this
    rfl
   subst c0;obtain⟨c,rfl⟩:∃c:Nat,n=c:=⟨n.toNat,by omega⟩;refine(sign_calls c (by omega) w).mono ?_
   rintro e w' ⟨rfl,hb⟩
   refine⟨_,_,rfl,?_,hb,.b _⟩;rw[Ycd]
   rfl
  ·cases h
 ·cases h
abbrev tyW:Ty:=.cons (.int .i64) (.cons .str (.cons (.int .i64) .nil))
end Go.Proofs.YtajopjoiaogapaaGreatDoor
end
namespace Go.Ab
class Zmv (T:Tbl):Prop where
theorem cop2{X:Nat}(h:X%2=1)(k:Nat):Nat.Coprime (2^k) X:=by
 refine Nat.Coprime.pow_left k ?_;unfold Nat.Coprime;rw[Yer,h]
 rfl
theorem ziu{k m Y:Nat}(hY:Y%2=1):Nat.gcd (2^k*m) Y=Nat.gcd m Y:=Nat.Coprime.gcd_mul_left_cancel m (cop2 hY k)
theorem z43{m n X Y:Nat}(hX:X%2=1)(hY:Y%2=1):Nat.gcd (2^m*X) (2^n*Y)=2^(min m n)*Nat.gcd X Y:=by
 rcases Nat.le_total m n with h | h
 ·rw[Ych h,show n=m+(n-m) by omega,Ybb,Y3,Nat.gcd_mul_left,Yb9 X,ziu hX,Yb9 Y]
 ·rw[Nat.min_eq_right h,show m=n+(m-n) by omega,Ybb,Y3,Nat.gcd_mul_left,ziu hY]
theorem zq3{X Y k m:Nat}(hY:Y%2=1)(h:Y≤X)(e:X-Y=2^k*m):Nat.gcd m Y=Nat.gcd X Y:=by
 rw[←ziu hY (k:=k),←e,Nat.gcd_sub_self_left h]
theorem z0p{n:Nat}(h:n≠0):∃k m,n=2^k*m∧m%2=1:=by
 induction n using Nat.strongRecOn with
 | _ n ih=>
  by_cases h2:n%2=1
  ·exact⟨0,n,by simp,h2⟩
  ·obtain⟨k,m,e,hm⟩:=ih (n/2) (by omega) (by omega);refine⟨k+1,m,?_,hm⟩;rw[Y4,Yaf (2^k),Y3,←e];omega
section
variable{T:Tbl}
theorem zi1(G:Nat):∀y:Nat×Nat,(y.1<18446744073709551616∧y.2<18446744073709551616∧Nat.gcd y.1 y.2=G) →
  Zj T 0 0 (.norm false [0]) l198_0 ⟨[(0,u64 y.1),(1,u64 y.2)],[],2⟩=some (.n,⟨[(0,u64 G)],[],2⟩):=by
 refine zav (fun y:Nat×Nat=>⟨[(0,u64 y.1),(1,u64 y.2)],[],2⟩) _ (fun y=>y.2) _ ?_
 rintro⟨x,y⟩ ⟨hx,hy,hG⟩
 simp only at hx hy hG ⊢;by_cases h:y=0
 ·right;subst h;rw[Ydy]at hG;subst hG;constructor<;>simp -implicitDefEqProofs[l198_0]
 ·left;have hm:=Yaz x (Ya7 h);refine⟨(y,x%y),⟨hy,by simp only;omega,by simp only;rw[←hG,Yb9 y,←Yer,Yb9]⟩,hm,?_,trivial⟩;simp -implicitDefEqProofs[l198_0,h]
end
section
variable{T:Tbl}[Zg T]
theorem zmp(x y:Nat)(hx:x<18446744073709551616)(hy:y<18446744073709551616):Za T 198 [u64 x,u64 y]=some (u64 (Nat.gcd x y)):=by
 have h:=zi1 (T:=T) (Nat.gcd x y) (x,y) ⟨hx,hy,rfl⟩;simp only at h;rw[zab Zg.h198 rfl,b198];simp -implicitDefEqProofs[h]
theorem zr2(a:List UInt32):Za T 200 [.sl (Zb (ofN (val a))) .an]=some (.b (decide (val a=1))):=by
 rw[zab Zg.h200 rfl,b200];generalize val a=n;by_cases h0:n=0
 ·subst h0;simp -implicitDefEqProofs
 ·rw[zgi h0];by_cases h1:n/4294967296=0
  ·have e:ofN (n/4294967296)=[]:=zas.2 h1;have e2:n%4294967296=n:=Yh (by omega);simp -implicitDefEqProofs[e,Zb,zb1,e2]
  ·have h2:¬ ofN (n/4294967296)=[]:=fun e=>h1 (zas.1 e);have h3:¬ n=1:=by rintro rfl;simp at h1
   have h4:¬ ((ofN (n/4294967296)).length:Int)+1=1:=by
    have:=Ybp.2 h2;omega
   simp -implicitDefEqProofs[Zb,h3,h4]
end
section
variable{T:Tbl}[Zq T][Zv T][Zy T][Zr T][Zn T][Zg T]
theorem zy0(G:Nat):∀y:List UInt32×List UInt32,(y.1.length≤90000∧y.2.length≤90000∧(∃n,y.1=ofN n)∧(∃n,y.2=ofN n)∧Nat.gcd (val y.1) (val y.2)=G) →
  ∃r,(∃a b:List UInt32,r=(Ex.n,(⟨[(0,.sl (Zb a) .an),(1,.sl (Zb b) .an)],[],2⟩:St))∧a.length≤90000∧b.length≤2∧(∃n,a=ofN n)∧(∃n,b=ofN n)∧Nat.gcd (val a) (val b)=G) ∧
   Zj T 0 0 (.norm false [0,1]) l199_0 ⟨[(0,.sl (Zb y.1) .an),(1,.sl (Zb y.2) .an)],[],2⟩=some r:=by
 refine zar (fun y:List UInt32×List UInt32=>⟨[(0,.sl (Zb y.1) .an),(1,.sl (Zb y.2) .an)],[],2⟩) _ (fun y=>val y.2) _ ?_
 rintro⟨a,b⟩ ⟨ha,hb,hk,hn,hG⟩
 simp only at ha hb hk hn hG ⊢;by_cases h:2<b.length
 ·left;have h':(2:Int)<b.length:=by omega
  have hv:val b≠0:=by
   obtain⟨n,rfl⟩:=hn;rw[zae]
   rintro rfl
   simp at h
  have hd:=zfr (T:=T) a b ha hb;rw[if_neg hv]at hd;have hm:=Yaz (val a) (Ya7 hv);refine⟨(b,ofN (val a%val b)),⟨hb,?_,hn,⟨_,rfl⟩,?_⟩,?_,?_⟩
  ·have:=zat (Yda hm);have:=zad b;simp only;omega
  ·simp only;rw[zae,←hG,Yb9 (val b),←Yer,Yb9]
  ·simp only[zae];exact hm
  ·clear hG hm hn hv hk;simp -implicitDefEqProofs[l199_0,h',hd]
 ·right;have h':¬ (2:Int)<b.length:=by omega
  refine⟨_,⟨a,b,rfl,ha,by omega,hk,hn,hG⟩,?_,?_⟩<;>clear hG<;>simp -implicitDefEqProofs[l199_0,h']
theorem zon(a b:List UInt32)(ha:a.length≤90000)(hb:b.length≤90000):Za T 199 [.sl (Zb a) .an,.sl (Zb b) .an]=some (.sl (Zb (ofN (Nat.gcd (val a) (val b)))) .an):=by
 have h1:=zbh (T:=T) a (by omega);have h2:=zbh (T:=T) b (by omega);have la:=zad a;have lb:=zad b;obtain⟨G,hG⟩:∃G,G=Nat.gcd (val a) (val b):=⟨_,rfl⟩;obtain⟨_,⟨x,y,rfl,hx,hy,⟨m,rfl⟩,⟨n,rfl⟩,hg⟩,hr⟩:=zy0 (T:=T) G (ofN (val a),ofN (val b)) ⟨by simp only;omega,by simp only;omega,⟨_,rfl⟩,⟨_,rfl⟩,by simp only[zae];exact hG.symm⟩;simp only at hr;rw[zae,zae]at hg;rw[zab Zg.h199 rfl,b199,←hG];clear hG;by_cases h0:n=0
 ·subst h0;rw[Ydy]at hg;subst hg;simp -implicitDefEqProofs[h1,h2,hr]
 ·have hv:val (ofN n)≠0:=by rw[zae];exact h0
  have hd:=zfr (T:=T) (ofN m) (ofN n) hx (by omega);rw[if_neg hv,zae,zae]at hd;have hn64:n<18446744073709551616:=by
   have:=za0 (ofN n);rw[zae]at this;exact Yp this (Yk (by decide) hy)
  have hm:=Yaz m (Ya7 h0);have s1:=zmz (T:=T) (ofN n) (by omega);rw[zae,if_pos hn64]at s1;have s2:=zmz (T:=T) (ofN (m%n)) (by have:=zat (Yda hm);omega);rw[zae,if_pos (by omega)]at s2;have s3:=zmp (T:=T) n (m%n) hn64 (by omega);have e:Nat.gcd n (m%n)=G:=by rw[←hg,Yb9 n,←Yer,Yb9]
  rw[e]at s3;have s4:=zeq (T:=T) G (by
   rw[←hg];exact Ycl (Nat.gcd_le_right _ (Ya7 h0)) hn64)
  have hl:¬ ofN n=[]:=fun e=>h0 (zas.1 e);simp -implicitDefEqProofs[h1,h2,hr,hd,s1,s2,s3,s4,hl,h0]
theorem zi2(a b:List UInt32)(ha:a.length≤90000)(hb:b.length≤90000):Za T 201 [.sl (Zb a) .an,.sl (Zb b) .an] =
  some (.tup [.sl (Zb (ofN (val a/Nat.gcd (val a) (val b)))) .an,.sl (Zb (ofN (val b/Nat.gcd (val a) (val b)))) .an]):=by
 have hg:=zon (T:=T) a b ha hb;have ho:=zr2 (T:=T) (ofN (Nat.gcd (val a) (val b)));rw[zae]at ho;have ll:(ofN (Nat.gcd (val a) (val b))).length≤90000:=by
  by_cases h:val a=0
  ·rw[h,Nat.gcd_zero_left];have:=zad b;omega
  ·have:=zat (Nat.gcd_le_left (val b) (Ya7 h));have:=zad a;omega
 have d1:=zfr (T:=T) a (ofN (Nat.gcd (val a) (val b))) ha ll;have d2:=zfr (T:=T) b (ofN (Nat.gcd (val a) (val b))) hb ll;have n1:=zbh (T:=T) a (by omega);have n2:=zbh (T:=T) b (by omega);rw[zae]at d1 d2;rw[zab Zg.h201 rfl,b201];by_cases h0:Nat.gcd (val a) (val b)=0
 ·rw[h0]at hg ⊢;simp only[zlb]at hg;simp -implicitDefEqProofs[hg]
 ·rw[if_neg h0]at d1 d2;have hl:¬ ofN (Nat.gcd (val a) (val b))=[]:=fun e=>h0 (zas.1 e);by_cases h1:Nat.gcd (val a) (val b)=1
  ·rw[h1]at hg ho hl ⊢;simp -implicitDefEqProofs[hg,ho,n1,n2,hl]
  ·generalize Nat.gcd (val a) (val b)=g at *
   simp -implicitDefEqProofs[hg,ho,d1,d2,hl,h0,h1]
end
section
variable{T:Tbl}[Zf T]
theorem zbb(n:Bool)(k:Nat):Za T 55 [.b n,.sl (Zb (ofN k)) .an]=some (ez (sg n k)):=by
 rw[zab Zf.h55 rfl,b55,z41];have h:(0<(ofN k).length)=(k≠0):=by
  rw[eq_iff_iff,Ybp];exact not_congr zas
 cases n<;>simp -implicitDefEqProofs[h]
end
section
variable{T:Tbl}[Zq T][Zf T]
theorem zs5(n:Bool)(a:List UInt32)(ha:a.length≤1000000):Za T 38 [wh n a]=some (ez (wv n a)):=by
 have h:=zbh (T:=T) a (by omega);have hs:=zbb (T:=T) n (val a);rw[zab Zf.h38 rfl,b38];simp -implicitDefEqProofs[h,hs,wv]
end
section
variable{T:Tbl}[Zq T][Zf T]
theorem zxl(n:Bool)(a:List UInt32)(ha:a.length≤1000000):Za T 40 [wh n a]=some (ez (-wv n a)):=by
 have h:=zbh (T:=T) a (by omega);have hs:=zbb (T:=T) (!n) (val a);rw[z93]at hs;rw[zab Zf.h40 rfl,b40];simp -implicitDefEqProofs[h,hs,wv]
end
section
variable{T:Tbl}[Zq T][Zf T]
theorem zj5(n m:Bool)(a b:List UInt32)(ha:a.length≤90000)(hb:b.length≤90000):Za T 23 [wh n a,wh m b]=some (ez (wv n a+wv m b)):=by
 rw[zab Zf.h23 rfl,b23];by_cases h:n=m
 ·subst h;have hn:=zqr (T:=T) [a,b] (by simp) (by simp;omega);have hs:=zbb (T:=T) n (val a+val b);rw[zir]at hs;have e:lls [a,b]=[[.sl (Zb a) .an],[.sl (Zb b) .an]]:=rfl;have e2:Zd7 [a,b]=val a+val b:=by simp[Zd7]
  rw[e,e2]at hn;simp -implicitDefEqProofs[hn,hs,wv]
 ·have hg:=z3k (T:=T) a b (by omega) (by omega);by_cases hlt:val a<val b
  ·have hs:=zbb (T:=T) m (val b-val a);rw[znr h hlt]at hs;simp -implicitDefEqProofs[h,hg,hlt,zcp,hs,wv]
  ·have hs:=zbb (T:=T) n (val a-val b);rw[zns h hlt]at hs;simp -implicitDefEqProofs[h,hg,hlt,zcp,hs,wv]
end
section
variable{T:Tbl}[Zq T][Zf T]
theorem zs6(n m:Bool)(a b:List UInt32)(ha:a.length≤90000)(hb:b.length≤90000):Za T 25 [wh n a,wh m b]=some (ez (wv n a-wv m b)):=by
 obtain⟨z,hz⟩:∃z,z=-wv m b:=⟨_,rfl⟩;have h1:=zxl (T:=T) m b (by omega);have hl:=zcf m b;rw[←zis,←hz]at hl;have h2:=zj5 (T:=T) n (decide (z<0)) a (ofN z.natAbs) (by omega) (by omega);have e:wv n a-wv m b=wv n a+z:=by omega
 rw[zi6,←e]at h2;rw[←hz]at h1;rw[zab Zf.h25 rfl,b25];simp -implicitDefEqProofs[h1,h2]
end
section
variable{T:Tbl}[Zv T][Zf T]
theorem znl(n m:Bool)(a b:List UInt32)(ha:a.length≤100000)(hb:b.length≤100000):Za T 27 [wh n a,wh m b]=some (ez (wv n a*wv m b)):=by
 have h1:=zfq (T:=T) a b ha hb;have hs:=zbb (T:=T) (n != m) (val a*val b);rw[z1m]at hs;rw[zab Zf.h27 rfl,b27];simp -implicitDefEqProofs[h1,hs,wv]
end
section
variable{T:Tbl}[Zq T][Zf T]
theorem zs7(n:Bool)(a:List UInt32)(ha:a.length≤1000000):Za T 37 [wh n a]=some (.i .i64 (sgI (wv n a))):=by
 have h1:=zky (T:=T) a (by omega);rw[zab Zf.h37 rfl,b37];unfold wv;rw[z94];by_cases h:val a=0
 ·simp -implicitDefEqProofs[h1,h]
 ·cases n<;>simp -implicitDefEqProofs[h1,h]
end
section
variable{T:Tbl}[Zq T][Zf T]
theorem zs8(n m:Bool)(a b:List UInt32)(ha:a.length≤90000)(hb:b.length≤90000):Za T 36 [wh n a,wh m b]=some (.i .i64 (sgI (wv n a-wv m b))):=by
 have h1:=zs6 (T:=T) n m a b ha hb;have hl:=zbw (x:=wv n a) (y:=-wv m b) (L:=90000) (by have:=zcf n a;omega) (by rw[zis];have:=zcf m b;omega);rw[←Int.sub_eq_add_neg]at hl;have h2:=zs7 (T:=T) (decide (wv n a-wv m b<0)) (ofN (wv n a-wv m b).natAbs) (show (ofN (wv n a-wv m b).natAbs).length≤1000000 by omega);rw[zi6]at h2;rw[zab Zf.h36 rfl,b36];simp -implicitDefEqProofs[h1,h2]
end
section
variable{T:Tbl}[Zq T][Zf T]
theorem z0k(k:Int)(h1:-9223372036854775808≤k)(h2:k<9223372036854775808):Za T 41 [.i .i64 k]=some (ez k):=by
 rw[zab Zf.h41 rfl,b41];by_cases h:k<0
 ·have hn:=zeq (T:=T) k.natAbs (by omega);have hs:=zbb (T:=T) true k.natAbs;have e:sg true k.natAbs=k:=by simp[sg];omega
  have e2:Zd2 0 (k%18446744073709551616).toNat=k.natAbs:=by unfold Zd2;omega
  rw[e]at hs;simp -implicitDefEqProofs[h,e2,hn,hs]
 ·have hn:=zeq (T:=T) k.natAbs (by omega);have hs:=zbb (T:=T) false k.natAbs;have e:sg false k.natAbs=k:=by simp[sg];omega
  have e2:(k%18446744073709551616).toNat=k.natAbs:=by omega
  rw[e]at hs;simp -implicitDefEqProofs[h,e2,hn,hs]
end
section
variable{T:Tbl}[Zv T][Zx T][Zf T]
theorem zs9(l:List UInt8)(hl:l.length≤1000000):Za T 32 [.s l]=some (.tup (if 0≤Zcl l then [wh false [],.agg [.i .i64 1,.i .i64 0,.i .i64 0,.i .i64 (Zcl l+Zdi l)]]
  else [ez (Zbd l),.agg [.i .i64 0,.i .i64 0,.i .i64 0,.i .i64 0]])):=by
 have h1:=zu5 (T:=T) l hl;obtain⟨l',hl'⟩:∃l',l'=if l.head? = some 45 then l.tail else l:=⟨_,rfl⟩
 have hl2:l'.length≤1000000:=by
  rw[hl'];split
  ·simp;omega
  ·exact hl
 have h2:=zhy (T:=T) l' hl2;have hs:=zbb (T:=T) (l.head? = some 45) (rd l');have hm:(l.length:Int)-l'.length=Zdi l:=by
  rw[hl'];unfold Zdi;split
  ·rename_i h;cases l with
   | nil=>cases h
   | cons c r=>simp;omega
  ·omega
 unfold Zcl Zbd;rw[←hl']at h1 ⊢;have hw1:IntKind.wrap .i64 ((l.length:Int)-l'.length)=Zdi l:=by rw[hm];exact zac _ (by unfold Zdi;split<;>omega)
 rw[zab Zf.h32 rfl,b32];have hwb:Z8 l'≤60:=by
  unfold Z8;split
  ·omega
  ·exact zio 0 l' (by omega)
 by_cases h0:0≤Z8 l'
 ·have hw2:IntKind.wrap .i64 (Z8 l'+Zdi l)=Z8 l'+Zdi l:=zac _ (by unfold Zdi;split<;>omega);simp -implicitDefEqProofs[h1,h2,h0,hw1,hw2,zhw]
 ·simp -implicitDefEqProofs[h1,h2,h0,hs]
end
section
variable{T:Tbl}[Zq T][Zv T][Zy T][Zr T][Zn T][Zf T][Zg T][Zw T]
theorem zoo(p q:Int)(hp:(ofN p.natAbs).length≤90000)(hq:(ofN q.natAbs).length≤90000):Za T 23 [ez p,ez q]=some (ez (p+q)):=by
 grind[zj5,zi6]
theorem zop(p q:Int)(hp:(ofN p.natAbs).length≤90000)(hq:(ofN q.natAbs).length≤90000):Za T 36 [ez p,ez q]=some (.i .i64 (sgI (p-q))):=by
 grind[zs8,zi6]
theorem zr5{x d:Nat}(h:d≠0):decide (x/Nat.gcd x d≠0)=decide (x≠0):=by
 obtain⟨k,hk⟩:=Nat.gcd_dvd_left x d
 grind[Nat.mul_div_cancel_left,Nat.mul_eq_zero]
theorem zc0(n:Bool)(a d:List UInt32)(ha:a.length≤90000)(hd:d.length≤90000)(h:val d≠0) :
  Za T 202 [wh n a,.sl (Zb d) .an]=some (efz (fz (mkRat (wv n a) (val d)))):=by
 have e:=z96 n (val a) h
 change fz (mkRat (wv n a) (val d))=_ at e
 have hc:=zi2 (T:=T) a d ha hd;have hl:(ofN (val a/Nat.gcd (val a) (val d))).length≤1000000:=by
  have:=zat (Ybk (val a) (Nat.gcd (val a) (val d)));have:=zad a;omega
 have hn:=zs5 (T:=T) n _ hl;have e2:wv n (ofN (val a/Nat.gcd (val a) (val d)))=sg n (val a/Nat.gcd (val a) (val d)):=by unfold wv;rw[zae]
 rw[e2,z41,zr5 h]at hn;rw[e,zab Zw.h202 rfl,b202];simp -implicitDefEqProofs[hc,hn]
theorem zoq(n:Bool)(a d:List UInt32)(ha:a.length≤10000)(hd:d.length≤10000)(h:val d≠0) :
  Za T 202 [wh n a,.sl (Zb d) .an]=some (efz (fz (mkRat (wv n a) (val d)))):=zc0 (T:=T) n a d (Yc ha (by decide)) (Yc hd (by decide)) h
theorem zb5(x:Fz)(hx:fsz x≤100000):∃y:Fz,val y.2.2≠0∧fv y=fv x∧fsz y≤max 1 (fsz x)∧Za T 203 [efz x]=some (.tup [wh y.1 y.2.1,.sl (Zb y.2.2) .an]):=by
 obtain⟨n,a,d⟩:=x;have h1:=zdr (n,a,d);have h2:=zds (n,a,d);simp only at h1 h2;have hz:=zky (T:=T) d (by omega);by_cases h:val d=0
 ·refine⟨(false,[],[1]),by simp,?_,?_,?_⟩
  ·unfold fv;simp only[h,Yep]
   rfl
  ·show 1≤_;omega
  ·have ho:=zeq (T:=T) 1 (by decide);rw[ze3]at ho;rw[zab Zw.h203 rfl,b203];simp -implicitDefEqProofs[hz,h,ho]
 ·refine⟨(n,a,d),h,rfl,by omega,?_⟩;rw[zab Zw.h203 rfl,b203];simp -implicitDefEqProofs[hz,h]
theorem zor(k:Int)(h1:-9223372036854775808≤k)(h2:k<9223372036854775808):Za T 205 [.i .i64 k]=some (efz (fz (k:Rat))):=by
 have hw:=z0k (T:=T) k h1 h2;have ho:=zeq (T:=T) 1 (by decide);have e:fz (k:Rat)=(decide (k<0),ofN k.natAbs,ofN 1):=rfl;rw[e,zab Zw.h205 rfl,b205];simp -implicitDefEqProofs[hw,ho]
theorem zc1:Za T 205 [.i .i64 0]=some (efz (fz 0)):=zor 0 (by decide) (by decide)
theorem zks:Za T 205 [.i .i64 1]=some (efz (fz 1)):=zor 1 (by decide) (by decide)
theorem zr6(x:Fz)(hx:fsz x≤90000):Za T 207 [efz x]=some (efz (fz (fv x))):=by
 obtain⟨⟨n,a,d⟩,h1,h2,h3,hp⟩:=zb5 (T:=T) x (by omega);have la:=zdr (n,a,d);have ld:=zds (n,a,d);simp only at la ld;have hc:=zc0 (T:=T) n a d (by omega) (by omega) h1;rw[←h2]
 change _=some (efz (fz (mkRat (wv n a) (val d))))
 rw[zab Zw.h207 rfl,b207];simp -implicitDefEqProofs[hp,hc]
theorem zu9(x:Fz)(hx:fsz x≤10000):Za T 207 [efz x]=some (efz (fz (fv x))):=zr6 (T:=T) x (Yc hx (by decide))
theorem zdp(n:Bool)(a d:List UInt32)(ha:a.length≤90000)(hd:d.length≤90000):Za T 210 [wh n a,.sl (Zb d) .an]=some (ez (wv n a*(val d:Int))):=by
 have hm:=znl (T:=T) n false a d (by omega) (by omega);rw[show wv false d=(val d:Int) from rfl]at hm;rw[zab Zw.h210 rfl,b210];simp -implicitDefEqProofs[hm]
theorem zva(x x':Fz)(hx:fsz x≤30000)(hx':fsz x'≤30000):Za T 211 [efz x,efz x']=some (.i .i64 (sgQ (fv x-fv x'))):=by
 obtain⟨⟨n,a,d⟩,h1,h2,h3,hp⟩:=zb5 (T:=T) x (by omega);obtain⟨⟨m,b,e⟩,h1',h2',h3',hp'⟩:=zb5 (T:=T) x' (by omega);have la:=zdr (n,a,d);have ld:=zds (n,a,d);have lb:=zdr (m,b,e);have le:=zds (m,b,e);simp only at la ld lb le;have c1:=zdp (T:=T) n a e (by omega) (by omega);have c2:=zdp (T:=T) m b d (by omega) (by omega);have l1:(ofN (wv n a*(val e:Int)).natAbs).length≤60000:=by
  have:=zbi (x:=wv n a) (y:=(val e:Int)) (L:=30000) (M:=30000) (Yc (zcf n a) (by omega)) (Yc (zcf false e) (by omega));omega
 have l2:(ofN (wv m b*(val d:Int)).natAbs).length≤60000:=by
  have:=zbi (x:=wv m b) (y:=(val d:Int)) (L:=30000) (M:=30000) (Yc (zcf m b) (by omega)) (Yc (zcf false d) (by omega));omega
 have e1:sgQ (fv x-fv x')=sgI (wv n a*(val e:Int)-wv m b*(val d:Int)):=by
  rw[←h2,←h2',Rat.sub_eq_add_neg];unfold fv;rw[Rat.neg_mkRat,Ydn _ _ h1 h1',z97 (Ydo h1 h1'),Int.neg_mul]
  rfl
 generalize wv n a*(val e:Int)=z1 at *
 generalize wv m b*(val d:Int)=z2 at *
 have c3:=zop (T:=T) z1 z2 (by omega) (by omega);rw[e1,zab Zw.h211 rfl,b211];simp -implicitDefEqProofs[hp,hp',c1,c2,c3]
theorem zjo(x x':Fz)(hx:fsz x≤30000)(hx':fsz x'≤30000):Za T 212 [efz x,efz x']=some (.b (decide (fv x=fv x'))):=by
 have hc:=zva (T:=T) x x' hx hx';have e:(sgQ (fv x-fv x') == 0)=decide (fv x=fv x'):=by
  grind[z0n]
 rw[zab Zw.h212 rfl,b212];simp -implicitDefEqProofs[hc,e]
theorem zhz(x x':Fz)(hx:fsz x≤1000)(hx':fsz x'≤1000):Za T 212 [efz x,efz x']=some (.b (decide (fv x=fv x'))):=zjo (T:=T) x x' (Yc hx (by decide)) (Yc hx' (by decide))
theorem zh0(x x':Fz)(hx:fsz x≤30000)(hx':fsz x'≤30000):Za T 215 [efz x,efz x']=some (efz (fz (fv x+fv x'))):=by
 obtain⟨⟨n,a,d⟩,h1,h2,h3,hp⟩:=zb5 (T:=T) x (by omega);obtain⟨⟨m,b,e⟩,h1',h2',h3',hp'⟩:=zb5 (T:=T) x' (by omega);have la:=zdr (n,a,d);have ld:=zds (n,a,d);have lb:=zdr (m,b,e);have le:=zds (m,b,e);simp only at la ld lb le;have c1:=zdp (T:=T) n a e (by omega) (by omega);have c2:=zdp (T:=T) m b d (by omega) (by omega);have c4:=zfq (T:=T) d e (by omega) (by omega);have l1:(ofN (wv n a*(val e:Int)).natAbs).length≤60000:=by
  have:=zbi (x:=wv n a) (y:=(val e:Int)) (L:=30000) (M:=30000) (Yc (zcf n a) (by omega)) (Yc (zcf false e) (by omega));omega
 have l2:(ofN (wv m b*(val d:Int)).natAbs).length≤60000:=by
  have:=zbi (x:=wv m b) (y:=(val d:Int)) (L:=30000) (M:=30000) (Yc (zcf m b) (by omega)) (Yc (zcf false d) (by omega));omega
 have l3:(ofN (val d*val e)).length≤60000:=by
  have:=za7 (x:=val d) (y:=val e) (L:=30000) (M:=30000) (Yc (zad d) (by omega)) (Yc (zad e) (by omega));omega
 have e1:fv x+fv x'=mkRat (wv n a*(val e:Int)+wv m b*(val d:Int)) (val d*val e):=by
  rw[←h2,←h2'];exact Ydn _ _ h1 h1'
 have hne:=Ydo h1 h1';generalize wv n a*(val e:Int)=z1 at *
 generalize wv m b*(val d:Int)=z2 at *
 generalize val d*val e=D at *
 have c3:=zoo (T:=T) z1 z2 (by omega) (by omega);have c5:=zc0 (T:=T) (decide (z1+z2<0)) (ofN (z1+z2).natAbs) (ofN D) (by have:=zbw l1 l2;omega) (by omega) (by rw[zae];omega);rw[zi6,zae,←e1]at c5;rw[zab Zw.h215 rfl,b215];simp -implicitDefEqProofs[hp,hp',c1,c2,c3,c4,c5]
theorem zy4(x x':Fz)(hx:fsz x≤1000)(hx':fsz x'≤1000):Za T 215 [efz x,efz x']=some (efz (fz (fv x+fv x'))):=zh0 (T:=T) x x' (Yc hx (by decide)) (Yc hx' (by decide))
theorem zfh(x x':Fz)(hx:fsz x≤30000)(hx':fsz x'≤30000):Za T 217 [efz x,efz x']=some (efz (fz (fv x*fv x'))):=by
 obtain⟨⟨n,a,d⟩,h1,h2,h3,hp⟩:=zb5 (T:=T) x (by omega);obtain⟨⟨m,b,e⟩,h1',h2',h3',hp'⟩:=zb5 (T:=T) x' (by omega);have la:=zdr (n,a,d);have ld:=zds (n,a,d);have lb:=zdr (m,b,e);have le:=zds (m,b,e);simp only at la ld lb le;have c3:=znl (T:=T) n m a b (by omega) (by omega);have c4:=zfq (T:=T) d e (by omega) (by omega);have l1:(ofN (wv n a*wv m b).natAbs).length≤60000:=by
  have:=zbi (x:=wv n a) (y:=wv m b) (L:=30000) (M:=30000) (Yc (zcf n a) (by omega)) (Yc (zcf m b) (by omega));omega
 have l3:(ofN (val d*val e)).length≤60000:=by
  have:=za7 (x:=val d) (y:=val e) (L:=30000) (M:=30000) (Yc (zad d) (by omega)) (Yc (zad e) (by omega));omega
 have e1:fv x*fv x'=mkRat (wv n a*wv m b) (val d*val e):=by
  rw[←h2,←h2'];exact Rat.mkRat_mul_mkRat _ _ _ _
 have hne:=Ydo h1 h1';generalize wv n a*wv m b=z at *
 generalize val d*val e=D at *
 have c5:=zc0 (T:=T) (decide (z<0)) (ofN z.natAbs) (ofN D) (by omega) (by omega) (by rw[zae];omega);rw[zi6,zae,←e1]at c5;rw[f217 _ rfl,b217];simp -implicitDefEqProofs[hp,hp',c3,c4,c5]
end
def nrm(l:List Fz):List Fz:=l.map fun x=>fz (fv x)
def fzs(l:List Rat):List Fz:=l.map fz
theorem zfu{m:List Fz}{n:Nat}(h:m.length=n)(x:Fz):wkL (Zd (List.take n m)++[Zbg x])=Zd (m++[x]):=by
 rw[Yb (by omega),zit,zc8]
theorem zk7{α β:Type}(l:List α)(f:α→β){i:Nat}(h:i<l.length):(l.take (i+1)).map f=(l.take i).map f++[f (l[i]'h)]:=by
 grind[List.take_succ_eq_append_getElem]
@[simp] theorem z9u:Zae []=[]:=rfl
def Zmw(q:Rat):List UInt8:=if q.den=1 then Zmx q.num else Zmx q.num++47::Zhr q.den
section
variable{T:Tbl}[Zq T][Zv T][Zy T][Zr T][Zn T][Zbc T][Zf T][Zg T][Zw T][Zam T][Zcs T]
def Zrv(n i:Nat):St:=⟨[(3,.bs (.loc 9) 1 3 0 n),(10,.i .i64 n),(11,.i .i64 i)],[(.loc 9,⟨1,.own,3,Zd (List.replicate i (fz 0))++List.replicate (n-i) [.b false,.sl [] .an,.sl [] .an]⟩)],3⟩
def Zrw(l:List Fz)(i:Nat):St:=⟨[(3,.bs (.loc 3) 1 3 0 i),(6,.sl (Zd l) .an),(7,.i .i64 l.length),(8,.i .i64 i)],[(.loc 3,⟨1,.own,3,Zd (nrm (l.take i))⟩)],3⟩
def scl(c:Rat)(l:List Fz):List Fz:=l.map fun x=>fz (c*fv x)
def Zrx(c:Fz)(l:List Fz)(i:Nat):St:=⟨[(2,.ptr (.loc 2) 1 3 0 0),(5,.bs (.loc 5) 2 3 0 i),(8,.sl (Zd l) .an),(9,.i .i64 l.length),(10,.i .i64 i)],[(.loc 2,⟨1,.str,3,[Zbg c]⟩),(.loc 5,⟨2,.own,3,Zd (scl (fv c) (l.take i))⟩)],4⟩
def Zb9:List Fz→List Fz→Rat
 | x::a,y::b=>fv x*fv y+Zb9 a b
 | _,_=>0
def Zdm(a b:List Fz)(i:Nat):Rat:=Zb9 (a.take i) (b.take i)
theorem znh:∀(a b:List Fz) (x y:Fz),a.length=b.length→Zb9 (a++[x]) (b++[y])=Zb9 a b+fv x*fv y
 | [],[],x,y,_=>by simp[Zb9,Yem,Rat.zero_add]
 | u::a,v::b,x,y,h=>by
  have ih:=znh a b x y (by simpa using h);simp only[Ybm,Zb9,ih,Rat.add_assoc]
theorem zii{a b:List Fz}(hab:a.length=b.length){i:Nat}(hi:i<a.length):Zdm a b (i+1)=Zdm a b i+fv (a[i]'hi)*fv (b[i]'(by omega)):=by
 grind[Zdm,List.take_succ_eq_append_getElem,znh]
abbrev Zd9:List AV:=[.b false,.sl [] .an,.sl [] .an]
def Zry(a b:List Fz)(i:Nat):St:=⟨[(1,.sl (Zd b) .an),(4,.ptr (.loc 4) 1 3 0 0),(6,.ptr (.loc 6) 2 3 0 0),(16,.sl (Zd a) .an),(17,.i .i64 a.length),(18,.i .i64 i)],
 [(.loc 4,⟨1,.str,3,[Zd9]⟩),(.loc 6,⟨2,.str,3,[Zbg (fz (Zdm a b i))]⟩)],4⟩
def Zrz(a b:List Fz)(i:Nat):St:=⟨[(0,.sl (Zd a) .an),(1,.sl (Zd b) .an),(12,.i .i64 a.length),(13,.i .i64 i)],[],2⟩
def Zki(l:List Fz):List (List UInt8):=l.map fun x=>Zmw (fv x)
def Zr0(l:List Fz)(i:Nat):St:=⟨[(3,.bs (.loc 3) 1 1 0 i),(6,.sl (Zd l) .an),(7,.i .i64 l.length),(8,.i .i64 i)],[(.loc 3,⟨1,.own,1,Zae (Zki (l.take i))⟩)],3⟩
end
theorem zz9{α:Type}{L acc:List α}(hl:L.length=acc.length){i:Nat}(h:i<L.length) :
  (L.take i++acc.drop i).set i (L[i]'h)=L.take (i+1)++acc.drop (i+1):=by
 rw[Y7 _ _ (by simp;omega),Yaa,Ych (by omega),Ybt,Yj (show i<acc.length by omega),Ybj,Ya8 h,Ybd]
 rfl
theorem z4j{α:Type}{L acc:List α}(hl:L.length=acc.length){i:Nat}(h:i<L.length):(L.take i++acc.drop i)[i]? = some (acc[i]'(by omega)):=by
 rw[Yl (by simp;omega),Yaa,Ych (by omega),Ybt,Yao,Yq,Ya]
theorem zwu{l:List Rat}{i:Nat}{q:Rat}(h:l[i]? = some q):(fzs l)[i]? = some (fz q):=by
 unfold fzs;rw[Ybc,h]
 rfl
theorem z4k(l:List Rat)(i:Nat)(q:Rat):(fzs l).set i (fz q)=fzs (l.set i q):=by
 unfold fzs;rw[Ycs]
@[simp] theorem zay(l:List Rat):(fzs l).length=l.length:=by simp[fzs]
def Zo8(c:Rat)(acc:List Rat)(r:List Fz):List Rat:=List.zipWith (fun q x=>q+c*fv x) acc r
def Zmh(acc:List Rat)(r:List Fz):List Rat:=List.zipWith (fun q x=>q+fv x) acc r
section
variable{T:Tbl}[Zq T][Zv T][Zy T][Zr T][Zn T][Zbc T][Zf T][Zg T][Zw T][Zam T][Zcs T]
def Zr1(k j n:Nat)(rest:List (List Fz))(r:List Fz)(L acc:List Rat)(i:Nat):St:=
 ⟨[(4,.bs (.fld (.loc 15) 3) 1 3 0 n),(17,.sl (Zs rest) .an),(18,.i .i64 k),(19,.i .i64 j),(28,.sl (Zd r) .an),(29,.i .i64 n),(30,.i .i64 i)],
  [(.fld (.loc 15) 3,⟨1,.own,3,Zd (fzs (L.take i++acc.drop i))⟩)],3⟩
def Zr2(n:Nat)(rest:List (List Fz))(acc:List Rat)(j:Nat):St:=
 ⟨[(4,.bs (.fld (.loc 15) 3) 1 3 0 n),(17,.sl (Zs rest) .an),(18,.i .i64 rest.length),(19,.i .i64 j)],[(.fld (.loc 15) 3,⟨1,.own,3,Zd (fzs ((rest.take j).foldl Zmh acc))⟩)],3⟩
end
def Znz(p:List (Fz×List Fz))(acc:List Rat):List Rat:=p.foldl (fun a q=>Zo8 (fv q.1) a q.2) acc
section
variable{T:Tbl}[Zq T][Zv T][Zy T][Zr T][Zn T][Zbc T][Zf T][Zg T][Zw T][Zam T][Zcs T]
def Zrg(C:List Fz)(k j n:Nat)(l:List (List Fz))(r:List Fz)(L acc:List Rat)(i:Nat):St:=
 ⟨[(0,.sl (Zd C) .an),(10,.bs (.fld (.loc 40) 9) 1 3 0 n),(11,.i .i64 k),(41,.sl (Zs l) .an),(42,.i .i64 j),(43,.i .i64 k),(54,.sl (Zd r) .an),(55,.i .i64 n),(56,.i .i64 i)],
  [(.fld (.loc 40) 9,⟨1,.own,3,Zd (fzs (L.take i++acc.drop i))⟩)],3⟩
def Zrh(C:List Fz)(n:Nat)(l:List (List Fz))(acc:List Rat)(k:Nat):St:=
 ⟨[(0,.sl (Zd C) .an),(10,.bs (.fld (.loc 40) 9) 1 3 0 n),(41,.sl (Zs l) .an),(42,.i .i64 l.length),(43,.i .i64 k)],[(.fld (.loc 40) 9,⟨1,.own,3,Zd (fzs (Znz ((C.zip l).take k) acc))⟩)],3⟩
def Zri(C:List Fz)(l:List (List Fz))(n i:Nat):St:=⟨[(0,.sl (Zd C) .an),(1,.sl (Zs l) .an),(2,.i .i64 n),(28,.sl (Zs l) .an),(29,.i .i64 l.length),(30,.i .i64 i)],[],2⟩
end
abbrev agS(t h:Fz)(y0 y1 f0 f1:List Fz):AV:=
 .agg [.b t.1,.sl (Zb t.2.1) .an,.sl (Zb t.2.2) .an,.b h.1,.sl (Zb h.2.1) .an,.sl (Zb h.2.2) .an,.sl (Zd y0) .an,.sl (Zd y1) .an,.sl (Zd f0) .an,.sl (Zd f1) .an]
def Zn7(l:List Fz):Rat:=l.foldl (fun p x=>p*fv x) 1
section
variable{T:Tbl}[Zq T][Zv T][Zy T][Zr T][Zn T][Zbc T][Zf T][Zg T][Zw T][Zam T][Zcs T][Zmv T]
def Zsi(l:List Fz)(i:Nat):St:=⟨[(2,.ptr (.loc 2) 1 3 0 0),(3,.ptr (.loc 3) 2 3 0 0),(7,.sl (Zd l) .an),(8,.i .i64 l.length),(9,.i .i64 i)],[(.loc 2,⟨1,.str,3,[Zd9]⟩),(.loc 3,⟨2,.str,3,[Zbg (fz (Zn7 (l.take i)))]⟩)],4⟩
def Zpi(h:Fz)(y0 y1 f0 f1:List Fz):Bool:=decide (0<fv h)&&decide (y0.length≤300)&&decide (y1.length=y0.length)&&decide (f0.length=y0.length)&&decide (f1.length=y0.length)
end
theorem zr1(a b:List AV):wkR (a++b)=wkR a++wkR b:=by rw[zkk,zkk,zkk,Yct]
abbrev tyS:Ty:=.cons tyF (.cons tyF (.cons (.sl tyF) (.cons (.sl tyF) (.cons (.sl tyF) (.cons (.sl tyF) .nil)))))
end Go.Ab
section
namespace Go.Ab
end Go.Ab
end
namespace Go.Ab
section
variable{T:Tbl}
theorem zsk(m:Nat)(hm:m%2=1)(K:Nat)(hK:2^K*m<4294967296)(hK2:K≤32):∀v:Nat,v≤K →
  Zj T 0 0 (.norm false [3]) l224_0 ⟨[(0,u32 (2^v*m)),(3,.i .i64 (K-v:Nat))],[],2⟩=some (.n,⟨[(3,.i .i64 K)],[],2⟩):=by
 refine zav (fun v:Nat=>⟨[(0,u32 (2^v*m)),(3,.i .i64 (K-v:Nat))],[],2⟩) _ (fun v=>v) _ ?_;intro v hv;cases v with
 | zero=>
  right;constructor<;>simp -implicitDefEqProofs[l224_0,hm]
 | succ v=>
  left;have hle:2^(v+1)*m≤2^K*m:=Yu _ (Yk (by decide) hv);have e:2^(v+1)*m=2^v*m*2:=by grind
  have hw:IntKind.wrap .i64 (((K-(v+1):Nat):Int)+1)=((K-v:Nat):Int):=by rw[zac _ (by omega)];omega
  refine⟨v,by omega,Yz v,?_,rfl⟩;rw[e]at hle ⊢;generalize 2^v*m=x at *
  have e1:x*2%2=0:=by omega
  have e3:x<4294967296:=by omega
  simp -implicitDefEqProofs[l224_0,e1,e3,hw]
end
section
variable{T:Tbl}[Z2 T]
theorem zo0(m K:Nat)(hm:m%2=1)(hK:2^K*m<4294967296):Za T 224 [u32 (2^K*m)]=some (.i .i64 K):=by
 have hK2:K≤32:=by
  rcases Yt 32 K with h | h
  ·have h1:2^32≤2^K:=Yk (by decide) (by omega);have h2:2^K≤2^K*m:=Yci _ (by omega);omega
  omega
 have h:=zsk (T:=T) m hm K hK hK2 K (Ye _);rw[Ybt]at h;simp only[Yw]at h;have h0:2^K*m≠0:=Ydo (by grind) (by omega);rw[f224 _ rfl,b224];simp -implicitDefEqProofs[h,h0]
end
theorem zo1{P m a S:List UInt32}{i:Nat}(hm:m.length=i)(hi:i<a.length):(P++(m++(a.drop i++S)))[P.length+i]? = some (a[i]'hi):=by
 grind
theorem zo2{P m a S:List UInt32}{i:Nat}(hm:m.length=i)(hi:i<a.length)(w:UInt32):(P++(m++(a.drop i++S))).set (P.length+i) w=P++((m++[w])++(a.drop (i+1)++S)):=by
 rw[Y7 _ _ (by omega),Yb2,Y7 _ _ (by omega),hm,Ybt,Yj hi,Ybm,Ybj];simp
section
variable{T:Tbl}
def Zhw(Q:List UInt32)(o n s i:Nat):St:=⟨[(0,.bs (.bor 0) 0 1 o n),(1,.i .i64 s),(5,.i .i64 i)],[(.bor 0,⟨0,.own,1,Zb Q⟩)],4⟩
theorem zz3(Q:List UInt32)(o n s i:Nat)(x y:UInt32)(hi:i+1<n)(hn:n≤1000000)(hs:s<32)(hx:Q[o+i]? = some x)(hy:Q[o+(i+1)]? = some y) :
  evX (orc T) T 1 l225_0 (Zhw Q o n s i)=some (.n,Zhw (Q.set (o+i) (w32 ((x.toNat+y.toNat*4294967296)/2^s%4294967296))) o n s (i+1)):=by
 have h1:(i:Int)<n:=by omega
 have h2:(i:Int)+1<n:=by omega
 have hw:IntKind.wrap .i64 ((i:Int)+1)=((i+1:Nat):Int):=zac _ (by omega);have lx:=zak x;have ly:=zak y;have m2:y.toNat*4294967296%18446744073709551616=y.toNat*4294967296:=Yh (by omega);have m3:(y.toNat*4294967296+x.toNat)%18446744073709551616=x.toNat+y.toNat*4294967296:=by grind
 have hmin:min s 64=s:=by omega
 obtain⟨b1,hgx⟩:=Yd.1 hx;unfold Zhw;simp -implicitDefEqProofs[l225_0,h1,h2,hw,hy,m2,m3,hmin,b1,hgx,zel]
theorem zz4(Q:List UInt32)(o n s i:Nat)(x:UInt32)(hi:i+1=n)(hn:n≤1000000)(hs:s<32)(hx:Q[o+i]? = some x) :
  evX (orc T) T 1 l225_0 (Zhw Q o n s i)=some (.n,Zhw (Q.set (o+i) (w32 (x.toNat/2^s%4294967296))) o n s (i+1)):=by
 have h1:(i:Int)<n:=by omega
 have h2:¬ (i:Int)+1<n:=by omega
 have hw:IntKind.wrap .i64 ((i:Int)+1)=((i+1:Nat):Int):=zac _ (by omega);have hmin:min s 64=s:=by omega
 obtain⟨b1,hgx⟩:=Yd.1 hx;unfold Zhw;simp -implicitDefEqProofs[l225_0,h1,h2,hw,hmin,b1,hgx,zel]
theorem z4a(P a S:List UInt32)(s:Nat)(hs:s<32)(hl:a.length≤1000000):∀y:Nat×List UInt32,
  (y.1≤a.length∧y.2.length=y.1∧val y.2+4294967296^y.1*(val (a.drop y.1)/2^s)=val a/2^s) →
  ∃r,(∃m:List UInt32,r=(Ex.n,(⟨[(0,.bs (.bor 0) 0 1 P.length a.length)],[(.bor 0,⟨0,.own,1,Zb (P++(m++S))⟩)],4⟩:St))∧m.length=a.length∧val m=val a/2^s) ∧
   Zj T 1 0 (.norm false [0]) l225_0 (Zhw (P++(y.2++(a.drop y.1++S))) P.length a.length s y.1)=some r:=by
 refine zar (fun y:Nat×List UInt32=>Zhw (P++(y.2++(a.drop y.1++S))) P.length a.length s y.1) _ (fun y=>a.length-y.1) _ ?_
 rintro⟨i,m⟩ ⟨hi,hm,hv⟩
 by_cases h0:i<a.length
 ·left;have hx:=zak (a[i]'h0);have hd:=Yj h0;have fin:∀y R:Nat,val (a.drop (i+1))=y+4294967296*R→val (m++[w32 (((a[i]'h0).toNat+y*4294967296)/2^s%4294967296)])+4294967296^(i+1)*(val (a.drop (i+1))/2^s)=val a/2^s:=by
   intro y R hR;have hdw:=zno (x:=(a[i]'h0).toNat) (y:=y) (R:=R) hs hx
   grind[zal,zai,za5,zah]
  by_cases h1:i+1<a.length
  ·have hd1:=Yj h1;refine⟨(i+1,m++[w32 (((a[i]'h0).toNat+(a[i+1]'h1).toNat*4294967296)/2^s%4294967296)]),⟨h0,by grind,fin _ (val (a.drop (i+1+1))) (by rw[hd1,zal])⟩,by omega,?_⟩
   grind[zz3,zo1,zo2]
  ·have f0:=fin 0 0 (by rw[Yat (by omega),za5,Yac]);rw[Yc9,Yq]at f0;refine⟨(i+1,m++[w32 ((a[i]'h0).toNat/2^s%4294967296)]),⟨h0,by grind,f0⟩,by omega,?_⟩
   grind[zz4,zo1,zo2]
 ·right;have:i=a.length:=by omega
  subst this;rw[Y5,za5,Nat.zero_div,Yac,Yq]at hv;refine⟨_,⟨m,rfl,hm,hv⟩,?_,?_⟩<;>simp -implicitDefEqProofs[l225_0,Zhw]
theorem zsl(P a S:List UInt32)(hl:a.length≤1000000){n:Nat}(hn:n≤a.length)(h0:∀(i:Nat) (x:UInt32),n≤i→a[i]? = some x→x.toNat=0)(h1:∀x:UInt32,0<n→a[n-1]? = some x→x.toNat≠0) :
  ∀k:Nat,(n≤k∧k≤a.length)→Zj T 1 2 (.norm false [0]) l225_1 ⟨[(0,.bs (.bor 0) 0 1 P.length k)],[(.bor 0,⟨0,.own,1,Zb (P++(a++S))⟩)],4⟩ =
   some (.n,⟨[(0,.bs (.bor 0) 0 1 P.length n)],[(.bor 0,⟨0,.own,1,Zb (P++(a++S))⟩)],4⟩):=by
 refine zav (fun k:Nat=>⟨[(0,.bs (.bor 0) 0 1 P.length k)],[(.bor 0,⟨0,.own,1,Zb (P++(a++S))⟩)],4⟩) _ (fun k=>k) _ ?_
 rintro k ⟨hk,hka⟩
 have hget:∀j,j<a.length→(P++(a++S))[P.length+j]? = a[j]? := by
  grind
 by_cases h2:k=0
 ·right;have:n=0:=by omega
  subst this;subst h2;constructor<;>simp -implicitDefEqProofs[l225_1]
 ·have hw:IntKind.wrap .i64 ((k:Int)-1)=((k-1:Nat):Int):=by rw[zac _ (by omega)];omega
  have hg:a[k-1]? = some (a[k-1]'(by omega)):=Ya _;have hq:=hget (k-1) (by omega);rw[hg]at hq;have hpos:0<k:=by omega
  have hlt:k-1<k:=by omega
  by_cases h3:k=n
  ·right;subst h3;have hx:=h1 _ hpos hg;constructor<;>simp -implicitDefEqProofs[l225_1,hpos,hw,hq,hx,hlt]
  ·left;have hx:=h0 (k-1) _ (by omega) hg;refine⟨k-1,⟨by omega,by omega⟩,hlt,?_,rfl⟩;simp -implicitDefEqProofs[l225_1,hpos,hw,hq,hx,hlt]
end
section
variable{T:Tbl}[Z2 T]
theorem zsm(P a S:List UInt32)(s:Nat)(hs:s<32)(hl:a.length≤1000000) :
  ∃S',S'.length+(ofN (val a/2^s)).length=a.length+S.length ∧
   Zbz T 225 [.bs (.bor 0) 0 1 P.length a.length,.i .i64 s] [(.bor 0,⟨0,.own,1,Zb (P++(a++S))⟩)] =
    some (.bs (.bor 0) 0 1 P.length (ofN (val a/2^s)).length,[(.bor 0,⟨0,.own,1,Zb (P++(ofN (val a/2^s)++S'))⟩)]):=by
 obtain⟨_,⟨m,rfl,hm,hv⟩,hr⟩:=z4a (T:=T) P a S s hs hl (0,[]) ⟨Yo _,rfl,by simp⟩;obtain⟨n,h1,h2,h3,h4⟩:=zfz m;have ht:=zsl (T:=T) P m S (by omega) h1 h3 h4 m.length ⟨h1,Ye _⟩;have hlen:(ofN (val a/2^s)).length=n:=by grind
 have e:P++(m++S)=P++(ofN (val a/2^s)++(m.drop n++S)):=by grind[List.take_append_drop]
 refine⟨m.drop n++S,by grind,?_⟩;rw[hlen,←e];rw[hm]at ht;unfold Zhw at hr;simp only[Yam,Yad,Yw]at hr;rw[f225 _ _ rfl,b225];simp -implicitDefEqProofs[hr,ht]
theorem zsn(Q:List UInt32)(o n j0:Nat)(hn:n≤1000000)(hj:j0<n)(hz:∀j,j<j0→∃x:UInt32,Q[o+j]? = some x∧x.toNat=0)(h1:∃x:UInt32,Q[o+j0]? = some x∧x.toNat≠0) :
  ∀j:Nat,j≤j0→Zj T 1 0 (.norm false [0,4]) l226_0 ⟨[(0,.bs (.bor 0) 0 1 (o+j) (n-j)),(4,.i .i64 (32*j:Nat))],[(.bor 0,⟨0,.own,1,Zb Q⟩)],4⟩ =
   some (.n,⟨[(0,.bs (.bor 0) 0 1 (o+j0) (n-j0)),(4,.i .i64 (32*j0:Nat))],[(.bor 0,⟨0,.own,1,Zb Q⟩)],4⟩):=by
 refine zav (fun j:Nat=>⟨[(0,.bs (.bor 0) 0 1 (o+j) (n-j)),(4,.i .i64 (32*j:Nat))],[(.bor 0,⟨0,.own,1,Zb Q⟩)],4⟩) _ (fun j=>j0-j) _ ?_;intro j hj2;have hpos:0<n-j:=by omega
 by_cases h:j=j0
 ·right;subst h;obtain⟨x,hx,hx0⟩:=h1;constructor<;>simp -implicitDefEqProofs[l226_0,hpos,hx,hx0]
 ·left;obtain⟨x,hx,hx0⟩:=hz j (by omega);have hw:IntKind.wrap .i64 (((32*j:Nat):Int)+32)=((32*(j+1):Nat):Int):=by rw[zac _ (by omega)];omega
  have e1:1<n-j:=by omega
  have e2:n-j-1=n-(j+1):=by omega
  have e3:(1:Int)≤((n-j:Nat):Int):=by omega
  refine⟨j+1,by omega,by omega,?_,rfl⟩;generalize 32*j=c at *
  rw[←Ya6,←e2];generalize n-j=k at *
  simp -implicitDefEqProofs[l226_0,hpos,hx,hx0,hw,e1,e3]
theorem znd:∀(a:List UInt32),val a≠0→∃j,∃h:j<a.length,(∀i (hi:i<j),(a[i]'(by omega)).toNat=0)∧(a[j]'h).toNat≠0∧val a=4294967296^j*val (a.drop j)
 | [],h=>by simp at h
 | x::a,h=>by
  by_cases hx:x.toNat=0
  ·have h2:val a≠0:=by
    intro e;apply h;rw[zal,hx,e]
   obtain⟨j,hj,h3,h4,h5⟩:=znd a h2;refine⟨j+1,by simpa using hj,?_,by simpa using h4,?_⟩
   ·intro i hi;cases i with
    | zero=>simpa using hx
    | succ i=>simpa using h3 i (by omega)
   ·rw[zal,hx,h5,Ydu,Y4,Y8,Yaf (4294967296^j) 4294967296,Y3]
  ·exact⟨0,by simp,fun i hi=>by omega,by simpa using hx,by simp⟩
theorem zfs(P a S:List UInt32)(hl:a.length≤100000)(h:val a≠0):∃(P' S':List UInt32) (m k:Nat),val a=2^k*m∧m%2=1∧k≤32*a.length∧(ofN m).length≤a.length∧P'.length+(ofN m).length+S'.length=P.length+a.length+S.length ∧
  Zbz T 226 [.bs (.bor 0) 0 1 P.length a.length] [(.bor 0,⟨0,.own,1,Zb (P++(a++S))⟩)] =
   some (.tup [.bs (.bor 0) 0 1 P'.length (ofN m).length,.i .i64 k],[(.bor 0,⟨0,.own,1,Zb (P'++(ofN m++S'))⟩)]):=by
 obtain⟨j,hj,hz,hne,hv⟩:=znd a h;obtain⟨s,c,hsc,hc⟩:=z0p hne;have hx:=zak (a[j]'hj);have hs:s<32:=by
  rcases Yt s 32 with h1 | h1
  ·omega
  ·have h2:2^32≤2^s:=Yk (by decide) h1;have h3:2^s≤2^s*c:=Yci _ (by omega);omega
 have hd:=Yj hj
 -- the rest is odd
 have hm:∃m,val (a.drop j)=2^s*m∧m%2=1:=by
  refine⟨c+2^(32-s)*val (a.drop (j+1)),?_,?_⟩
  ·rw[hd,zal,hsc,Yag,←Y3,←Ybb,show s+(32-s)=32 by omega]
  ·have:2^(32-s)=2*2^(31-s):=by rw[←Nat.pow_succ'];grind
   rw[this,Y3];omega
 obtain⟨m,hm1,hm2⟩:=hm;have hdiv:val (a.drop j)/2^s=m:=by grind[Nat.mul_div_cancel_left]
 have hlen:(a.drop j).length=a.length-j:=by simp
 obtain⟨S',hS',hdown⟩:=zsm (T:=T) (P++a.take j) (a.drop j) S s hs (by omega);rw[hdiv]at hS' hdown;have hPl:(P++a.take j).length=P.length+j:=by grind
 have hbox:(P++a.take j)++(a.drop j++S)=P++(a++S):=by
  grind[List.take_append_drop]
 rw[hPl,hlen,hbox]at hdown;have hml:(ofN m).length≤a.length:=by
  have h1:m≤val (a.drop j):=by rw[hm1];exact Yb4 _ (Ya0 (by decide))
  have h2:=zat h1;have h3:=zad (a.drop j);omega
 refine⟨P++a.take j,S',m,32*j+s,?_,hm2,by omega,hml,by omega,?_⟩
 ·rw[hv,hm1,zld,Ybb,Y3]
 ·have hst:=zsn (T:=T) (P++(a++S)) P.length a.length j (by omega) hj (fun i hi=>⟨_,by grind,hz i hi⟩) ⟨_,by grind,hne⟩ 0 (Yo _);have hzr:=zo0 (T:=T) c s hc (by omega);rw[←hsc]at hzr;have hg:(P++(a++S))[P.length+j]? = some (a[j]'hj):=by grind
  have hpos:0<a.length-j:=by omega
  have hw:IntKind.wrap .i64 (((32*j:Nat):Int)+s)=((32*j+s:Nat):Int):=by rw[zac _ (by omega)];omega
  simp only[Yac,Yq,Ydb,Yw]at hst;rw[hPl,f226 _ _ rfl,b226];generalize 32*j=c1 at *
  simp -implicitDefEqProofs[hst,hzr,hg,hpos,hw,hdown]
end
theorem z1f{P m a S b:List UInt32}{i c s d:Nat}(hm:m.length=i)(h0:i<a.length)(hv:val m+val (b.take i)=val (a.take i)+4294967296^i*c)(hs:s<4294967296)(h:s+(atW b i+c)=(a[i]'h0).toNat+4294967296*d) :
  val (m++[w32 s])+val (b.take (i+1))=val (a.take (i+1))+4294967296^(i+1)*d:=by
 grind[zbe,zai,zal,zah,atW]
section
variable{T:Tbl}[Z4 T][Zai T][Z1 T][Zao T][Z2 T]
def Zjz(Q R:List UInt32)(o n o2 n2 c i:Nat):St:=⟨[(0,.bs (.bor 0) 0 1 o n),(1,.bs (.bor 1) 1 1 o2 n2),(4,u64 c),(5,.i .i64 i)],[(.bor 0,⟨0,.own,1,Zb Q⟩),(.bor 1,⟨1,.own,1,Zb R⟩)],6⟩
theorem z4b(Q R b:List UInt32)(o n o2 n2 c i:Nat)(x:UInt32)(hi:i<n)(hn:n≤1000000)(hb:b.length≤1000000)(hc:c≤1)(hx:Q[o+i]? = some x)(hR:List.take n2 (List.drop o2 R)=b)(hR2:o2+n2≤R.length) :
  evX (orc T) T 2 l2097_0 (Zjz Q R o n o2 n2 c i)=some (.n,Zjz (Q.set (o+i) (w32 (if x.toNat<atW b i+c then x.toNat+4294967296-(atW b i+c) else x.toNat-(atW b i+c)))) R o n o2 n2 (if x.toNat<atW b i+c then 1 else 0) (i+1)):=by
 have h1:(i:Int)<n:=by omega
 have hw:IntKind.wrap .i64 ((i:Int)+1)=((i+1:Nat):Int):=zac _ (by omega);have cb:=zc2 (T:=T) b i hb;have lx:=zak x;have lb:=zib b i;generalize atW b i=y at *
 have m2:y%18446744073709551616=y:=Yh (by omega);have m3:(y+c)%18446744073709551616=y+c:=Yh (by omega);have m4:(x.toNat+4294967296)%18446744073709551616=x.toNat+4294967296:=Yh (by omega);obtain⟨b1,hgx⟩:=Yd.1 hx;unfold Zjz;by_cases hlt:x.toNat<y+c
 ·have hs:Zd2 (x.toNat+4294967296) (y+c)=x.toNat+4294967296-(y+c):=zec (by omega) (by omega);simp -implicitDefEqProofs[l2097_0,h1,hw,cb,m2,m3,m4,b1,hgx,hR,hR2,hlt,hs]
 ·have hs:Zd2 x.toNat (y+c)=x.toNat-(y+c):=zec (by omega) (by omega);simp -implicitDefEqProofs[l2097_0,h1,hw,cb,m2,m3,b1,hgx,hR,hR2,hlt,hs]
theorem z4c(P a S R b:List UInt32)(o2 n2:Nat)(hl:a.length≤1000000)(hb:b.length≤1000000)(hR:List.take n2 (List.drop o2 R)=b)(hR2:o2+n2≤R.length):∀y:Nat×Nat×List UInt32,
  (y.1≤a.length∧y.2.1≤1∧y.2.2.length=y.1∧val y.2.2+val (b.take y.1)=val (a.take y.1)+4294967296^y.1*y.2.1) →
  ∃r,(∃(c:Nat) (m:List UInt32),r=(Ex.n,(⟨[],[(.bor 0,⟨0,.own,1,Zb (P++(m++S))⟩),(.bor 1,⟨1,.own,1,Zb R⟩)],6⟩:St)) ∧
   m.length=a.length∧c≤1∧val m+val (b.take a.length)=val a+4294967296^a.length*c) ∧
   Zj T 2 0 (.norm false []) l2097_0 (Zjz (P++(y.2.2++(a.drop y.1++S))) R P.length a.length o2 n2 y.2.1 y.1)=some r:=by
 refine zar (fun y:Nat×Nat×List UInt32=>Zjz (P++(y.2.2++(a.drop y.1++S))) R P.length a.length o2 n2 y.2.1 y.1) _ (fun y=>a.length-y.1) _ ?_
 rintro⟨i,c,m⟩ ⟨hi,hc,hm,hv⟩
 simp only at hi hc hm hv;by_cases h0:i<a.length
 ·left;have lx:=zak (a[i]'h0);have lb:=zib b i;have hstep:=z4b (T:=T) (P++(m++(a.drop i++S))) R b P.length a.length o2 n2 c i (a[i]'h0) h0 hl hb hc (zo1 hm h0) hR hR2;rw[zo2 hm h0]at hstep;by_cases hlt:(a[i]'h0).toNat<atW b i+c
  ·rw[if_pos hlt,if_pos hlt]at hstep;exact⟨(i+1,1,m++[w32 ((a[i]'h0).toNat+4294967296-(atW b i+c))]),⟨h0,Ye _,by grind,by simp only;exact z1f (P:=P) (S:=S) hm h0 hv (by omega) (by omega)⟩,by omega,hstep⟩
  ·rw[if_neg hlt,if_neg hlt]at hstep;exact⟨(i+1,0,m++[w32 ((a[i]'h0).toNat-(atW b i+c))]),⟨h0,Yo _,by grind,by simp only;exact z1f (P:=P) (S:=S) hm h0 hv (by omega) (by omega)⟩,by omega,hstep⟩
 ·right;have:i=a.length:=by omega
  subst this;rw[Yb (Ye a.length)]at hv;refine⟨_,⟨c,m,rfl,hm,hc,hv⟩,?_,?_⟩<;>simp -implicitDefEqProofs[l2097_0,Zjz]
theorem zid(P a S P2 b S2:List UInt32)(hl:a.length≤1000000)(hb:b.length≤a.length)(hab:val b≤val a) :
  ∃m:List UInt32,m.length=a.length∧val m=val a-val b ∧
   Zbz T 2097 [.bs (.bor 0) 0 1 P.length a.length,.bs (.bor 1) 1 1 P2.length b.length] [(.bor 0,⟨0,.own,1,Zb (P++(a++S))⟩),(.bor 1,⟨1,.own,1,Zb (P2++(b++S2))⟩)] =
    some (.tup [],[(.bor 0,⟨0,.own,1,Zb (P++(m++S))⟩),(.bor 1,⟨1,.own,1,Zb (P2++(b++S2))⟩)]):=by
 obtain⟨_,⟨c,m,rfl,hm,hc,hv⟩,hr⟩:=z4c (T:=T) P a S (P2++(b++S2)) b P2.length b.length hl (by omega) (by simp) (by simp) (0,0,[]) ⟨Yo _,Yo _,rfl,by simp⟩;rw[Yb hb]at hv;have hlo:=za0 m;have hval:val m=val a-val b:=by
  rcases Yaw c with h1 | h1
  all_goals grind
 refine⟨m,hm,hval,?_⟩;unfold Zjz at hr;simp only[Yam,Yad,Yw]at hr;rw[za9 Z2.h2097 rfl,b2097];simp -implicitDefEqProofs[hr]
theorem zne(a:List UInt32):Za T 229 [.sl (Zb (ofN (val a))) .an]=some (.b (decide (val a=1))):=by
 rw[zab Z2.h229 rfl,b229];generalize val a=n;by_cases h0:n=0
 ·subst h0;simp -implicitDefEqProofs
 ·rw[zgi h0];by_cases h1:n/4294967296=0
  ·have e:ofN (n/4294967296)=[]:=zas.2 h1;have e2:n%4294967296=n:=Yh (by omega);simp -implicitDefEqProofs[e,Zb,zb1,e2]
  ·have h2:¬ ofN (n/4294967296)=[]:=fun e=>h1 (zas.1 e);have h3:¬ n=1:=by omega
   have h4:¬ ((ofN (n/4294967296)).length:Int)+1=1:=by
    have:=Ybp.2 h2;omega
   simp -implicitDefEqProofs[Zb,h3,h4]
theorem zjw(a g:List UInt32)(ha:a.length≤10000)(hg:g.length≤10000)(h0:val g≠0):Za T 230 [.sl (Zb a) .an,.sl (Zb (ofN (val g))) .an]=some (.sl (Zb (ofN (val a/val g))) .an):=by
 have ho:=zne (T:=T) g;have hn:=zbl (T:=T) a (by omega);have hd:=zwa (T:=T) a (ofN (val g)) (by omega) (by have:=zad g;omega) (by rw[zae];omega);rw[zae]at hd;rw[zab Z2.h230 rfl,b230];by_cases h1:val g=1
 ·rw[h1]at ho hd ⊢;simp -implicitDefEqProofs[ho,hn]
 ·simp -implicitDefEqProofs[ho,h1,hd]
theorem znf(a:List UInt32)(k:Nat)(ha:a.length≤10000)(hk:k≤1000000):Za T 227 [.sl (Zb a) .an,.i .i64 k]=some (.sl (Zb (ofN (2^k*val a))) .an):=by
 have hq:(k:Int).tdiv 32=(k:Int)/32:=Yb6 (by omega);have hm2:(k:Int).tmod 32=(k:Int)%32:=Yb7 (by omega);have s0:¬ (k:Int)%32<0:=by omega
 have s1:((k:Int)%32).toNat=k%32:=by omega
 have s2:min (k%32) 32=k%32:=by omega
 have w1:IntKind.wrap .i64 ((k:Int)/32)=((k/32:Nat):Int):=by rw[zac (k/32) (by omega)];omega
 have h2:2^(k%32)<4294967296:=by
  have:=Nat.pow_lt_pow_right (show 1<2 by decide) (Yaz k (show 0<32 by decide));omega
 have s3:2^(k%32)%4294967296=2^(k%32):=Yh h2;have hmul:=zdd (T:=T) (List.replicate (k/32) 0++a) [w32 (2^(k%32))] (by grind) (by simp);have hv:val (List.replicate (k/32) 0++a)*val [w32 (2^(k%32))]=2^k*val a:=by
  rw[zai,zax,Yb8,zal,za5,zah h2,Yac,Yq,Y8,zld,Yaf,←Y3,←Ybb,show k%32+32*(k/32)=k by omega]
 rw[hv]at hmul;have b2:k/32+a.length≤4294967296:=by omega
 have b3:((k/32:Nat):Int)≤4294967296:=by omega
 have hu:Zb [w32 (2^(k%32))]=[[u32 (2^(k%32))]]:=by simp[Zb,zah h2]
 rw[hu]at hmul;have ht:List.take (k/32+a.length) (List.replicate (k/32) 0++a)=List.replicate (k/32) 0++a:=Yb (by simp);rw[f227 _ rfl,b227];generalize k/32=q at *
 simp -implicitDefEqProofs[hq,hm2,w1,s0,s1,s2,s3,hmul,b2,b3,ht]
def nmX:BId:=.fld (.loc 12) 22
def nmY:BId:=.fld (.loc 14) 22
def nm2(f:Bool):BId×BId:=if f then (nmX,nmY) else (nmY,nmX)
def Zgv(f:Bool)(P a S P2 b S2:List UInt32)(m n:Nat):St:=
 ⟨[(5,.bs (nm2 f).1 1 1 P.length a.length),(6,.bs (nm2 f).2 2 1 P2.length b.length),(7,.i .i64 m),(8,.i .i64 n)],[((nm2 f).1,⟨1,.own,1,Zb (P++(a++S))⟩),((nm2 f).2,⟨2,.own,1,Zb (P2++(b++S2))⟩)],4⟩
theorem zah8(f:Bool)(P S P2 S2:List UInt32)(X Y m n:Nat)(hX:(ofN X).length≤10000)(hY:(ofN Y).length≤10000)(h:Y<X) :
  ∃(P' S':List UInt32) (k x:Nat),X-Y=2^k*x∧x%2=1 ∧
   evX (orc T) T 0 l228_0 (Zgv f P (ofN X) S P2 (ofN Y) S2 m n)=some (.n,Zgv f P' (ofN x) S' P2 (ofN Y) S2 m n):=by
 have hc:=zd3 (T:=T) (ofN X) (ofN Y) (by omega) (by omega);rw[zae,zae,show Zdf X Y=1 by unfold Zdf;omega]at hc;obtain⟨d,hd,hv,hless⟩:=zid (T:=T) P (ofN X) S P2 (ofN Y) S2 (by omega) (zat (Yda h)) (by rw[zae,zae];omega);rw[zae,zae]at hv;obtain⟨P',S',x,k,e1,e2,e3,e4,e5,hodd⟩:=zfs (T:=T) P d S (by omega) (by omega);refine⟨P',S',k,x,by omega,e2,?_⟩;have t1:List.take (ofN X).length (List.drop P.length (P++(ofN X++S)))=ofN X:=by simp
 have t2:List.take (ofN Y).length (List.drop P2.length (P2++(ofN Y++S2)))=ofN Y:=by simp
 have b1:P.length+(ofN X).length≤(P++(ofN X++S)).length:=by simp
 have b2:P2.length+(ofN Y).length≤(P2++(ofN Y++S2)).length:=by simp
 rw[hd]at hodd;unfold Zgv;cases f<;>simp -implicitDefEqProofs[l228_0,nm2,nmX,nmY,hc,hless,hodd]
theorem zah9(f:Bool)(P S P2 S2:List UInt32)(X Y m n:Nat)(hX:(ofN X).length≤10000)(hY:(ofN Y).length≤10000)(h:X<Y) :
  ∃(P' S':List UInt32) (k x:Nat),Y-X=2^k*x∧x%2=1 ∧
   evX (orc T) T 0 l228_0 (Zgv f P (ofN X) S P2 (ofN Y) S2 m n)=some (.n,Zgv (!f) P' (ofN x) S' P (ofN X) S m n):=by
 have hc:=zd3 (T:=T) (ofN X) (ofN Y) (by omega) (by omega);rw[zae,zae,show Zdf X Y=-1 by unfold Zdf;omega]at hc;obtain⟨d,hd,hv,hless⟩:=zid (T:=T) P2 (ofN Y) S2 P (ofN X) S (by omega) (zat (Yda h)) (by rw[zae,zae];omega);rw[zae,zae]at hv;obtain⟨P',S',x,k,e1,e2,e3,e4,e5,hodd⟩:=zfs (T:=T) P2 d S2 (by omega) (by omega);refine⟨P',S',k,x,by omega,e2,?_⟩;have t1:List.take (ofN X).length (List.drop P.length (P++(ofN X++S)))=ofN X:=by simp
 have t2:List.take (ofN Y).length (List.drop P2.length (P2++(ofN Y++S2)))=ofN Y:=by simp
 have b1:P.length+(ofN X).length≤(P++(ofN X++S)).length:=by simp
 have b2:P2.length+(ofN Y).length≤(P2++(ofN Y++S2)).length:=by simp
 rw[hd]at hodd;unfold Zgv;cases f<;>simp -implicitDefEqProofs[l228_0,nm2,nmX,nmY,hc,hless,hodd]
theorem zaia(f:Bool)(P S P2 S2:List UInt32)(X m n:Nat)(hX:(ofN X).length≤10000){G:Option (Ex×St)}
  (hG:G=some (.n,⟨[(5,.bs (nm2 f).1 1 1 P.length (ofN X).length),(7,.i .i64 m),(8,.i .i64 n)],[((nm2 f).1,⟨1,.own,1,Zb (P++(ofN X++S))⟩)],3⟩)) :
  Zd5 (evX (orc T) T 0 l228_0 (Zgv f P (ofN X) S P2 (ofN X) S2 m n))=true∧Zeh 0 0 (Gh.norm false [5,7,8]) (evX (orc T) T 0 l228_0 (Zgv f P (ofN X) S P2 (ofN X) S2 m n))=G:=by
 subst hG;have hc:=zd3 (T:=T) (ofN X) (ofN X) (by omega) (by omega);rw[zae,show Zdf X X=0 by grind[Zdf]]at hc;have t1:List.take (ofN X).length (List.drop P.length (P++(ofN X++S)))=ofN X:=by simp
 have t2:List.take (ofN X).length (List.drop P2.length (P2++(ofN X++S2)))=ofN X:=by simp
 have b1:P.length+(ofN X).length≤(P++(ofN X++S)).length:=by simp
 have b2:P2.length+(ofN X).length≤(P2++(ofN X++S2)).length:=by simp
 unfold Zgv;generalize P++(ofN X++S)=Q at *
 generalize P2++(ofN X++S2)=R at *
 generalize ofN X=A at *
 cases f<;>constructor<;>simp -implicitDefEqProofs[l228_0,nm2,nmX,nmY,hc,t1,t2,b1,b2]
structure Gc where
 f:Bool
 P:List UInt32
 S:List UInt32
 P2:List UInt32
 S2:List UInt32
 X:Nat
 Y:Nat
theorem z4d(G m n:Nat):∀y:Gc,((ofN y.X).length≤10000∧(ofN y.Y).length≤10000∧y.X%2=1∧y.Y%2=1∧Nat.gcd y.X y.Y=G) →
  ∃r,(∃(f:Bool) (P S:List UInt32),r=(Ex.n,(⟨[(5,.bs (nm2 f).1 1 1 P.length (ofN G).length),(7,.i .i64 m),(8,.i .i64 n)],[((nm2 f).1,⟨1,.own,1,Zb (P++(ofN G++S))⟩)],3⟩:St))) ∧
   Zj T 0 0 (.norm false [5,7,8]) l228_0 (Zgv y.f y.P (ofN y.X) y.S y.P2 (ofN y.Y) y.S2 m n)=some r:=by
 refine zar (fun y:Gc=>Zgv y.f y.P (ofN y.X) y.S y.P2 (ofN y.Y) y.S2 m n) _ (fun y=>y.X+y.Y) _ ?_
 rintro⟨f,P,S,P2,S2,X,Y⟩ ⟨hX,hY,oX,oY,hG⟩
 rcases Yce X Y with h | h | h
 ·left;obtain⟨P',S',k,x,e1,e2,he⟩:=zah9 (T:=T) f P S P2 S2 X Y m n hX hY h;have hle:x≤Y-X:=by rw[e1];exact Yb4 _ (Ya0 (by decide))
  refine⟨⟨!f,P',S',P,S,x,X⟩,⟨?_,hX,e2,oX,?_⟩,by grind,he⟩
  ·have:=zat (show x≤Y by omega)
   grind
  grind[zq3,Nat.gcd_comm]
 ·subst h;obtain⟨h1,h2⟩:=zaia (T:=T) f P S P2 S2 X m n hX rfl
  grind
 ·left;obtain⟨P',S',k,x,e1,e2,he⟩:=zah8 (T:=T) f P S P2 S2 X Y m n hX hY h;have hle:x≤X-Y:=by rw[e1];exact Yb4 _ (Ya0 (by decide))
  refine⟨⟨f,P',S',P2,S2,x,Y⟩,⟨?_,hY,e2,oY,?_⟩,by grind,he⟩
  ·have:=zat (show x≤X by omega)
   grind
  grind[zq3]
theorem zwb(a b:List UInt32)(ha:a.length≤10000)(hb:b.length≤10000):Za T 228 [.sl (Zb a) .an,.sl (Zb b) .an]=some (.sl (Zb (ofN (Nat.gcd (val a) (val b)))) .an):=by
 have n1:=zer (T:=T) a (by omega);have n2:=zer (T:=T) b (by omega);have la:=zad a;have lb:=zad b;rw[f228 _ rfl,b228];generalize val a=X at *
 generalize val b=Y at *
 have tY:List.take (ofN Y).length (ofN Y)=ofN Y:=Yb (Ye _);by_cases hX:X=0
 ·subst hX;rw[Nat.gcd_zero_left];simp -implicitDefEqProofs[n1,n2,tY]
 ·have eX:¬ ofN X=[]:=fun e=>hX (zas.1 e);by_cases hY:Y=0
  ·subst hY;rw[Ydy];simp -implicitDefEqProofs[n1,n2,eX]
  ·have eY:¬ ofN Y=[]:=fun e=>hY (zas.1 e);obtain⟨P1,S1,x,m,e1,e2,e3,e4,e5,o1⟩:=zfs (T:=T) [] (ofN X) [] (by omega) (by rw[zae];omega);obtain⟨P2,S2,y,n,g1,g2,g3,g4,g5,o2⟩:=zfs (T:=T) [] (ofN Y) [] (by omega) (by rw[zae];omega);rw[zae]at e1 g1;obtain⟨_,⟨f,P,S,rfl⟩,hl⟩:=z4d (T:=T) (Nat.gcd x y) m n ⟨true,P1,S1,P2,S2,x,y⟩ ⟨by grind,by grind,e2,g2,rfl⟩;have hG:Nat.gcd X Y=2^(min m n)*Nat.gcd x y:=by rw[e1,g1];exact z43 e2 g2
   have hgl:(ofN (Nat.gcd x y)).length≤10000:=by
    have:=zat (Nat.gcd_le_left y (show 0<x by omega));omega
   have hdb:=znf (T:=T) (ofN (Nat.gcd x y)) (min m n) hgl (by omega);rw[zae,←hG]at hdb;simp only[Yam,Ybf,Yal]at o1 o2;unfold Zgv at hl;have t1:List.take (ofN (Nat.gcd x y)).length (List.drop P.length (P++(ofN (Nat.gcd x y)++S)))=ofN (Nat.gcd x y):=by simp
   have b1:P.length+(ofN (Nat.gcd x y)).length≤(P++(ofN (Nat.gcd x y)++S)).length:=by simp
   have hmin:(if n<m then (n:Int) else (m:Int))=((min m n:Nat):Int):=by omega
   simp only[nm2,nmX,nmY,if_true]at hl;cases f<;>simp only[Yai,if_false,if_true]at hl<;>simp -implicitDefEqProofs[n1,n2,eX,eY,o1,o2,hl,hdb,hmin,mm2]
end
section
variable{T:Tbl}[Zar T]
theorem zso(n:Bool)(a:List UInt32)(ha:a.length≤1000000):Za T 39 [wh n a]=some (ez (wv n a)):=by
 have h:=zbl (T:=T) a ha;have hl:(0<(ofN (val a)).length)=(val a≠0):=by
  rw[eq_iff_iff,Ybp];exact not_congr zas
 rw[zab Zar.h39 rfl,b39];unfold wv;rw[z41];cases n<;>simp -implicitDefEqProofs[h,hl]
theorem zwc(n m:Bool)(a b:List UInt32)(ha:a.length≤10000)(hb:b.length≤10000):Za T 24 [wh n a,wh m b]=some (ez (wv n a+wv m b)):=by
 have hc:=zd3 (T:=T) a b (by omega) (by omega);rw[zab Zar.h24 rfl,b24];have fin:∀(s:Bool) (k:Nat),sg s k=wv n a+wv m b→(ofN k).length≤1000000→Za T 39 [wh s (ofN k)]=some (ez (wv n a+wv m b)):=by
  intro s k h1 h2;rw[zso (T:=T) s (ofN k) h2];have:wv s (ofN k)=sg s k:=by unfold wv;rw[zae]
  rw[this,h1]
 have hla:=zad a;have hlb:=zad b;obtain⟨z,hz⟩:∃z,z=wv n a+wv m b:=⟨_,rfl⟩;by_cases h:n=m
 ·subst h;have h1:=zna (T:=T) a b (by omega) (by omega);have h2:=fin n (val a+val b) (zir _ _ _) (by
   have:=zbw (x:=(val a:Int)) (y:=val b) (L:=10000) (by simpa using Yc hla ha) (by simpa using Yc hlb hb);have e:((val a:Int)+val b).natAbs=val a+val b:=by omega
   rw[e]at this;omega)
  rw[←hz]at h2 ⊢;simp -implicitDefEqProofs[h1,h2]
 ·by_cases hlt:val a<val b
  ·have h1:=znb (T:=T) b a (by omega) (by omega) (by omega);have h2:=fin m (val b-val a) (znr h hlt) (by have:=zat (Nat.sub_le (val b) (val a));omega);rw[←hz]at h2 ⊢;simp -implicitDefEqProofs[h,hc,zcp,hlt,h1,h2]
  ·have h1:=znb (T:=T) a b (by omega) (by omega) (by omega);have h2:=fin n (val a-val b) (zns h hlt) (by have:=zat (Nat.sub_le (val a) (val b));omega);rw[←hz]at h2 ⊢;simp -implicitDefEqProofs[h,hc,zcp,hlt,h1,h2]
end
theorem z4e(n:Bool)(x y:Nat):sg n (x*y)=sg n x*(y:Int):=by cases n<;>simp[sg,Int.neg_mul]
theorem z1g(q:Rat):val (fz q).2.2≠0:=by
 unfold fz;rw[zae];exact q.den_nz
section
variable{T:Tbl}[Z4 T][Zai T][Z1 T][Zao T][Z2 T][Zar T][Zz T]
theorem zck(x:Fz)(hx:fsz x≤10000):Za T 231 [efz x]=some (efz (fz (fv x))):=by
 obtain⟨n,a,d⟩:=x;have la:=zdr (n,a,d);have ld:=zds (n,a,d);simp only at la ld;have n1:=zbl (T:=T) a (by omega);have n2:=zbl (T:=T) d (by omega);have la2:=zad a;have ld2:=zad d;have ho:=zne (T:=T) d;have hg:=zwb (T:=T) (ofN (val a)) (ofN (val d)) (by omega) (by omega);rw[zae,zae]at hg;show _=some (efz (fz (mkRat (sg n (val a)) (val d))));by_cases hd:val d=0
 ·rw[hd,Yep,zpl,zab Zz.h231 rfl,b231];rw[hd]at n2;simp -implicitDefEqProofs[n1,n2,show Zb [1]=[[u32 1]] from rfl]
 ·by_cases ha:val a=0
  ·have e0:mkRat (sg n (val a)) (val d)=0:=by rw[Rat.mkRat_eq_zero hd,ha];cases n<;>rfl
   have ed:¬ ofN (val d)=[]:=fun e=>hd (zas.1 e);rw[e0,zpl,zab Zz.h231 rfl,b231];rw[ha]at n1;simp -implicitDefEqProofs[n1,n2,ed,show Zb [1]=[[u32 1]] from rfl]
  ·have ea:¬ ofN (val a)=[]:=fun e=>ha (zas.1 e);have ed:¬ ofN (val d)=[]:=fun e=>hd (zas.1 e);rw[z96 n (val a) hd,show decide (val a≠0)=true by grind,Yd8];have gpos:Nat.gcd (val a) (val d)≠0:=by
    grind
   have glen:(ofN (Nat.gcd (val a) (val d))).length≤10000:=by
    have:=zat (Nat.gcd_le_right (val a) (Ya7 hd));omega
   have o1:=zjw (T:=T) (ofN (val a)) (ofN (Nat.gcd (val a) (val d))) (by omega) glen (by rw[zae];omega);have o2:=zjw (T:=T) (ofN (val d)) (ofN (Nat.gcd (val a) (val d))) (by omega) glen (by rw[zae];omega);rw[zae,zae]at o1 o2;rw[zab Zz.h231 rfl,b231];by_cases h1:val d=1
   ·rw[h1]at n2 ho ed ⊢;rw[Nat.gcd_one_right,Yet,Yet];simp -implicitDefEqProofs[n1,n2,ho,ea,ed]
   ·generalize ofN (val d/Nat.gcd (val a) (val d))=D' at *
    simp -implicitDefEqProofs[n1,n2,ho,ea,ed,h1,hg,o1,o2]
theorem zqv(n:Nat)(h:n<18446744073709551616):Za T 353 [u64 n]=some (.sl (Zb (ofN n)) .an):=by
 have e2:val [w32 n,w32 (n/4294967296)]=n:=by simp[zb1];omega
 have h2:=zbl (T:=T) [w32 n,w32 (n/4294967296)] (by simp);rw[e2]at h2;have h3:n/4294967296%4294967296=n/4294967296:=Yh (by omega);have h4:n/4294967296%18446744073709551616=n/4294967296:=Yh (by omega);rw[zab Zz.h353 rfl,b353];simp -implicitDefEqProofs[h3,h4,zbg _ _ _ (show n/4294967296<4294967296 by omega),h2]
theorem zie(k:Int)(h1:-9223372036854775808≤k)(h2:k<9223372036854775808):Za T 232 [.i .i64 k]=some (efz (fz (k:Rat))):=by
 have hu:Zb [1]=[[u32 1]]:=rfl;rw[zab Zz.h232 rfl,b232];by_cases hk:k<0
 ·have w1:IntKind.wrap .i64 (k+1)=k+1:=zac _ (by omega);have w2:IntKind.wrap .i64 (-(k+1))=-(k+1):=zac _ (by omega);have w3:(-(k+1)%18446744073709551616).toNat=k.natAbs-1:=by omega
  have c1:=zqv (T:=T) (k.natAbs-1) (by omega);have c2:=zna (T:=T) (ofN (k.natAbs-1)) [1] (by have:=zag (n:=k.natAbs-1) (k:=2) (by omega);omega) (by decide);have e1:val (ofN (k.natAbs-1))+val [1]=k.natAbs:=by rw[zae];show _+(1+4294967296*0)=_;omega
  rw[e1,hu]at c2;have c3:=zck (T:=T) (true,ofN k.natAbs,[1]) (by
   have:=zag (n:=k.natAbs) (k:=2) (by omega)
   grind[fsz])
  have e2:fv (true,ofN k.natAbs,[1])=(k:Rat):=by
   unfold fv wv;simp only[zae];rw[show val [1]=1 from rfl,show sg true k.natAbs=k by unfold sg;grind];exact Rat.num_divInt_den (k:Rat)
  rw[e2]at c3
  change Za T 231 [.agg [.b true,.sl (Zb (ofN k.natAbs)) .an,.sl (Zb [1]) .an]]=_ at c3
  rw[hu]at c3;simp -implicitDefEqProofs[hk,w1,w2,w3,c1,c2,c3]
 ·have w3:(k%18446744073709551616).toNat=k.natAbs:=by omega
  have c1:=zqv (T:=T) k.natAbs (by omega);have c3:=zck (T:=T) (false,ofN k.natAbs,[1]) (by
   have:=zag (n:=k.natAbs) (k:=2) (by omega)
   grind[fsz])
  have e2:fv (false,ofN k.natAbs,[1])=(k:Rat):=by
   unfold fv wv;simp only[zae];rw[show val [1]=1 from rfl,show sg false k.natAbs=k by unfold sg;grind];exact Rat.num_divInt_den (k:Rat)
  rw[e2]at c3
  change Za T 231 [.agg [.b false,.sl (Zb (ofN k.natAbs)) .an,.sl (Zb [1]) .an]]=_ at c3
  rw[hu]at c3;simp -implicitDefEqProofs[hk,w3,c1,c3]
theorem zee:Za T 232 [.i .i64 0]=some (efz (fz 0)):=zie 0 (by decide) (by decide)
theorem zgb:Za T 232 [.i .i64 1]=some (efz (fz 1)):=zie 1 (by decide) (by decide)
theorem zb6(x y:Fz)(hx:fsz x≤10000):Za T 233 [efz x,efz y]=some (.b (decide (x=y))):=by
 obtain⟨n,a,d⟩:=x;obtain⟨m,b,e⟩:=y;have la:=zdr (n,a,d);have ld:=zds (n,a,d);simp only at la ld;have c1:=zjv (T:=T) a b (by omega);have c2:=zjv (T:=T) d e (by omega);rw[zab Zz.h233 rfl,b233];by_cases h1:n=m
 ·subst h1;by_cases h2:a=b
  ·subst h2;by_cases h3:d=e
   ·simp -implicitDefEqProofs[c1,c2]
   ·simp -implicitDefEqProofs[c1,c2,h3]
  ·simp -implicitDefEqProofs[c1,h2]
 ·simp -implicitDefEqProofs[h1]
theorem zjx(x:Fz)(k:Nat):Za T 247 [efz x,.i .i64 k]=some (.b (decide (k<fsz x))):=by
 obtain⟨n,a,d⟩:=x;unfold fsz;rw[zab Zz.h247 rfl,b247];by_cases h1:k<a.length
 ·have h3:k<max a.length d.length:=by omega
  simp -implicitDefEqProofs[h1,h3]
 ·by_cases h2:k<d.length
  ·have h3:k<max a.length d.length:=by omega
   simp -implicitDefEqProofs[h1,h2,h3]
  ·have h3:¬ k<max a.length d.length:=by omega
   simp -implicitDefEqProofs[h1,h2,h3]
theorem zwd(x y:Fz)(hx:fsz x≤1000)(hy:fsz y≤1000):Za T 241 [efz x,efz y]=some (efz (fz (fv x*fv y))):=by
 obtain⟨n,a,d⟩:=x;obtain⟨m,b,e⟩:=y;have la:=zdr (n,a,d);have ld:=zds (n,a,d);have lb:=zdr (m,b,e);have le:=zds (m,b,e);simp only at la ld lb le;have c1:=zdd (T:=T) a b (by omega) (by omega);have c2:=zdd (T:=T) d e (by omega) (by omega);have l1:(ofN (val a*val b)).length≤2000:=by
  have:=za7 (x:=val a) (y:=val b) (L:=1000) (M:=1000) (Yc (zad a) (by omega)) (Yc (zad b) (by omega));omega
 have l2:(ofN (val d*val e)).length≤2000:=by
  have:=za7 (x:=val d) (y:=val e) (L:=1000) (M:=1000) (Yc (zad d) (by omega)) (Yc (zad e) (by omega));omega
 have c3:=zck (T:=T) (n != m,ofN (val a*val b),ofN (val d*val e)) (by unfold fsz;grind);have e1:fv (n != m,ofN (val a*val b),ofN (val d*val e))=fv (n,a,d)*fv (m,b,e):=by
  grind[fv,wv,zae,z1m,Rat.mkRat_mul_mkRat]
 rw[e1]at c3;rw[zab Zz.h241 rfl,b241];simp -implicitDefEqProofs[c1,c2,c3]
theorem zwe(x y:Fz)(hx:fsz x≤1000)(hy:fsz y≤1000)(h1:val x.2.2≠0)(h2:val y.2.2≠0):Za T 239 [efz x,efz y]=some (efz (fz (fv x+fv y))):=by
 obtain⟨n,a,d⟩:=x;obtain⟨m,b,e⟩:=y;have la:=zdr (n,a,d);have ld:=zds (n,a,d);have lb:=zdr (m,b,e);have le:=zds (m,b,e);simp only at la ld lb le h1 h2;have c1:=zdd (T:=T) a e (by omega) (by omega);have c2:=zdd (T:=T) b d (by omega) (by omega);have c4:=zdd (T:=T) d e (by omega) (by omega);have l1:(ofN (val a*val e)).length≤2000:=by
  have:=za7 (x:=val a) (y:=val e) (L:=1000) (M:=1000) (Yc (zad a) (by omega)) (Yc (zad e) (by omega));omega
 have l2:(ofN (val b*val d)).length≤2000:=by
  have:=za7 (x:=val b) (y:=val d) (L:=1000) (M:=1000) (Yc (zad b) (by omega)) (Yc (zad d) (by omega));omega
 have l4:(ofN (val d*val e)).length≤2000:=by
  have:=za7 (x:=val d) (y:=val e) (L:=1000) (M:=1000) (Yc (zad d) (by omega)) (Yc (zad e) (by omega));omega
 have c3:=zwc (T:=T) n m (ofN (val a*val e)) (ofN (val b*val d)) (by omega) (by omega);have e3:wv n (ofN (val a*val e))+wv m (ofN (val b*val d))=sg n (val a)*(val e:Int)+sg m (val b)*(val d:Int):=by
  grind[wv,zae,z4e]
 have l3:(ofN (sg n (val a)*(val e:Int)+sg m (val b)*(val d:Int)).natAbs).length≤3000:=by
  rw[←e3];have:=zbw (x:=wv n (ofN (val a*val e))) (y:=wv m (ofN (val b*val d))) (L:=2000) (Yc (zcf _ _) l1) (Yc (zcf _ _) l2);omega
 rw[e3]at c3;obtain⟨z,hz⟩:∃z,z=sg n (val a)*(val e:Int)+sg m (val b)*(val d:Int):=⟨_,rfl⟩;rw[←hz]at c3 l3;have c5:=zck (T:=T) (decide (z<0),ofN z.natAbs,ofN (val d*val e)) (by unfold fsz;grind);have e1:fv (decide (z<0),ofN z.natAbs,ofN (val d*val e))=fv (n,a,d)+fv (m,b,e):=by
  unfold fv;simp only[zae,zi6];rw[hz];exact(Ydn _ _ h1 h2).symm
 rw[e1]at c5;rw[zab Zz.h239 rfl,b239];simp -implicitDefEqProofs[c1,c2,c3,c4,c5,zhw]
theorem zgc(p q:Rat)(hp:sz p≤1000)(hq:sz q≤1000):Za T 239 [efz (fz p),efz (fz q)]=some (efz (fz (p+q))):=by
 have:=zwe (T:=T) (fz p) (fz q) hp hq (z1g p) (z1g q)
 simp_all
theorem zef(p q:Rat)(hp:sz p≤1000)(hq:sz q≤1000):Za T 241 [efz (fz p),efz (fz q)]=some (efz (fz (p*q))):=by
 have:=zwd (T:=T) (fz p) (fz q) hp hq
 simp_all
end
section
variable{T:Tbl}[Z4 T][Zai T][Z1 T][Zao T][Z2 T][Zar T][Zz T][Za9 T]
def Zrq(n i:Nat):St:=⟨[(0,.i .i64 n),(3,.bs (.loc 3) 1 3 0 i),(4,.i .i64 i)],[(.loc 3,⟨1,.own,3,Zd (List.replicate i (fz 0))⟩)],3⟩
def Zll(l:List Fz)(i:Nat):St:=⟨[(0,.sl (Zd l) .an),(3,.bs (.loc 3) 1 3 0 i),(4,.i .i64 i)],[(.loc 3,⟨1,.own,3,Zd (nrm (l.take i))⟩)],3⟩
theorem zsp(l:List Fz)(hl:l.length≤1000)(hw:∀x∈l,fsz x≤1000) :
  Zj T 0 0 (.norm false [3]) l278_0 (Zll l 0)=some (.n,⟨[(3,.bs (.loc 3) 1 3 0 l.length)],[(.loc 3,⟨1,.own,3,Zd (nrm l)⟩)],3⟩):=by
 refine za2 (Zll l) l.length _ (fun i hi=>?_) ?_
 ·have hg:l[i]? = some (l[i]'hi):=Ya hi;have hws:=zbv hi (by omega);have hn:=zck (T:=T) (l[i]'hi) (Yc (hw _ (Yr hi)) (by decide));have e:nrm (l.take (i+1))=nrm (l.take i)++[fz (fv (l[i]'hi))]:=zk7 l _ hi;have hml:(nrm (l.take i)).length=i:=by simp[nrm];omega
  have hp:=zfu hml (fz (fv (l[i]'hi)));unfold Zll;rw[e];clear e;generalize nrm (l.take i)=M at *
  generalize fz (fv (l[i]'hi))=z at *
  have hb:i≤4294967295:=by omega
  simp -implicitDefEqProofs[l278_0,hi,hws,hn,hp,hml,hb]
 ·unfold Zll;rw[Yb (Ye _)];generalize nrm l=M;constructor<;>simp -implicitDefEqProofs[l278_0]
theorem zo3(l:List Fz)(hl:l.length≤1000)(hw:∀x∈l,fsz x≤1000):Za T 278 [.sl (Zd l) .an]=some (.sl (Zd (nrm l)) .an):=by
 have h:=zsp (T:=T) l hl hw;unfold Zll at h;have e:nrm (l.take 0)=[]:=rfl;rw[e]at h;simp only[za8,Yw]at h;have hl2:(nrm l).length=l.length:=by simp[nrm]
 have ht:List.take l.length (nrm l)=nrm l:=Yb (by omega);rw[zab Za9.h278 rfl,b278];simp -implicitDefEqProofs[h,ht,hl2]
def Zrr(a b:List Fz)(i:Nat):St:=⟨[(0,.sl (Zd a) .an),(1,.sl (Zd b) .an),(5,.i .i64 i)],[],2⟩
def Zrs(p q:List Rat)(i:Nat):St:=⟨[(0,.sl (Zd (fzs p)) .an),(1,.sl (Zd (fzs q)) .an),(5,.bs (.loc 5) 1 3 0 i),(6,.i .i64 i)],[(.loc 5,⟨1,.own,3,Zd (fzs ((Zmh p (fzs q)).take i))⟩)],3⟩
def Zrt(p q:List Rat)(i:Nat):St:=⟨[(0,.sl (Zd (fzs p)) .an),(1,.sl (Zd (fzs q)) .an),(4,.ptr (.loc 4) 1 3 0 0),(5,.ptr (.loc 5) 2 3 0 0),(6,.i .i64 i)],
 [(.loc 4,⟨1,.str,3,[Zd9]⟩),(.loc 5,⟨2,.str,3,[Zbg (fz (Zdm (fzs p) (fzs q) i))]⟩)],4⟩
def Zbi(l:List Fz)(many words:Nat):Bool:=decide (many<l.length) || l.any fun x=>decide (words<fsz x)
def Zgw(l:List Fz)(many words:Nat)(i:Nat):St:=⟨[(0,.sl (Zd l) .an),(1,.i .i64 many),(2,.i .i64 words),(7,.i .i64 i)],[],2⟩
theorem zsq(l:List Fz)(many words:Nat)(hl:l.length≤many)(hm:many≤1000) :
  Zj T 0 0 (.norm false [0,1]) l286_0 (Zgw l many words 0)=if (l.drop 0).any (fun x=>decide (words<fsz x))=true then some (.r,⟨[(6,.b true)],[],2⟩) else some (.n,⟨[(0,.sl (Zd l) .an),(1,.i .i64 many)],[],2⟩):=by
 refine zaq (Zgw l many words) l.length (fun i=>if (l.drop i).any (fun x=>decide (words<fsz x))=true then some (.r,⟨[(6,.b true)],[],2⟩) else some (.n,⟨[(0,.sl (Zd l) .an),(1,.i .i64 many)],[],2⟩)) (fun i hi=>?_) ?_
 ·have hga:l[i]? = some (l[i]'hi):=Ya hi;have hws:=zbv hi (by omega);have c:=zjx (T:=T) (l[i]'hi) words;have h3:(i:Int)<many:=by omega
  have h4:i<many:=by omega
  have key:(l.drop i).any (fun x=>decide (words<fsz x))=(decide (words<fsz (l[i]'hi)) || (l.drop (i+1)).any fun x=>decide (words<fsz x)):=by
   rw[Yj hi,List.any_cons]
  by_cases he:words<fsz (l[i]'hi)
  ·right;rw[if_pos (by rw[key,decide_eq_true he,Bool.true_or])];rw[decide_eq_true he]at c;unfold Zgw;clear key he;constructor<;>simp -implicitDefEqProofs[l286_0,hi,h3,c]
  ·left;refine⟨?_,by grind⟩;rw[decide_eq_false he]at c;unfold Zgw;clear key he;simp -implicitDefEqProofs[l286_0,hi,h3,hws,c]
 ·rw[Y5,if_neg (by simp)];unfold Zgw;constructor<;>simp -implicitDefEqProofs[l286_0]
theorem zsr(l:List Fz)(many words:Nat)(hl:l.length≤many)(hm:many≤1000):Za T 286 [.sl (Zd l) .an,.i .i64 many,.i .i64 words]=some (.b (Zbi l many words)):=by
 have h:=zsq (T:=T) l many words hl hm;rw[Yad]at h;unfold Zgw at h;simp only[Yw]at h;have h1:¬ (many:Int)<l.length:=by omega
 have h2:¬ many<l.length:=by omega
 unfold Zbi;rw[zab Za9.h286 rfl,b286];cases hc:l.any fun x=>decide (words<fsz x) with
 | true=>
  rw[hc,if_pos rfl]at h;simp -implicitDefEqProofs[h,h2]
 | false=>
  rw[hc,if_neg (by decide)]at h;simp -implicitDefEqProofs[h,h1,h2]
theorem zss(l:List Fz)(many words:Nat)(hl:many<l.length)(hm:many≤1000) :
  ∃r,(r=some (.r,(⟨[(6,.b true)],[],2⟩:St))∨r=some (.n,⟨[(0,.sl (Zd l) .an),(1,.i .i64 many)],[],2⟩))∧Zj T 0 0 (.norm false [0,1]) l286_0 (Zgw l many words 0)=r:=by
 obtain⟨G,hG⟩:∃G:Nat→Option (Ex×St),G=fun i=>if ((l.take many).drop i).any (fun x=>decide (words<fsz x))=true then some (.r,⟨[(6,.b true)],[],2⟩) else some (.n,⟨[(0,.sl (Zd l) .an),(1,.i .i64 many)],[],2⟩):=⟨_,rfl⟩
 refine⟨G 0,?_,zaq (Zgw l many words) many G (fun i hi=>?_) ?_⟩
 ·grind
 ·have hil:i<l.length:=by omega
  have hil':(i:Int)<l.length:=by omega
  have hga:l[i]? = some (l[i]'hil):=Ya hil;have hws:=zbv hi (by omega);have c:=zjx (T:=T) (l[i]'hil) words;have key:((l.take many).drop i).any (fun x=>decide (words<fsz x))=(decide (words<fsz (l[i]'hil)) || ((l.take many).drop (i+1)).any fun x=>decide (words<fsz x)):=by
   grind[List.drop_eq_getElem_cons]
  by_cases he:words<fsz (l[i]'hil)
  ·right;rw[hG];simp only;rw[if_pos (by rw[key,decide_eq_true he,Bool.true_or])];rw[decide_eq_true he]at c;unfold Zgw;clear key he hG;constructor<;>simp -implicitDefEqProofs[l286_0,hi,hil,hil',c]
  ·left;refine⟨?_,by grind⟩;rw[decide_eq_false he]at c;unfold Zgw;clear key he hG;simp -implicitDefEqProofs[l286_0,hi,hil,hil',hws,c]
 ·rw[hG];simp only;rw[Yat (by grind),if_neg (by simp)];have h1:(many:Int)<l.length:=by omega
  unfold Zgw;constructor<;>simp -implicitDefEqProofs[l286_0,h1]
theorem zo4(l:List Fz)(many words:Nat)(hl:many<l.length)(hm:many≤1000):Za T 286 [.sl (Zd l) .an,.i .i64 many,.i .i64 words]=some (.b true):=by
 obtain⟨r,hr,h⟩:=zss (T:=T) l many words hl hm;unfold Zgw at h;simp only[Yw]at h;have h1:(many:Int)<l.length:=by omega
 rw[zab Za9.h286 rfl,b286];rcases hr with rfl | rfl
 ·simp -implicitDefEqProofs[h]
 ·simp -implicitDefEqProofs[h,hl]
theorem zcs(l:List Fz)(many words:Nat)(hm:many≤1000):Za T 286 [.sl (Zd l) .an,.i .i64 many,.i .i64 words]=some (.b (Zbi l many words)):=by
 grind[zo4,Zbi,zsr]
theorem zbr{l:List Fz}{many words:Nat}(h:Zbi l many words=false):l.length≤many∧∀x∈l,fsz x≤words:=by
 grind[Zbi]
end
theorem z4l{x j:Nat}(h1:2^j≤x)(h2:x<2^(j+1)):Z7 x=j+1:=by
 have hx:x≠0:=by
  have:=Ya0 (n:=j) (show 0<2 by decide);omega
 unfold Z7;rw[if_neg hx,(Nat.log2_eq_iff hx).2 ⟨h1,h2⟩]
def Zj0(n:Int):Nat:=(min (max n 0) 300).toNat
section
variable{T:Tbl}[Z1 T]
theorem z0a(a:List UInt32)(hl:a.length≤1000000):∀y:Nat,(y≤32*a.length∧val a<2^y)→Zj T 0 0 (.norm false [3]) l95_0 (Zhn a y)=some (.n,⟨[(3,.i .i64 (Z7 (val a)))],[],2⟩):=by
 refine zav (Zhn a) (fun y=>y≤32*a.length∧val a<2^y) (fun y=>y) (fun _=>_) ?_
 rintro k ⟨hk,hv⟩
 by_cases h0:k=0
 ·right;subst h0;have hz:val a=0:=by
   rw[Ydg]at hv;omega
  have hb:Z7 (val a)=0:=by rw[hz];rfl
  rw[hb];constructor<;>simp -implicitDefEqProofs[l95_0,Zhn]
 ·obtain⟨j,rfl⟩:∃j,k=j+1:=⟨k-1,by omega⟩;have hw:IntKind.wrap .i64 (j:Int)=(j:Int):=zac _ (by omega);have hh:=znc (T:=T) a j hl (by omega);have hp:(0:Int)<(j:Int)+1:=by omega
  by_cases h1:val a/2^j%2=1
  ·right;have hge:2^j≤val a:=by
    rcases Yt (val a) (2^j) with h | h
    ·rw[Ya2 h]at h1;omega
    ·exact h
   rw[z4l hge hv];clear hge hv;constructor<;>simp -implicitDefEqProofs[l95_0,Zhn,hw,hh,hp,h1]
  ·left;refine⟨j,⟨by omega,znn hv (by generalize val a/2^j=q at *;omega)⟩,by omega,?_,rfl⟩;clear hv;simp -implicitDefEqProofs[l95_0,Zhn,hw,hh,hp,h1]
theorem zj0(a:List UInt32)(hl:a.length≤1000000):Za T 95 [.sl (Zb a) .an]=some (.i .i64 (Z7 (val a))):=by
 have hr:=z0a (T:=T) a hl (32*a.length) ⟨Ye _,by rw[←zld];exact za0 a⟩;unfold Zhn at hr;simp at hr;have hw:IntKind.wrap .i64 (32*(a.length:Int))=32*(a.length:Int):=by
  have:=zac (32*a.length) (by omega);simpa using this
 rw[zab Z1.h95 rfl,b95];simp -implicitDefEqProofs[hr,hw]
end
section
variable{T:Tbl}[Zq T][Zv T][Zy T][Zr T][Zn T][Zbc T][Zf T][Zg T][Zw T][Zam T][Zcs T]
def Zqn(n i:Int):List Rat:=if 0≤i∧i<Zj0 n then (List.replicate (Zj0 n) 0).set i.toNat 1 else List.replicate (Zj0 n) 0
end
section
variable{T:Tbl}[Z4 T][Zai T][Z1 T][Zao T][Z2 T][Zar T][Zz T][Za9 T]
def Zqo(n:Int)(i:Nat):St:=⟨[(0,.i .i64 n),(3,.bs (.loc 3) 1 3 0 i),(4,.i .i64 i)],[(.loc 3,⟨1,.own,3,Zd (List.replicate i (fz 0))⟩)],3⟩
end
theorem zvd{m:List (List Fz)}{n:Nat}(h:m.length=n)(r:List Fz):wkL (Zs (List.take n m)++[[.sl (Zd r) .an]])=Zs (m++[r]):=by
 rw[Yb (by omega),zxu,zby]
theorem zmt{α:Type}(l:List α){i:Nat}(h:i<l.length):l.take (i+1)=l.take i++[l[i]'h]:=Ya8 h
section
variable{T:Tbl}[Z4 T][Zai T][Z1 T][Zao T][Z2 T][Zar T][Zz T][Za9 T][Zcx T][Zdq T]
theorem zy7(x:Fz):Za T 248 [efz x]=some (efz x):=by
 rw[zab Zcx.h248 rfl,b248];simp -implicitDefEqProofs
theorem zy8(x:Fz):Za T 249 [efz x]=some (efz x):=by
 rw[zab Zcx.h249 rfl,b249];simp -implicitDefEqProofs
theorem zy9(x y:Fz)(hx:fsz x≤10000):Za T 250 [efz x,efz y]=some (.b (decide (x=y))):=by
 have h1:=zy8 (T:=T) x;have h2:=zb6 (T:=T) x y hx;rw[zab Zcx.h250 rfl,b250];simp -implicitDefEqProofs[h1,h2]
def Zhh(l:List Fz)(i:Nat):St:=⟨[(0,.sl (Zd l) .an),(3,.bs (.loc 3) 1 3 0 i),(4,.i .i64 i)],[((.loc 3),⟨1,.own,3,Zd (l.take i)⟩)],3⟩
theorem zve(l:List Fz)(hl:l.length≤4294967296) :
  Zj T 0 0 (.norm false [3]) l287_0 (Zhh l 0)=some (.n,⟨[(3,.bs (.loc 3) 1 3 0 (l.length))],[((.loc 3),⟨1,.own,3,Zd (l.take (l.length))⟩)],3⟩):=by
 refine za2 (Zhh l) (l.length) _ (fun i hi=>?_) ?_
 ·have hws:=zbv hi (by omega);have hb:i≤4294967295:=by omega
  have hg:l[i]? = some (l[i]'hi):=Ya hi;have hn:=zy7 (T:=T) (l[i]'hi);have e:=zmt l hi;have hml:(l.take i).length=i:=by simp;omega
  have hp:=zfu hml (l[i]'hi);unfold Zhh;rw[e];clear e;generalize l.take i=M at *
  simp -implicitDefEqProofs[l287_0,hi,hws,hb,hp,hml,hg,hn]
 ·unfold Zhh;rw[Yb (Ye _)];constructor<;>simp -implicitDefEqProofs[l287_0]
theorem zfj(l:List Fz)(hl:l.length≤4294967296):Za T 287 [.sl (Zd l) .an]=some (.sl (Zd l) .an):=by
 have h:=zve (T:=T) l hl;unfold Zhh at h;rw[Yc4,Yb (Ye _)]at h;simp only[za8,Yw]at h;have ht:List.take l.length l=l:=Yb (Ye _);rw[zab Zdq.h287 rfl,b287];simp -implicitDefEqProofs[h,ht]
def Zoz(l:List Fz)(i:Nat):St:=⟨[(0,.sl (Zd l) .an),(3,.bs (.loc 3) 1 3 0 i),(4,.i .i64 i)],[((.loc 3),⟨1,.own,3,Zd (l.take i)⟩)],3⟩
end
def Zm6:List (List Fz)→Nat
 | []=>0
 | r::_=>r.length
def Zov(m:List (List Fz)):Bool:=m.all fun r=>decide (r.length=Zm6 m)
def Zns(m:List (List Fz))(j:Nat):List Fz:=m.map fun r=>r.getD j (false,[],[])
def Znt(m:List (List Fz))(k:Nat):List (List Fz):=(List.range k).map fun j=>nrm (Zns m j)
def scM(r:List Fz)(m:List (List Fz)):List (List Fz):=List.zipWith (fun x row=>scl (fv x) row) r m
def Zow:List (List Fz)→List Rat
 | []=>[]
 | r::m=>m.foldl Zmh (r.map fv)
def Znu(r:List Fz)(m:List (List Fz)):List Rat:=Zow (scM r m)
def Zm7(m:List (List Fz))(c:List Fz):List Rat:=m.map fun r=>Zb9 r c
section
variable{T:Tbl}[Zq T][Zv T][Zy T][Zr T][Zn T][Zbc T][Zf T][Zg T][Zw T][Zam T][Zcs T][Zia T]
def Zpw(m:List (List Fz))(i:Nat):St:=⟨[(0,.sl (Zs m) .an),(5,.sl (Zs m) .an),(6,.i .i64 m.length),(7,.i .i64 i)],[],2⟩
def Zpx(a b:List (List Fz))(i:Nat):St:=⟨[(1,.sl (Zs b) .an),(12,.sl (Zs a) .an),(13,.i .i64 a.length),(14,.i .i64 i)],[],2⟩
def idQ(k:Nat)(i:Nat):List (List Fz):=(List.range i).map fun j=>fzs ((List.replicate k 0).set j 1)
def Zpy(k:Nat)(i:Nat):St:=⟨[(0,.i .i64 k),(3,.bs (.loc 3) 1 1 0 i),(8,.i .i64 k),(9,.i .i64 i)],[((.loc 3),⟨1,.own,1,Zs (idQ k i)⟩)],3⟩
def Zpz(m R:List (List Fz))(k j:Nat)(i:Nat):St:=⟨[(0,.sl (Zs m) .an),(3,.bs (.loc 3) 1 1 0 j),(4,.i .i64 j),(5,.bs (.loc 5) 2 3 0 i),(12,.i .i64 k),(13,.i .i64 j),(16,.sl (Zs m) .an),(17,.i .i64 m.length),(18,.i .i64 i)],[(.loc 3,⟨1,.own,1,Zs R⟩),((.loc 5),⟨2,.own,3,Zd (nrm (Zns (m.take i) j))⟩)],4⟩
def Zoo(m:List (List Fz))(k:Nat)(i:Nat):St:=⟨[(0,.sl (Zs m) .an),(3,.bs (.loc 3) 1 1 0 i),(12,.i .i64 k),(13,.i .i64 i)],[((.loc 3),⟨1,.own,1,Zs (Znt m i)⟩)],3⟩
end
section
variable{T:Tbl}[Zq T][Zv T][Zy T][Zr T][Zn T][Zbc T][Zf T][Zg T][Zw T][Zam T][Zcs T][Zia T]
def Zp0(r:List Fz)(m:List (List Fz))(i:Nat):St:=⟨[(0,.sl (Zd r) .an),(6,.bs (.loc 6) 1 1 0 i),(19,.sl (Zs m) .an),(20,.i .i64 m.length),(21,.i .i64 i)],[((.loc 6),⟨1,.own,1,Zs (scM (r.take i) (m.take i))⟩)],3⟩
def Zp1(m:List (List Fz))(c:List Fz)(i:Nat):St:=⟨[(1,.sl (Zd c) .an),(6,.bs (.loc 6) 1 3 0 i),(21,.sl (Zs m) .an),(22,.i .i64 m.length),(23,.i .i64 i)],[((.loc 6),⟨1,.own,3,Zd (fzs (Zm7 (m.take i) c))⟩)],3⟩
def Zox(a b:List (List Fz)):List (List Fz):=a.map fun r=>fzs (Znu r b)
def Zp2(a m:List (List Fz))(i:Nat):St:=⟨[(1,.sl (Zs m) .an),(6,.bs (.loc 6) 1 1 0 i),(26,.sl (Zs a) .an),(27,.i .i64 a.length),(28,.i .i64 i)],[((.loc 6),⟨1,.own,1,Zs (Zox (a.take i) m)⟩)],3⟩
def Zoy(a b:List (List Fz)):List (List Fz):=List.zipWith (fun r s=>fzs (Zmh (r.map fv) s)) a b
def Zp3(a m:List (List Fz))(i:Nat):St:=⟨[(1,.sl (Zs m) .an),(6,.bs (.loc 6) 1 1 0 i),(33,.sl (Zs a) .an),(34,.i .i64 a.length),(35,.i .i64 i)],[((.loc 6),⟨1,.own,1,Zs (Zoy (a.take i) (m.take i))⟩)],3⟩
end
def Zoc:List Rat→List Rat→Rat
 | x::a,y::b=>x*y+Zoc a b
 | _,_=>0
def Zpn(m:List (List Fz)):List (List Rat):=m.map fun r=>r.map fv
def fzM(L:List (List Rat)):List (List Fz):=L.map fzs
def Zlw:List (List Rat)→Nat
 | []=>0
 | r::_=>r.length
def Zpo(L:List (List Rat)):Bool:=L.all fun r=>decide (r.length=Zlw L)
def Znb(L:List (List Rat))(j:Nat):List Rat:=L.map fun p=>p.getD j 0
def Zod(L:List (List Rat)):List (List Rat):=(List.range (Zlw L)).map (Znb L)
def Zlx(L:List (List Rat))(c:List Rat):List Rat:=L.map fun p=>Zoc p c
def Zq1(r:List Rat)(L:List (List Rat)):List Rat:=Zlx (Zod L) r
def Znp(q:Rat):Rat:=if q<0 then -q else q
def Zng(c:Rat)(l:List Rat):List Rat:=l.map fun x=>c*x
def Zok(a b:List Rat):List Rat:=List.zipWith (· + ·) a b
def Zmn(b x:Rat):Rat:=if b<Znp x then Znp x else b
def Zmz(l:List Rat):Rat:=l.foldl Zmn 0
def Zpt:List (Rat×List Rat)→List Rat→List Rat
 | [],acc=>acc
 | p::l,acc=>Zpt l (Zok acc (Zng p.1 p.2))
def sqC:List UInt32→Nat
 | []=>0
 | x::r=>4294967296*(x.toNat*val r)+4294967296*4294967296*sqC r
def sqD:List UInt32→Nat
 | []=>0
 | x::r=>x.toNat*x.toNat+4294967296*4294967296*sqD r
theorem z1d:∀a:List UInt32,2*sqC a+sqD a=val a*val a
 | []=>rfl
 | x::r=>by
  have ih:=z1d r;simp only[sqC,sqD,zal]
  grind
theorem zm5(i:Nat):4294967296^(2*i+2)=4294967296^(2*i)*(4294967296*4294967296):=by
 rw[Ybb]
theorem zm6{x L:Nat}(h:(ofN x).length≤L):(ofN (x*2^1)).length≤L+1:=by
 refine zag ?_;have h1:=za0 (ofN x);rw[zae]at h1;have h2:4294967296^(ofN x).length≤4294967296^L:=Yk (by decide) h;omega
section
variable{T:Tbl}[Z0 T][Zq T][Zv T][Zy T][Zbv T]
theorem zg3(a:List UInt32)(ha:a.length≤1000000):Za T 356 [.sl (Zb a) .an]=some (.i .i64 (Z7 (val a))):=by
 have h1:=zbh (T:=T) a (by omega);have hl:=zad a;have hv:val (ofN (val a))=val a:=zae _;rw[zab Zbv.h356 rfl,b356];by_cases h0:val a=0
 ·have e:ofN (val a)=[]:=zas.2 h0;have eb:Z7 (val a)=0:=by rw[h0];rfl
  rw[e]at h1;rw[eb];simp -implicitDefEqProofs[h1]
 ·have hne:ofN (val a)≠[]:=fun h=>h0 (zas.1 h);obtain⟨B,x,hB⟩:∃B x,ofN (val a)=B++[x]:=⟨_,_,(Ycm hne).symm⟩;have hx0:x.toNat≠0:=by
   intro hx;have e1:val (ofN (val a))=val B:=by
    rw[hB,zai];simp[hx]
   have e2:ofN (val B)=ofN (val a):=by rw[←e1,zae]
   have e3:=zad B;rw[e2,hB]at e3;simp at e3;omega
  have hlog:Z7 (val a)=32*B.length+Z7 x.toNat:=by
   have hdiv:val a/2^(32*B.length)=x.toNat:=by
    have e1:val a=val B+4294967296^B.length*x.toNat:=by
     rw[←hv,hB,zai];simp
    have e2:2^(32*B.length)=4294967296^B.length:=by
     rw[Ydr]
    have e3:=za0 B;rw[e2,e1,Ybz _ _ (by omega),Ya2 e3,Y8]
   have:=zjr (n:=val a) (s:=32*B.length) (by rw[hdiv];exact hx0);rw[hdiv]at this;exact this
  have hbl:B.length+1≤1000000:=by
   have:=congrArg List.length hB;simp at this;omega
  have hL:=zqq (T:=T) x;have hb32:Z7 x.toNat≤32:=by
   have hx:=zak x;unfold Z7;split
   ·omega
   ·have:=(Ydp (n:=x.toNat) (k:=32) (by assumption)).2 (by omega);omega
  rw[hB]at h1;rw[hlog];have w2:IntKind.wrap .i64 (32*(B.length:Int))=32*(B.length:Int):=zac _ (by omega);have w3:IntKind.wrap .i64 (32*(B.length:Int)+(Z7 x.toNat:Int))=32*(B.length:Int)+(Z7 x.toNat:Int):=zac _ (by omega);have w4:IntKind.wrap .i64 (B.length:Int)=B.length:=zac _ (by omega);have n1:¬ (B.length:Int)+1=0:=by omega
  have n2:(B.length:Int)<(B.length:Int)+1:=by omega
  simp -implicitDefEqProofs[h1,hL,w2,w3,w4,n1,n2]
def Zj6(a X:List UInt32)(i:Nat):St:=
 ⟨[(0,.sl (Zb a) .an),(3,.bs (.loc 14) 1 1 0 (2*a.length+1)),(15,.sl (Zb a) .an),(16,.i .i64 a.length),(17,.i .i64 i)],[(.loc 14,⟨1,.own,1,Zb (X++List.replicate (a.length+1-i) 0)⟩)],3⟩
theorem zzu(a:List UInt32)(ha:a.length≤100000):∀y:Nat×List UInt32,
  (y.1≤a.length∧y.2.length=a.length+y.1∧val y.2+4294967296^(2*y.1)*sqC (a.drop y.1)=sqC a) →
  ∃r,(∃out:List UInt32,r=(Ex.n,(⟨[(0,.sl (Zb a) .an),(3,.bs (.loc 14) 1 1 0 (2*a.length+1))],[(.loc 14,⟨1,.own,1,Zb out⟩)],3⟩:St))∧out.length=2*a.length+1∧val out=sqC a) ∧
   Zj T 0 0 (.norm false [0,3]) l357_0 (Zj6 a y.2 y.1)=some r:=by
 refine zar _ _ (fun y=>a.length-y.1) _ ?_
 rintro⟨i,X⟩ ⟨hi,hX,hv⟩
 simp only at hi hX hv;by_cases h0:i<a.length
 ·left;have hw:IntKind.wrap .i64 ((i:Int)+1)=((i+1:Nat):Int):=zac _ (by omega);have hw2:IntKind.wrap .i64 (2*(i:Int))=2*(i:Int):=zac _ (by omega);have hw3:IntKind.wrap .i64 (2*(i:Int)+1)=((2*i+1:Nat):Int):=zac _ (by omega);have hdl:(a.drop (i+1)).length=a.length-(i+1):=Yak;obtain⟨m,hm1,hm2,hc⟩:=zk1 (T:=T) (X.take (2*i+1)) (X.drop (2*i+1)++List.replicate (a.length+1-i) 0) (a.drop (i+1)) (a[i]'h0).toNat 0 (zak _) (by decide) (by simp;omega) (by simp;omega);have e1:X.take (2*i+1)++(X.drop (2*i+1)++List.replicate (a.length+1-i) 0)=X++List.replicate (a.length+1-i) 0:=by rw[←Ybd,Yan]
  have e2:(X.take (2*i+1)).length=2*i+1:=by simp;omega
  have e3:(X.drop (2*i+1)++List.replicate (a.length+1-i) 0).length=2*a.length+1-(2*i+1):=by simp;omega
  have e4:2*i+1+(2*a.length+1-(2*i+1))=2*a.length+1:=by omega
  have e5:(X.drop (2*i+1)++List.replicate (a.length+1-i) 0).drop ((a.drop (i+1)).length+1)=List.replicate (a.length+1-(i+1)) 0:=by
   rw[Yee,Yat (by simp;omega),Yds];simp only[Yam,Yak];congr 1;omega
  have e6:(X.drop (2*i+1)++List.replicate (a.length+1-i) 0).take (a.drop (i+1)).length=X.drop (2*i+1):=by
   rw[Ybx (by simp;omega),Yb (by simp;omega)]
  rw[e1,e2,e3,e4,e5]at hc;refine⟨(i+1,X.take (2*i+1)++m),⟨h0,by simp only[Y1,e2,hm1];omega,?_⟩,by omega,?_⟩
  ·simp only;have e7:=zai (X.take (2*i+1)) (X.drop (2*i+1));rw[Yan,e2]at e7;rw[Yj h0]at hv;simp only[sqC]at hv;rw[zai,e2,hm2];have p1:4294967296^(2*i+1)=4294967296^(2*i)*4294967296:=Y4 ..;have p2:4294967296^(2*(i+1))=4294967296^(2*i)*(4294967296*4294967296):=zm5 i;rw[p1]at e7 ⊢;rw[p2,←hv,e7];generalize 4294967296^(2*i)=q;generalize val (a.drop (i+1))=v;generalize sqC (a.drop (i+1))=w;generalize (4294967296:Nat)=p
   grind
  ·have hle:(i:Int)+1≤a.length:=by omega
   have hm3:((2*i+1:Nat):Int)=2*(i:Int)+1:=by omega
   rw[hm3]at hc hw3;simp -implicitDefEqProofs[l357_0,Zj6,h0,hw,hw2,hw3,hc,hle]
 ·right;have:i=a.length:=by omega
  subst this;refine⟨_,⟨X++List.replicate (a.length+1-a.length) 0,rfl,by simp;omega,by rw[zai,zax];simp[sqC]at hv;simp[hv]⟩,?_,?_⟩<;>simp -implicitDefEqProofs[l357_0,Zj6]
def Zj7(a X:List UInt32)(U:List (List AV))(i:Nat):St:=
 ⟨[(6,.sl U .an),(7,.bs (.loc 38) 1 1 0 (2*a.length)),(39,.sl (Zb a) .an),(40,.i .i64 a.length),(41,.i .i64 i)],[(.loc 38,⟨1,.own,1,Zb (X++List.replicate (2*a.length-2*i) 0)⟩)],3⟩
theorem zzv(a:List UInt32)(U:List (List AV))(hU:wkL U=U)(ha:a.length≤100000):∀y:Nat×List UInt32,
  (y.1≤a.length∧y.2.length=2*y.1∧val y.2+4294967296^(2*y.1)*sqD (a.drop y.1)=sqD a) →
  ∃r,(∃out:List UInt32,r=(Ex.n,(⟨[(6,.sl U .an),(7,.bs (.loc 38) 1 1 0 (2*a.length))],[(.loc 38,⟨1,.own,1,Zb out⟩)],3⟩:St))∧out.length=2*a.length∧val out=sqD a) ∧
   Zj T 0 2 (.norm false [6,7]) l357_1 (Zj7 a y.2 U y.1)=some r:=by
 refine zar _ _ (fun y=>a.length-y.1) _ ?_
 rintro⟨i,X⟩ ⟨hi,hX,hv⟩
 simp only at hi hX hv;by_cases h0:i<a.length
 ·left;have hm:=zqo (T:=T) (a[i]'h0) (a[i]'h0) 0 0;obtain⟨hi_,hhi⟩:∃h:UInt32,h=w32 (((a[i]'h0).toNat*(a[i]'h0).toNat+(0:UInt32).toNat+(0:UInt32).toNat)/4294967296):=⟨_,rfl⟩;obtain⟨lo_,hlo⟩:∃h:UInt32,h=w32 ((a[i]'h0).toNat*(a[i]'h0).toNat+(0:UInt32).toNat+(0:UInt32).toNat):=⟨_,rfl⟩;rw[←hhi,←hlo]at hm;have hx:=zak (a[i]'h0);have hval:lo_.toNat+4294967296*hi_.toNat=(a[i]'h0).toNat*(a[i]'h0).toNat:=by
   have hlt:=zgp hx hx;have e0:(0:UInt32).toNat=0:=rfl;rw[hlo,hhi,zbj,zbj,e0];omega
  have hw:IntKind.wrap .i64 ((i:Int)+1)=((i+1:Nat):Int):=zac _ (by omega);have hw2:IntKind.wrap .i64 (2*(i:Int))=2*(i:Int):=zac _ (by omega);have hw3:IntKind.wrap .i64 (2*(i:Int)+1)=2*(i:Int)+1:=zac _ (by omega);have e1:(X++List.replicate (2*a.length-2*i) (0:UInt32))=X++0::0::List.replicate (2*a.length-2*(i+1)) 0:=by
   rw[show 2*a.length-2*i=(2*a.length-2*(i+1))+1+1 by omega,Ybg,Ybg]
  have e2:((X++0::0::List.replicate (2*a.length-2*(i+1)) (0:UInt32)).set (2*i+1) hi_).set (2*i) lo_=X++[lo_,hi_]++List.replicate (2*a.length-2*(i+1)) 0:=by
   rw[Y7 _ _ (by omega),Y7 _ _ (by omega),hX,Ybt,show 2*i+1-2*i=1 by omega];simp
  refine⟨(i+1,X++[lo_,hi_]),⟨h0,by simp;omega,?_⟩,by omega,?_⟩
  ·simp only;rw[Yj h0]at hv;simp only[sqD]at hv;rw[zai,hX];simp only[zal,za5,Yac,Yq];have p2:4294967296^(2*(i+1))=4294967296^(2*i)*(4294967296*4294967296):=zm5 i;rw[p2,←hv,←hval];generalize 4294967296^(2*i)=q;generalize sqD (a.drop (i+1))=w;generalize (4294967296:Nat)=p
   grind
  ·unfold Zj7;rw[e1,←e2];have hl:(X++0::0::List.replicate (2*a.length-2*(i+1)) (0:UInt32)).length=2*a.length:=by simp;omega
   generalize (X++0::0::List.replicate (2*a.length-2*(i+1)) (0:UInt32))=B at *
   have s1:(Zb B).set (2*i+1) [u32 hi_.toNat]=Zb (B.set (2*i+1) hi_):=by simp[Zb,Ycs]
   have s2:(Zb (B.set (2*i+1) hi_)).set (2*i) [u32 lo_.toNat]=Zb ((B.set (2*i+1) hi_).set (2*i) lo_):=by simp[Zb,Ycs]
   have b1:2*i+1<2*a.length:=by omega
   have b2:2*i<2*a.length:=by omega
   have b3:2*(i:Int)+1<2*(a.length:Int):=by omega
   have b5:(0:Int)≤2*(i:Int)+1:=by omega
   have b6:(0:Int)≤2*(i:Int):=by omega
   have b7:(2*(i:Int)+1).toNat=2*i+1:=by omega
   have b8:(2*(i:Int)).toNat=2*i:=by omega
   have z0:(0:UInt32).toNat=0:=rfl;rw[z0]at hm;have hl2:((B.set (2*i+1) hi_)).length=2*a.length:=by simp[hl]
   simp -implicitDefEqProofs[l357_1,h0,hw,hw2,hw3,hm,hl,s1,s2,b1,b2,b3,b5,b6,b7,b8,hl2,hU]
 ·right;have:i=a.length:=by omega
  subst this;refine⟨_,⟨X++List.replicate (2*a.length-2*a.length) 0,rfl,by simp;omega,by simp[sqD]at hv;simp[hv]⟩,?_,?_⟩<;>simp -implicitDefEqProofs[l357_1,Zj7,hU]
theorem zoz(a:List UInt32)(ha:a.length≤4000):Za T 357 [.sl (Zb a) .an]=some (.sl (Zb (ofN (val a*val a))) .an):=by
 obtain⟨_,⟨out,rfl,ho,hv⟩,hr⟩:=zzu (T:=T) a (by omega) (0,List.replicate a.length 0) ⟨Yo _,by simp,by simp[zax]⟩;unfold Zj6 at hr;have hup:=z4v (T:=T) out 1 (by decide) (by omega);rw[Yar]at hup;have hupl:(ofN (val out*2^1)).length≤10000:=by
  have h1:=zad out;have h2:=zm6 (x:=val out) (L:=out.length) (by omega);omega
 obtain⟨_,⟨dg,rfl,hd,hdv⟩,hr2⟩:=zzv (T:=T) a (Zb (ofN (val out*2^1))) (by simp) (by omega) (0,[]) ⟨Yo _,rfl,by simp⟩;unfold Zj7 at hr2;have hn:=zvt (T:=T) [ofN (val out*2^1),dg] (by simp) (by
  intro x hx;simp only[Y2,Ydj,or_false]at hx;rcases hx with rfl | rfl<;>omega)
 have e1:lls [ofN (val out*2^1),dg]=[[.sl (Zb (ofN (val out*2^1))) .an],[.sl (Zb dg) .an]]:=rfl;have e2:Zd7 [ofN (val out*2^1),dg]=val a*val a:=by
  simp only[Zd7,Yy,Ycp,zae,Ycw,List.sum_nil,hv,hdv];have:=z1d a;omega
 rw[e1,e2]at hn;simp only[Yw,Yam,Ydb,Yac]at hr hr2;have e3:List.replicate a.length (0:UInt32)++List.replicate (a.length+1) 0=List.replicate (2*a.length+1) 0:=by
  rw[Ycg];congr 1;omega
 rw[e3]at hr;have w1:IntKind.wrap .i64 (2*(a.length:Int))=2*(a.length:Int):=zac _ (by omega);have w2:IntKind.wrap .i64 (2*(a.length:Int)+1)=2*(a.length:Int)+1:=zac _ (by omega);have n1:(0:Int)≤2*(a.length:Int)+1:=by omega
 have n2:2*(a.length:Int)+1≤4294967296:=by omega
 have n3:(0:Int)≤2*(a.length:Int):=by omega
 have n4:2*(a.length:Int)≤4294967296:=by omega
 have n5:(2*(a.length:Int)+1).toNat=2*a.length+1:=by omega
 have n6:(2*(a.length:Int)).toNat=2*a.length:=by omega
 have t1:List.take (2*a.length+1) out=out:=Yb (by omega);have t2:List.take (2*a.length) dg=dg:=Yb (by omega);rw[zab Zbv.h357 rfl,b357];simp -implicitDefEqProofs[w1,w2,n1,n2,n3,n4,n5,n6,hr,ho,t1,hup,hr2,hd,t2,hn]
end
theorem z3v(e m:Nat)(hm:m≤63):Zad .shr (.i .i64 (e:Int)) (.i .i64 (m:Int))=some (.i .i64 ((e/2^m:Nat):Int)):=by
 have h1:¬ (m:Int)<0:=by omega
 have h2:min m 64=m:=by omega
 simp only[Zad,IntKind.bits,h1,if_false,Ycd,h2];rw[Int.fdiv_eq_ediv_of_nonneg _ (Int.le_of_lt (Int.pow_pos (by decide)))]
 norm_cast
theorem z3w(k:Nat)(hk:k<9223372036854775808):Zad .and (.i .i64 (k:Int)) (.i .i64 1)=some (.i .i64 ((k%2:Nat):Int)):=by
 show some (AV.i .i64 (IntKind.wrap .i64 ((BitVec.ofInt 64 (k:Int) &&& BitVec.ofInt 64 1).toNat:Int)))=_;have h1:(BitVec.ofInt 64 (k:Int)).toNat=k:=by
  rw[BitVec.ofInt_natCast,BitVec.toNat_ofNat];omega
 have h2:(BitVec.ofInt 64 1).toNat=1:=rfl;rw[BitVec.toNat_and,h1,h2,Nat.and_one_is_mod,zac _ (by omega)]
theorem zvz(e m:Nat):e/2^m=2*(e/2^(m+1))+e/2^m%2:=by
 rw[Y4,←Ybe];omega
theorem zqt(x e:Nat)(h:e*Z7 x≤65536):(ofN (x^e)).length≤2048:=by
 by_cases h1:x^e=0
 ·rw[h1];have:ofN 0=[]:=zas.2 rfl;rw[this]
  decide
 by_cases hx:x=0
 ·subst hx;cases e with
  | zero=>exact Yc (zag (k:=1) (by decide)) (by decide)
  | succ e=>simp at h1
 ·refine zag ?_;generalize hk:(2048:Nat)=k;have h2:x<2^Z7 x:=by
   unfold Z7;rw[if_neg hx];exact Yc6
  have h5:∀m,(2:Nat)^(32*m)=4294967296^m:=fun m=>by rw[Ydr]
  cases e with
  | zero=>exact Nat.one_lt_pow (by omega) (by decide)
  | succ e=>
   have h3:x^(e+1)<(2^Z7 x)^(e+1):=Nat.pow_lt_pow_left h2 (by omega);rw[←Ydr,Yaf]at h3;refine Yp h3 ?_;rw[←h5];exact Yk (by decide) (by omega)
theorem zv0{e:Nat}(h:e<9223372036854775808):Z7 e≤63:=by
 unfold Z7;split
 ·omega
 ·next h0=>
  have:=(Ydp (n:=e) (k:=63) h0).2 h;omega
theorem zzw(e:Nat):e/2^Z7 e=0:=by
 unfold Z7;split
 ·next h=>simp[h]
 ·exact Ya2 Yc6
section
variable{T:Tbl}[Z0 T][Zq T][Zv T][Zy T][Zbv T]
theorem zzx(a:List UInt32)(e:Nat)(ha:a.length≤3000)(he:e<9223372036854775808)(hb:e*Z7 (val a)≤65536):∀b:Nat,b≤63 →
  Zj T 0 0 (.norm false [7]) l258_0 ⟨[(0,.sl (Zb a) .an),(1,.i .i64 e),(7,.sl (Zb (ofN (val a^(e/2^b)))) .an),(8,.i .i64 ((b:Int)-1))],[],2⟩ =
   some (.n,⟨[(7,.sl (Zb (ofN (val a^e))) .an)],[],2⟩):=by
 refine zav (fun b:Nat=>⟨[(0,.sl (Zb a) .an),(1,.i .i64 e),(7,.sl (Zb (ofN (val a^(e/2^b)))) .an),(8,.i .i64 ((b:Int)-1))],[],2⟩) (fun b=>b≤63) (fun b=>b) (fun _=>_) ?_;intro b hb63;cases b with
 | zero=>
  right;rw[Ydg,Yet];constructor<;>simp -implicitDefEqProofs[l258_0]
 | succ m=>
  left;have hs:=zvz e m;have hmul:∀k,k≤e→k*Z7 (val a)≤65536:=fun k hk=>Yc (Yu _ hk) hb;have hd0:e/2^m≤e:=Ybk _ _;have l1:=zqt (val a) (e/2^(m+1)) (hmul _ (Ybk _ _));have l2:=zqt (val a) (2*(e/2^(m+1))) (hmul _ (by omega));have c1:=zoz (T:=T) (ofN (val a^(e/2^(m+1)))) (by omega);rw[zae,←Ybb,←Nat.two_mul]at c1;have c2:=zfq (T:=T) (ofN (val a^(2*(e/2^(m+1))))) a (by omega) (by omega);rw[zae,←Nat.pow_add_one]at c2;have hsh:=z3v e m (by omega);have han:=z3w (e/2^m) (by omega);have w1:IntKind.wrap .i64 ((m:Int)-1)=(m:Int)-1:=zac _ (by omega);have p1:(0:Int)≤m:=by omega
  have e1:((m+1:Nat):Int)-1=m:=by omega
  refine⟨m,by omega,by simp,?_,rfl⟩;rcases Nat.mod_two_eq_zero_or_one (e/2^m) with h0 | h0
  ·rw[h0]at han hs;rw[Yq]at hs;rw[←hs]at c1;generalize e/2^m=q at *
   simp -implicitDefEqProofs[l258_0,p1,c1,hsh,han,w1]
  ·rw[h0]at han hs;rw[←hs]at c2;generalize e/2^m=q at *
   simp -implicitDefEqProofs[l258_0,p1,c1,c2,hsh,han,w1]
theorem zzy(a:List UInt32)(e:Nat)(ha:a.length≤3000)(h2:2≤Z7 (val a))(hb:e≤65536/Z7 (val a)) :
  Za T 258 [.sl (Zb a) .an,.i .i64 e]=some (.tup [.sl (Zb (ofN (val a^e))) .an,.b true]):=by
 have hmul:e*Z7 (val a)≤65536:=Yc (Yu _ hb) (Nat.div_mul_le_self _ _);have he:e≤65536:=Yc hb (Ybk _ _);have c1:=zg3 (T:=T) a (by omega);have c2:=zeq (T:=T) 1 (by decide);have c3:=zeq (T:=T) e (by omega);have c4:=zg3 (T:=T) (ofN e) (by
  have:=zag (n:=e) (k:=1) (by omega);omega)
 rw[zae]at c4;have hl:=zzx (T:=T) a e ha (by omega) hmul (Z7 e) (zv0 (by omega));rw[zzw,Ydg]at hl;have hbe:=zv0 (e:=e) (by omega);have hq:((65536:Int)).tdiv (Z7 (val a):Int)=((65536/Z7 (val a):Nat):Int):=by
  rfl
 have hbl:65536/Z7 (val a)≤65536:=Ybk _ _;have w0:IntKind.wrap .i64 ((65536/Z7 (val a):Nat):Int)=((65536/Z7 (val a):Nat):Int):=zac _ (by omega);have w1:IntKind.wrap .i64 ((Z7 e:Int)-1)=(Z7 e:Int)-1:=zac _ (by omega);have q1:¬ (e:Int)<0:=by omega
 have q2:(1:Int)<(Z7 (val a):Int):=by omega
 have q3:¬ ((65536/Z7 (val a):Nat):Int)<(e:Int):=by omega
 have q4:¬ (Z7 (val a):Int)<2:=by omega
 have q5':¬ Z7 (val a)=0:=by omega
 have qm:((e:Int)%18446744073709551616).toNat=e:=by omega
 rw[zab Zbv.h258 rfl,b258];generalize 65536/Z7 (val a)=Q at *
 simp -implicitDefEqProofs[c1,c2,c3,c4,hl,hq,w0,w1,q1,q2,q3,q4,q5',qm]
end
section
variable{T:Tbl}[Z4 T][Zai T][Z1 T][Zao T][Z2 T][Zar T][Zz T][Za9 T][Zgg T]
def Zqg(m:List (List Fz))(i:Nat):St:=⟨[(0,.sl (Zs m) .an),(3,.i .i64 i)],[],2⟩
def Zqh(m:List (List Fz))(i:Nat):St:=⟨[(0,.sl (Zs m) .an),(3,.bs (.loc 3) 1 1 0 i),(4,.i .i64 i)],[((.loc 3),⟨1,.own,1,Zs (fzM (Zpn (m.take i)))⟩)],3⟩
def Zqi(a b:List (List Fz))(i:Nat):St:=⟨[(0,.sl (Zs a) .an),(1,.sl (Zs b) .an),(5,.i .i64 i)],[],2⟩
def Zqj(n:Int)(k:Nat)(i:Nat):St:=⟨[(0,.i .i64 n),(3,.bs (.loc 3) 1 1 0 i),(4,.i .i64 i)],[((.loc 3),⟨1,.own,1,Zs (idQ k i)⟩)],3⟩
def Zo5(L:List (List Rat))(R:List (List Fz))(j:Nat)(i:Nat):St:=⟨[(0,.sl (Zs (fzM L)) .an),(3,.bs (.loc 3) 1 1 0 j),(4,.i .i64 j),(5,.bs (.loc 5) 2 3 0 i),(6,.i .i64 i)],[(.loc 3,⟨1,.own,1,Zs R⟩),((.loc 5),⟨2,.own,3,Zd (fzs (Znb (L.take i) j))⟩)],4⟩
def Zo6(L:List (List Rat))(i:Nat):St:=⟨[(0,.sl (Zs (fzM L)) .an),(3,.bs (.loc 3) 1 1 0 i),(4,.i .i64 i)],[((.loc 3),⟨1,.own,1,Zs (fzM ((List.range i).map (Znb L)))⟩)],3⟩
def Zqk(L:List (List Rat))(c:List Rat)(i:Nat):St:=⟨[(0,.sl (Zs (fzM L)) .an),(1,.sl (Zd (fzs c)) .an),(5,.bs (.loc 5) 1 3 0 i),(6,.i .i64 i)],[((.loc 5),⟨1,.own,3,Zd (fzs (Zlx (L.take i) c))⟩)],3⟩
def Zql(m:List (List Fz))(many words:Nat):Bool:=decide (many<m.length) || m.any fun r=>Zbi r many words
def Zqm(m:List (List Fz))(many words:Nat)(i:Nat):St:=⟨[(0,.sl (Zs m) .an),(1,.i .i64 many),(2,.i .i64 words),(7,.i .i64 i)],[],2⟩
end
section
variable{T:Tbl}[Zq T][Zv T][Zy T][Zr T][Zn T][Zbc T][Zf T][Zg T][Zw T][Zam T][Zcs T][Zia T][Z4 T][Zai T][Z1 T][Zao T][Z2 T][Zar T][Zz T][Za9 T][Zgg T][Zcx T][Zdq T][Zfp T]
def Zhi(m:List (List Fz))(i:Nat):St:=⟨[(0,.sl (Zs m) .an),(3,.bs (.loc 3) 1 1 0 i),(4,.i .i64 i)],[((.loc 3),⟨1,.own,1,Zs (m.take i)⟩)],3⟩
theorem zvg(m:List (List Fz))(hl:m.length≤1000000)(hw:∀r∈m,r.length≤1000000) :
  Zj T 0 0 (.norm false [3]) l308_0 (Zhi m 0)=some (.n,⟨[(3,.bs (.loc 3) 1 1 0 (m.length))],[((.loc 3),⟨1,.own,1,Zs (m.take (m.length))⟩)],3⟩):=by
 refine za2 (Zhi m) (m.length) _ (fun i hi=>?_) ?_
 ·have hws:=zbv hi (by omega);have hb:i≤4294967295:=by omega
  have hn:=zfj (T:=T) (m[i]'hi) (Yc (hw _ (Yr hi)) (by decide));have e:=zmt m hi;have hml:(m.take i).length=i:=by grind
  have hp:=zvd hml (m[i]'hi);unfold Zhi;simp -implicitDefEqProofs[l308_0,hi,hws,hb,hp,hml,hn]
 ·unfold Zhi;rw[Yb (Ye _)];constructor<;>simp -implicitDefEqProofs[l308_0]
theorem zza(m:List (List Fz))(hl:m.length≤1000000)(hw:∀r∈m,r.length≤1000000):Za T 308 [.sl (Zs m) .an]=some (.sl (Zs m) .an):=by
 have h:=zvg (T:=T) m hl hw;unfold Zhi at h;rw[Yc4,Yb (Ye _)]at h;simp only[zq2,Yw]at h;have ht:List.take m.length m=m:=Yb (Ye _);rw[zab Zfp.h308 rfl,b308];simp -implicitDefEqProofs[h,ht]
def Zo0(a b:List (List Fz))(i:Nat):St:=⟨[(0,.sl (Zs a) .an),(1,.sl (Zs b) .an),(5,.i .i64 i)],[],2⟩
theorem zahy{q:Rat}(h1:q.num.natAbs<4294967296)(h2:q.den<4294967296):sz q≤1:=Yen.2 ⟨zag (by omega),zag (by omega)⟩
end
class Znm (T:Tbl):Prop where
def Zn0(l:List Rat):Nat→Nat
 | 0=>0
 | n+1=>if l.getD n 0=0 then Zn0 l n else n+1
def Zqd(l:List Rat):List Rat:=l.take (Zn0 l l.length)
section
variable{T:Tbl}[Zq T][Zv T][Zy T][Zr T][Zn T][Zbc T][Zf T][Zg T][Zw T][Zam T][Zcs T][Znm T]
def Zo3:List Rat→Rat→Rat
 | [],_=>0
 | a::l,x=>Zo3 l x*x+a
def dif(l:List Rat):List Rat:=(List.range (l.length-1)).map fun(i:Nat)=>(((i:Int)+1:Int):Rat)*l.getD (i+1) 0
def Zro(l:List Fz)(i:Nat):St:=⟨[(0,.sl (Zd l) .an),(3,.bs (.loc 3) 1 3 0 i),(4,.i .i64 ((i:Int)+1))],[((.loc 3),⟨1,.own,3,Zd (fzs ((dif (l.map fv)).take i))⟩)],3⟩
end
def Zdn(x:Fz):Nat:=Z7 (val x.2.1)+Z7 (val x.2.2)
def Zn1(l:List Fz):Nat:=l.foldl (fun n x=>max n (Zdn x)) 0
theorem zei{x k:Nat}(h:(ofN x).length≤k):Z7 x≤32*k:=by
 unfold Z7;split
 ·omega
 ·next h0=>
  have h1:=za0 (ofN x);rw[zae]at h1;have h2:4294967296^(ofN x).length≤4294967296^k:=Yk (by decide) h;have h3:(4294967296:Nat)^k=2^(32*k):=by rw[Ydr]
  have:=(Ydp (n:=x) (k:=32*k) h0).2 (by omega);omega
theorem z4m{x:Fz}{k:Nat}(h:fsz x≤k):Zdn x≤64*k:=by
 unfold Zdn;have h1:=zei (Yc (zad x.2.1) (Yc (zdr x) h));have h2:=zei (Yc (zad x.2.2) (Yc (zds x) h));omega
section
variable{T:Tbl}[Z0 T][Zq T][Zv T][Zy T][Zr T][Zn T][Zbc T][Zf T][Zg T][Zw T][Zbn T][Zan T][Zbv T][Zam T][Zcs T][Zfj T]
def Zn2(b c:Rat)(i:Nat):Rat:=if i=0 then 0 else if i=1 then b else (if b<c then c else b)
def Zr3(b c:Rat)(i:Nat):St:=⟨[(2,.ptr (.loc 2) 1 3 0 0),(3,.ptr (.loc 3) 2 3 0 0),(7,.sl [Zbg (fz b),Zbg (fz c)] .an),(8,.i .i64 2),(9,.i .i64 i)],
 [(.loc 2,⟨1,.str,3,[Zd9]⟩),(.loc 3,⟨2,.str,3,[Zbg (fz (Zn2 b c i))]⟩)],4⟩
def Zr4(l:List Fz)(i:Nat):St:=⟨[(2,.ptr (.loc 2) 1 3 0 0),(3,.ptr (.loc 3) 2 3 0 0),(7,.sl (Zd l) .an),(8,.i .i64 l.length),(9,.i .i64 i)],
 [(.loc 2,⟨1,.str,3,[Zd9]⟩),(.loc 3,⟨2,.str,3,[Zbg (fz (Zmz ((l.map fv).take i)))]⟩)],4⟩
def Zr5(l:List Fz)(i:Nat):St:=⟨[(3,.i .i64 (Zn1 (l.take i))),(6,.sl (Zd l) .an),(7,.i .i64 l.length),(8,.i .i64 i)],[],2⟩
end
section
variable{T:Tbl}[Z4 T][Zai T][Z1 T][Zao T][Z2 T][Zar T][Zz T][Za9 T][Zfi T]
theorem zsx(x:Fz)(hx:fsz x≤10000):Za T 245 [efz x]=some (.i .i64 (Zdn x)):=by
 have h1:=zdr x;have h2:=zds x;have c1:=zj0 (T:=T) x.2.1 (by omega);have c2:=zj0 (T:=T) x.2.2 (by omega);have b1:=zei (x:=val x.2.1) (k:=10000) (Yc (zad x.2.1) (by omega));have b2:=zei (x:=val x.2.2) (k:=10000) (Yc (zad x.2.2) (by omega));have w:IntKind.wrap .i64 ((Z7 (val x.2.1):Int)+(Z7 (val x.2.2):Int))=((Zdn x:Nat):Int):=by
  grind[Zdn,zac]
 rw[zab Zfi.h245 rfl,b245];simp -implicitDefEqProofs[c1,c2,w]
def Zr6(c:Rat)(p:List Rat)(i:Nat):St:=⟨[(1,.sl (Zd (fzs p)) .an),(2,.ptr (.loc 2) 1 3 0 0),(5,.bs (.loc 5) 2 3 0 i),(6,.i .i64 i)],
 [(.loc 2,⟨1,.str,3,[Zbg (fz c)]⟩),(.loc 5,⟨2,.own,3,Zd (fzs ((Zng c p).take i))⟩)],4⟩
def Zr7(p:List Rat)(i:Nat):St:=⟨[(0,.sl (Zd (fzs p)) .an),(2,.ptr (.loc 2) 1 3 0 0),(3,.ptr (.loc 3) 2 3 0 0),(4,.i .i64 i)],
 [(.loc 2,⟨1,.str,3,[Zd9]⟩),(.loc 3,⟨2,.str,3,[Zbg (fz (Zmz (p.take i)))]⟩)],4⟩
end
structure Ins where
 op:Int
 a:Int
 b:Int
 n:Fz
abbrev Zol(i:Ins):List AV:=[.i .i64 i.op,.i .i64 i.a,.i .i64 i.b,.b i.n.1,.sl (Zb i.n.2.1) .an,.sl (Zb i.n.2.2) .an]
def Zj1(l:List Ins):List (List AV):=l.map Zol
@[simp] theorem zada:Zj1 []=[]:=rfl
structure Tp where
 code:List Ins
 outs:List Int
 dim:Int
 par:Int
abbrev etp(t:Tp):AV:=.agg [.sl (Zj1 t.code) .an,.sl (ints t.outs) .an,.i .i64 t.dim,.i .i64 t.par]
def Zbb(x:Fz):Bool:=decide (x=fz (fv x))
def Zni(x:Fz):Bool:=!x.1&&x.2.1.isEmpty&&x.2.2.isEmpty
def Zi5(i:Ins):List Int:=if i.op=6∨i.op=11 then [i.a] else if 7≤i.op∧i.op≤10 then [i.a,i.b] else []
def Zgk(i m:Int):Bool:=decide (0≤i)&&decide (i<m)
def Zom(dim par p:Int)(i:Ins):Bool:=
 if i.op=1 then decide (i.a=0)&&decide (i.b=0)&&Zbb i.n
 else Zni i.n&&(Zi5 i).all (fun r=>Zgk r p) &&
  (if i.op=2 then decide (i.a=0)&&decide (i.b=0)
   else if i.op=3 then Zgk i.a dim&&decide (i.b=0)
   else if i.op=4 then Zgk i.a par&&decide (i.b=0)
   else if i.op=6 then decide (i.b=0)
   else if i.op=11 then decide (-8≤i.b)&&decide (i.b≤8)
   else decide ((Zi5 i).length=2))
def Zj2(dim par:Int):Nat→List Ins→Int
 | _,[]=>-1
 | p,i::r=>if Zom dim par p i then Zj2 dim par (p+1) r else p
def Znj(t:Tp):Bool:=Zgk (t.dim-1) 6&&Zgk t.par 7&&decide ((t.outs.length:Int)=t.dim)&&decide (t.code.length≤300)
def Znk(t:Tp):Int:=
 if Znj t=false then -2 else if Zj2 t.dim t.par 0 t.code≠-1 then Zj2 t.dim t.par 0 t.code
 else if (t.outs.all fun o=>Zgk o t.code.length)=false then t.code.length else -1
def okT(t:Tp):Bool:=decide (Znk t=-1)
structure OkTp (t:Tp):Prop where
 d1:1≤t.dim
 d2:t.dim≤6
 p1:0≤t.par
 p2:t.par≤6
 ol:(t.outs.length:Int)=t.dim
 cl:t.code.length≤300
 may:∀(k:Nat) (i:Ins),t.code[k]? = some i→Zom t.dim t.par k i=true
 outs:∀o∈t.outs,0≤o∧o<t.code.length
structure Po where
 t:Rat
 y:List Rat
 p:List Rat
structure PoF where
 t:Fz
 y:List Fz
 p:List Fz
def PoF.v(x:PoF):Po:=⟨fv x.t,x.y.map fv,x.p.map fv⟩
def Po.f(x:Po):PoF:=⟨fz x.t,fzs x.y,fzs x.p⟩
abbrev ept(x:PoF):AV:=.agg [.b x.t.1,.sl (Zb x.t.2.1) .an,.sl (Zb x.t.2.2) .an,.sl (Zd x.y) .an,.sl (Zd x.p) .an]
def gI(l:List Rat)(i:Int):Rat:=l.getD i.toNat 0
def Zon(x:Rat)(e:Int):Rat:=x^e
def Zjq(P:Po)(D:List Rat)(i:Ins):Rat×Bool:=
 if i.op=1 then (fv i.n,true)
 else if i.op=3 then (gI P.y i.a,true)
 else if i.op=4 then (gI P.p i.a,true)
 else if i.op=6 then (-gI D i.a,true)
 else if i.op=7 then (gI D i.a+gI D i.b,true)
 else if i.op=8 then (gI D i.a-gI D i.b,true)
 else if i.op=9 then (gI D i.a*gI D i.b,true)
 else if i.op=10 then (gI D i.a/gI D i.b,decide (gI D i.b≠0))
 else if i.op=11 then (if i.b<0∧gI D i.a=0 then (0,false) else (Zon (gI D i.a) i.b,true))
 else (P.t,true)
def Zmp(q:Rat):Nat:=Zdn (fz q)
def Zkn(lim:Nat)(P:Po):List Ins→List Rat→List Rat×Nat×Nat
 | [],D=>(D,0,0)
 | i::r,D=>if (Zjq P D i).2=false then ([],3,D.length) else if lim<Zmp (Zjq P D i).1 then ([],6,D.length) else Zkn lim P r (D++[(Zjq P D i).1])
abbrev tyI:Ty:=.cons (.int .i64) (.cons (.int .i64) (.cons (.int .i64) (.cons tyF .nil)))
abbrev tyT:Ty:=.cons (.sl tyI) (.cons (.sl (.int .i64)) (.cons (.int .i64) (.cons (.int .i64) .nil)))
abbrev tyP:Ty:=.cons tyF (.cons (.sl tyF) (.cons (.sl tyF) .nil))
theorem z9h{a:Int}(h:(Lit.int .i64 a).wf=true):-9223372036854775808≤a∧a<9223372036854775808:=by
 simp[Lit.wf,IntKind.min,IntKind.max,IntKind.signed,IntKind.bits]at h;omega
abbrev tyW:Ty:=.cons tyP (.cons tyP (.cons (.int .i64) .nil))
section
variable{T:Tbl}[Zam T][Zbr T]
theorem zmu(c:UInt8):Za T 185 [u8 c.toNat]=some (.b (isD c)):=by
 rw[zab Zbr.h185 rfl,b185];by_cases h1:48≤c.toNat
 ·simp -implicitDefEqProofs[isD,h1]
 ·simp -implicitDefEqProofs[isD,h1]
theorem zjp(c:UInt8):Za T 186 [u8 c.toNat]=some (.b (isL c)):=by
 rw[zab Zbr.h186 rfl,b186];by_cases h1:97≤c.toNat<;>by_cases h2:c.toNat≤122<;>by_cases h3:65≤c.toNat<;>by_cases h4:c.toNat≤90<;>by_cases h5:c.toNat=95 <;>
  simp -implicitDefEqProofs[isL,h1,h2,h3,h4,h5]
theorem zzc(c:UInt8):Za T 187 [u8 c.toNat]=some (.b (isS c)):=by rw[p187,ztd]
theorem zzd(c:UInt8):Za T 177 [u8 c.toNat]=some (.i .i64 (Zk c)):=by
 have h1:=zmu (T:=T) c;have h2:=zjp (T:=T) c;have h3:=zzc (T:=T) c;rw[zab Zbr.h177 rfl,b177];cases e1:isD c<;>cases e2:isL c<;>cases e3:isS c<;>simp -implicitDefEqProofs[Zk,h1,h2,h3,e1,e2,e3]
theorem zze(k:Nat)(c:UInt8):Za T 188 [.i .i64 k,u8 c.toNat]=some (.b (Za2 k c)):=by
 have h1:=zmu (T:=T) c;have h2:=zjp (T:=T) c;rw[zab Zbr.h188 rfl,b188];by_cases k1:k=1
 ·subst k1;cases e1:isD c<;>cases e2:isL c<;>simp -implicitDefEqProofs[Za2,h1,e1,e2]
 ·have k1':¬ (k:Int)=1:=by omega
  by_cases k2:k=2
  ·subst k2;cases e1:isD c<;>cases e2:isL c<;>simp -implicitDefEqProofs[Za2,h1,h2,e1,e2]
  ·have k2':¬ (k:Int)=2:=by omega
   simp -implicitDefEqProofs[Za2,k1,k2,k1',k2']
theorem zzf(k:Nat):Za T 179 [.i .i64 k]=some (.i .i64 (Zaw k)):=by
 rw[zab Zbr.h179 rfl,b179];by_cases k1:k=1
 ·subst k1;simp -implicitDefEqProofs[Zaw]
 ·have k1':¬ (k:Int)=1:=by omega
  by_cases k2:k=2
  ·subst k2;simp -implicitDefEqProofs[Zaw]
  ·have k2':¬ (k:Int)=2:=by omega
   simp -implicitDefEqProofs[Zaw,k1,k2,k1',k2']
theorem zsa(s:List UInt8)(hs:s.length≤1000000)(k F:Nat):∀n:Nat,(n≤s.length∧n+((s.drop n).takeWhile (Za2 k)).length=F) →
  Zj T 0 0 (.norm false [5]) l178_0 ⟨[(0,.s s),(1,.i .i64 k),(5,.i .i64 n)],[],2⟩=some (.n,⟨[(5,.i .i64 F)],[],2⟩):=by
 refine zav (fun n:Nat=>⟨[(0,.s s),(1,.i .i64 k),(5,.i .i64 n)],[],2⟩) _ (fun n=>s.length-n) _ ?_
 rintro n ⟨hn,hF⟩
 by_cases h0:n<s.length
 ·have hd:=Yj h0;have hgo:=zze (T:=T) k (s[n]'h0);have hw:IntKind.wrap .i64 ((n:Int)+1)=((n+1:Nat):Int):=zac _ (by omega);by_cases hc:Za2 k (s[n]'h0)=true
  ·left;rw[hd,Yb5 hc]at hF;refine⟨n+1,⟨h0,by grind⟩,by omega,?_,rfl⟩;simp -implicitDefEqProofs[l178_0,h0,hgo,hc,hw]
  ·right;rw[hd,Ycz hc]at hF;subst hF;constructor<;>simp -implicitDefEqProofs[l178_0,h0,hgo,hc]
 ·right;have:n=s.length:=by omega
  subst this;rw[Y5]at hF;subst hF;constructor<;>simp -implicitDefEqProofs[l178_0]
theorem zvj(c:UInt8)(r:List UInt8)(hs:r.length≤100000)(k:Nat):Za T 178 [.s (c::r),.i .i64 k]=some (.i .i64 (Z6 k r)):=by
 have h:=zsa (T:=T) (c::r) (by grind) k (Z6 k r) 1 ⟨by simp,rfl⟩;rw[zab Zbr.h178 rfl,b178]
 simp_all
theorem zh4(c:UInt8)(n:Nat)(hn:n<256):c=UInt8.ofNat n↔c.toNat=n:=by
 constructor
 ·simp_all
 ·intro h;subst h;simp
theorem z3h(c:UInt8):isB c=(decide (c.toNat=32) || decide (c.toNat=9) || decide (c.toNat=10) || decide (c.toNat=13)):=by
 have e (n:Nat) (hn:n<256):decide (c=UInt8.ofNat n)=decide (c.toNat=n):=decide_eq_decide.2 (zh4 c n hn);unfold isB;rw[show (32:UInt8)=UInt8.ofNat 32 from rfl,show (9:UInt8)=UInt8.ofNat 9 from rfl,show (10:UInt8)=UInt8.ofNat 10 from rfl,show (13:UInt8)=UInt8.ofNat 13 from rfl,e 32 (by decide),e 9 (by decide),e 10 (by decide),e 13 (by decide)]
theorem zvk(l:List UInt8)(h:l.length≤1000000):Za T 184 [.s l,.s [10]]=some (.tup [.s (l.takeWhile (· != 10)),.s ((l.dropWhile (· != 10)).drop 1),.b (l.contains 10)]):=by rw[p184,zj8 l h]
def wdR(w:Wd):List AV:=[.i .i64 w.1,.s w.2.1,.i .i64 w.2.2]
def Zaa(l:List Wd):List (List AV):=l.map wdR
@[simp] theorem zd0(l:List Wd):(Zaa l).length=l.length:=by simp[Zaa]
@[simp] theorem zdq(l:List Wd):wkL (Zaa l)=Zaa l:=by
 induction l with
 | nil=>rfl
 | cons x l ih=>simpa[Zaa,wdR,wkL,wkR]using ih
@[simp] theorem zfk(l:List Wd):((Zaa l).flatMap fun r=>r.flatMap rfA)=[]:=by
 induction l with
 | nil=>rfl
 | cons x l ih=>
  have e:Zaa (x::l)=wdR x::Zaa l:=rfl;rw[e,Yd3,ih];simp[wdR,rfA]
theorem zjq(l:List Wd)(k a:Nat)(t:List UInt8):wkL (List.take l.length (Zaa l)++[[AV.i .i64 k,.s t,.i .i64 a]])=Zaa (l++[(k,t,a)]):=by
 rw[Yb (by simp),show Zaa l++[[AV.i .i64 k,.s t,.i .i64 a]]=Zaa (l++[(k,t,a)]) by simp[Zaa,wdR],zdq]
def Zp6(s:List UInt8)(i:Nat)(acc:List Wd):St:=
 ⟨[(0,.s s),(3,.ptr (.loc 3) 1 4 0 0),(4,.bs (.loc 4) 2 3 0 acc.length),(5,.i .i64 i)],[(.loc 3,⟨1,.str,4,[[.i .i64 0,.i .i64 0,.i .i64 0,.i .i64 0]]⟩),(.loc 4,⟨2,.own,3,Zaa acc⟩)],4⟩
def Zp7:Except Nat (List Wd)→Option (Ex×St)
 | .ok ws=>some (.n,⟨[(3,.ptr (.loc 3) 1 4 0 0),(4,.bs (.loc 4) 2 3 0 ws.length)],[(.loc 3,⟨1,.str,4,[[.i .i64 0,.i .i64 0,.i .i64 0,.i .i64 0]]⟩),(.loc 4,⟨2,.own,3,Zaa ws⟩)],4⟩)
 | .error e=>some (.r,⟨[(2,.sl [] .an),(3,.ptr (.loc 3) 1 4 0 0)],[(.loc 3,⟨1,.str,4,[[.i .i64 1,.i .i64 0,.i .i64 0,.i .i64 e]]⟩)],3⟩)
def Zop(r:Except Nat (List Wd)):AV:=
 match r with
 | .ok ws=>.tup [.sl (Zaa ws) .an,.agg [.i .i64 0,.i .i64 0,.i .i64 0,.i .i64 0]]
 | .error e=>.tup [.sl [] .an,.agg [.i .i64 1,.i .i64 0,.i .i64 0,.i .i64 e]]
def Zjc(s:List UInt8):Except Nat (List Wd):=if 4000<s.length then .error 4000 else Zdj (s.drop (Zbj false s)) (Zbj false s) []
def Zaj(k:Int)(t:List UInt8):Bool:=
 match t with
 | []=>false
 | c::r=>decide (k≠0)&&decide ((Zk c:Int)=k)&&decide (Z6 (Zk c) r=r.length+1)&&decide (r.length+1≤Zaw (Zk c))
theorem zmv(k a:Int)(t:List UInt8)(ht:t.length≤100000):Za T 172 [.agg [.i .i64 k,.s t,.i .i64 a]]=some (.b (Zaj k t)):=by
 rw[zab Zbr.h172 rfl,b172];cases t with
 | nil=>simp -implicitDefEqProofs[Zaj]
 | cons c r=>
  simp only[Ym]at ht;have hk:=zzd (T:=T) c;have hf:=zvj (T:=T) c r (by omega) (Zk c);have hm:=zzf (T:=T) (Zk c);by_cases h0:k=0
  ·simp -implicitDefEqProofs[Zaj,h0]
  ·by_cases h1:(Zk c:Int)=k
   ·subst h1;have h0':¬ Zk c=0:=by omega
    by_cases h2:Z6 (Zk c) r=r.length+1
    ·by_cases h3:r.length+1≤Zaw (Zk c)
     ·have h3':(r.length:Int)+1≤(Zaw (Zk c):Nat):=by omega
      simp -implicitDefEqProofs[Zaj,h0',hk,hf,hm,h2,h3,h3']
     ·have h3':¬ (r.length:Int)+1≤(Zaw (Zk c):Nat):=by omega
      simp -implicitDefEqProofs[Zaj,h0',hk,hf,hm,h2,h3,h3']
    ·have h2':¬ ((Z6 (Zk c) r:Nat):Int)=(r.length:Int)+1:=by omega
     simp -implicitDefEqProofs[Zaj,h0',hk,hf,h2,h2']
   ·simp -implicitDefEqProofs[Zaj,h0,hk,h1]
abbrev Wz:=Int×List UInt8×Int
def wzR(w:Wz):List AV:=[.i .i64 w.1,.s w.2.1,.i .i64 w.2.2]
def Znx(l:List Wz):List (List AV):=l.map wzR
def Zre(l:List Wz)(i:Nat)(b:BId):St:=
 ⟨[(3,.bs (.loc 3) 1 1 0 i),(6,.sl (Znx l) .an),(7,.i .i64 l.length),(8,.i .i64 i)],[(.loc 3,⟨1,.own,1,Zae ((l.take i).map (·.2.1))⟩)],3⟩
end
structure Tr where
 t:Fz
 w:Fz
 h:Fz
 e:Fz
 y:List Fz
 ok:Bool
abbrev Zpp(r:Tr):List AV:=[.b r.t.1,.sl (Zb r.t.2.1) .an,.sl (Zb r.t.2.2) .an,.b r.w.1,.sl (Zb r.w.2.1) .an,.sl (Zb r.w.2.2) .an,.b r.h.1,.sl (Zb r.h.2.1) .an,.sl (Zb r.h.2.2) .an,.b r.e.1,.sl (Zb r.e.2.1) .an,.sl (Zb r.e.2.2) .an,.sl (Zd r.y) .an,.b r.ok]
def Zes(l:List Tr):List (List AV):=l.map Zpp
@[simp] theorem zaaa:Zes []=[]:=rfl
structure Hs where
 l:List Tr
 t:Fz
 y:List Fz
abbrev ehs(h:Hs):AV:=.agg [.sl (Zes h.l) .an,.b h.t.1,.sl (Zb h.t.2.1) .an,.sl (Zb h.t.2.2) .an,.sl (Zd h.y) .an]
def Zi3(l:List Fz):Bool:=l.all Zbb
def Tr.nums(r:Tr):List Fz:=[r.t,r.w,r.h,r.e]
def Znc(h:Hs):Bool:=(h.l.all fun r=>Zi3 r.nums&&Zi3 r.y)&&(Zbb h.t&&Zi3 h.y)
def Zoe(h:Hs):Bool:=(h.l.all fun r=>decide (r.y.length=h.y.length))&&(decide (1≤h.y.length)&&decide (h.y.length≤6))
def Zof(r:Tr):Bool:=decide (0<fv r.w)&&decide (0<fv r.h)&&decide (fv r.h≤fv r.w)&&decide (0≤fv r.e)
def Znd(h:Hs):Bool:=h.l.all Zof
def Zog(r:Tr)(at_:Fz)(y:List Fz):Bool:=if r.ok then decide (fv at_=fv r.t+fv r.h) else decide (fv at_=fv r.t)&&decide (y.map fv=r.y.map fv)
def Zmy(l:List Tr)(t:Fz)(y:List Fz):Fz×List Fz:=match l with | []=>(t,y) | r::_=>(r.t,r.y)
def Zly:List Tr→Fz→List Fz→Bool
 | [],_,_=>true
 | r::l,t,y=>Zog r (Zmy l t y).1 (Zmy l t y).2&&Zly l t y
def Zne(h:Hs):Bool:=Zly h.l h.t h.y
def Znf(h:Hs):Int:=if !Znc h then 1 else if !Zoe h then 2 else if 200<h.l.length then 3 else if !Znd h then 4 else if !Zne h then 5 else 0
def Zpq(h:Hs):Bool:=decide (Znf h=0)
def Zpr(r:Tr):Tr:=⟨fz (fv r.t),fz (fv r.w),fz (fv r.h),fz (fv r.e),nrm r.y,r.ok⟩
def Zmm(l:List Tr):List Tr:=(l.filter (·.ok)).map Zpr
def Zq2(h:Hs):List Fz:=(Zmm h.l).map (·.t)++[fz (fv h.t)]
def Zq3(h:Hs):List (List Fz):=(Zmm h.l).map (·.y)++[nrm h.y]
def Zsv(h:Hs):List Fz:=(Zmm h.l).map (·.h)
structure HsS (h:Hs) (B:Nat):Prop where
 len:h.l.length≤1000
 t:fsz h.t≤B
 y:∀x∈h.y,fsz x≤B
 yl:h.y.length≤1000
 rt:∀r∈h.l,∀x∈r.nums,fsz x≤B
 ry:∀r∈h.l,∀x∈r.y,fsz x≤B
 rl:∀r∈h.l,r.y.length≤1000
theorem zos:∀(a b:List UInt32),a.length=b.length→val a=val b→a=b
 | [],[],_,_=>rfl
 | x::a,y::b,hl,hv=>by
  simp only[zal]at hv;have hx:=zak x;have hy:=zak y;have h1:x.toNat=y.toNat:=by omega
  have h2:val a=val b:=by omega
  rw[Yed.1 h1,zos a b (by simpa using hl) h2]
 | [],_::_,hl,_=>by simp at hl
 | _::_,[],hl,_=>by simp at hl
theorem zfi{x y:Nat}:Zdf x y=0↔x=y:=by
 grind[Zdf]
section
variable{T:Tbl}[Z0 T][Zq T][Zv T][Zy T][Zr T][Zn T][Zf T][Zg T][Zw T][Zak T]
theorem zr7(x:Fz)(hx:fsz x≤10000):Za T 208 [efz x]=some (.b (Zbb x)):=by
 have hn:=zu9 (T:=T) x hx;have hs:=ze4 (x:=x) (L:=10000) hx (by decide);have l1:=znt (fv x);have l2:=zj7 (fv x);unfold Zbb;have e':fz (fv x)=(decide ((fv x).num<0),ofN (fv x).num.natAbs,ofN (fv x).den):=rfl;rw[e']at hn ⊢;obtain⟨n,a,d⟩:=x;have la:=zdr (n,a,d);have ld:=zds (n,a,d);simp only at la ld;generalize decide ((fv (n,a,d)).num<0)=m at *
 generalize ofN (fv (n,a,d)).num.natAbs=b at *
 generalize ofN (fv (n,a,d)).den=e at *
 have c1:=zh6 (T:=T) a b (by omega) (by omega);have c2:=zh6 (T:=T) d e (by omega) (by omega);rw[zab Zak.h208 rfl,b208];by_cases h1:n=m
 case neg=>
  have hd:decide ((n,a,d)=(m,b,e))=false:=by grind
  have hb:(n == m)=false:=by grind
  rw[hd];simp -implicitDefEqProofs[hn,hb]
 subst h1;by_cases h2:a.length=b.length
 case neg=>
  have hd:decide ((n,a,d)=(n,b,e))=false:=by
   grind
  have hb:((a.length:Int) == b.length)=false:=by grind
  rw[hd];simp -implicitDefEqProofs[hn,hb]
 by_cases h3:d.length=e.length
 case neg=>
  have hd:decide ((n,a,d)=(n,b,e))=false:=by
   grind
  have hb:((d.length:Int) == e.length)=false:=by grind
  rw[hd];simp -implicitDefEqProofs[hn,h2,hb]
 by_cases h4:val a=val b
 case neg=>
  have hd:decide ((n,a,d)=(n,b,e))=false:=by
   grind
  have hc:¬ Zdf (val a) (val b)=0:=fun h=>h4 (zfi.1 h);rw[hd];simp -implicitDefEqProofs[hn,h2,h3,c1,hc]
 have hab:=zos a b h2 h4;subst hab;have hk:Zdf (val a) (val a)=0:=zfi.2 rfl;rw[hk]at c1;by_cases h5:val d=val e
 case neg=>
  have hd:decide ((n,a,d)=(n,a,e))=false:=by
   grind
  have hc:¬ Zdf (val d) (val e)=0:=fun h=>h5 (zfi.1 h);rw[hd];simp -implicitDefEqProofs[hn,h3,c1,c2,hc]
 have hde:=zos d e h3 h5;subst hde;have hk2:Zdf (val d) (val d)=0:=zfi.2 rfl;rw[hk2]at c2;have hd:decide ((n,a,d)=(n,a,d))=true:=by simp
 simp -implicitDefEqProofs[hn,c1,c2]
def Zq7(a:List UInt32)(k i:Nat):St:=⟨[(0,.sl (Zb a) .an),(5,.sl (Zb (ofN (val a^i))) .an),(7,.i .i64 k),(8,.i .i64 i)],[],2⟩
def Zq8(q:Rat)(e:Int):Rat×Bool:=if -8≤e∧e≤8∧¬ (e<0∧q=0) then (Zon q e,true) else (0,false)
end
@[simp] theorem zpi(l:List Int):(ints l).length=l.length:=by simp[ints]
@[simp] theorem ze2(l:List Int):wkL (ints l)=ints l:=by rw[zb3];simp[ints,wkR,wkA]
@[simp] theorem ints_get?(l:List Int)(i:Nat):(ints l)[i]? = (l[i]?).map fun x=>[.i .i64 x]:=by simp[ints]
@[simp] theorem z0h:ints []=[]:=rfl
section
variable{T:Tbl}[Z0 T][Zq T][Zv T][Zy T][Zr T][Zn T][Zf T][Zg T][Zw T][Zak T][Zb0 T]
def Zss(t:Tp)(p:Nat)(x:Ins)(i:Nat):St:=
 ⟨[(1,.i .i64 p),(2,.ptr (.loc 2) 1 4 0 0),(5,.ptr (.loc 5) 2 6 0 0),(30,.sl (ints (Zi5 x)) .an),(31,.i .i64 (Zi5 x).length),(32,.i .i64 i)],
  [(.loc 2,⟨1,.str,4,[[.sl (Zj1 t.code) .an,.sl (ints t.outs) .an,.i .i64 t.dim,.i .i64 t.par]]⟩),(.loc 5,⟨2,.str,6,[Zol x]⟩)],4⟩
end
section
variable{T:Tbl}[Z0 T][Zq T][Zv T][Zy T][Zr T][Zn T][Zf T][Zg T][Zw T][Zak T][Zb0 T]
structure Small (t:Tp):Prop where
 code:t.code.length≤4294967296
 outs:t.outs.length≤4294967296
 ns:∀i∈t.code,fsz i.n≤10000
 d1:-9223372036854775808≤t.dim
 d2:t.dim<9223372036854775808
def bxT(t:Tp):Box:=⟨1,.str,4,[[.sl (Zj1 t.code) .an,.sl (ints t.outs) .an,.i .i64 t.dim,.i .i64 t.par]]⟩
def Zst(t:Tp)(i:Nat):St:=⟨[(1,.ptr (.loc 1) 1 4 0 0),(11,.i .i64 t.code.length),(12,.i .i64 i)],[(.loc 1,bxT t)],3⟩
def Zsu(t:Tp)(i:Nat):St:=⟨[(1,.ptr (.loc 1) 1 4 0 0),(22,.sl (ints t.outs) .an),(23,.i .i64 t.outs.length),(24,.i .i64 i)],[(.loc 1,bxT t)],3⟩
end
def Zou(n:Int):Int:=if n<0 then 0 else if 4096<n then 4096 else n
abbrev bxG(g:Nat)(s p L:Int):Box:=⟨g,.str,3,[[.i .i64 s,.i .i64 p,.i .i64 L]]⟩
def Znq(s:Int):Int:=IntKind.wrap .i64 (s+1)
def Znr(p:Int)(x:Fz):Int:=if p<(Zdn x:Int) then (Zdn x:Int) else p
section
variable{T:Tbl}[Z0 T][Zq T][Zv T][Zy T][Zr T][Zn T][Zf T][Zg T][Zw T][Zak T][Zan T][Zbv T][Zb0 T][Za8 T][Zch T]
theorem zr8(x:Fz)(hx:fsz x≤10000):Za T 223 [efz x]=some (.i .i64 (Zdn x)):=by
 have h1:=zdr x;have h2:=zds x;have c1:=zg3 (T:=T) x.2.1 (by omega);have c2:=zg3 (T:=T) x.2.2 (by omega);have b1:=zei (x:=val x.2.1) (k:=10000) (Yc (zad x.2.1) (by omega));have b2:=zei (x:=val x.2.2) (k:=10000) (Yc (zad x.2.2) (by omega));have w:IntKind.wrap .i64 ((Z7 (val x.2.1):Int)+(Z7 (val x.2.2):Int))=((Zdn x:Nat):Int):=by
  have e:((Zdn x:Nat):Int)=(Z7 (val x.2.1):Int)+(Z7 (val x.2.2):Int):=by unfold Zdn;omega
  rw[e];exact zac _ (by omega)
 rw[zab Zan.h223 rfl,b223];generalize Zdn x=S at *
 generalize Z7 (val x.2.1)=B1 at *
 generalize Z7 (val x.2.2)=B2 at *
 simp -implicitDefEqProofs[c1,c2,w]
def Zq9(l:List Fz)(i:Nat):St:=⟨[(3,.bs (.loc 3) 1 3 0 i),(6,.sl (Zd l) .an),(7,.i .i64 l.length),(8,.i .i64 i)],[(.loc 3,⟨1,.own,3,Zd (nrm (l.take i))⟩)],3⟩
structure PoS (x:PoF) (B:Nat):Prop where
 t:fsz x.t≤B
 y:∀u∈x.y,fsz u≤B
 p:∀u∈x.p,fsz u≤B
 yl:x.y.length≤1000
 pl:x.p.length≤1000
end
abbrev mD:AV:=.agg [.dead]
theorem zqy{n b:Nat}(h:Z7 n≤b):(ofN n).length≤b/32+1:=by
 refine zag ?_;unfold Z7 at h;split at h
 ·grind
 ·rename_i h0;have h1:n<2^(n.log2+1):=(Ydp h0).1 (Yz _);have h3:(4294967296:Nat)^(b/32+1)=2^(32*(b/32+1)):=by rw[Ydr]
  have h2:2^(n.log2+1)≤2^(32*(b/32+1)):=Yk (by decide) (by omega);omega
theorem z4n{q:Rat}{b:Nat}(h:Zmp q≤b):sz q≤b/32+1:=by
 unfold Zmp Zdn fz at h;rw[zae,zae]at h;exact Yen.2 ⟨zqy (Yc (Ydh _ _) h),zqy (Yc (Nat.le_add_left _ _) h)⟩
structure PvS (P:Po) (B:Nat):Prop where
 t:sz P.t≤B
 y:∀q∈P.y,sz q≤B
 p:∀q∈P.p,sz q≤B
def Zlo(lim:Nat)(P:Po):List Ins→List Rat→Int→Int→Int×Int
 | [],_,s,p=>(s,p)
 | i::r,D,s,p=>if (Zjq P D i).2=false then (s,p) else if lim<Zmp (Zjq P D i).1 then (Znq s,Znr p (fz (Zjq P D i).1)) else Zlo lim P r (D++[(Zjq P D i).1]) (Znq s) (Znr p (fz (Zjq P D i).1))
abbrev bxM:Box:=⟨3,.str,1,[[.ptr (.bor 0) 0 3 0 0]]⟩
abbrev bxP(g:Nat)(x:PoF):Box:=⟨g,.str,5,[[.b x.t.1,.sl (Zb x.t.2.1) .an,.sl (Zb x.t.2.2) .an,.sl (Zd x.y) .an,.sl (Zd x.p) .an]]⟩
abbrev bxF(g:Nat)(a b c d:Int):Box:=⟨g,.str,4,[[.i .i64 a,.i .i64 b,.i .i64 c,.i .i64 d]]⟩
def Zqp(Q:PoF)(L:Int)(code:List Ins)(i:Nat)(D:List Fz)(s p:Int)(kd:Kind):St:=
 ⟨[(3,.ptr (.loc 3) 3 1 0 0),(5,.ptr (.loc 5) 4 5 0 0),(7,.ptr (.loc 7) 5 4 0 0),(8,.bs (.loc 8) 6 3 0 i),(34,.sl (Zj1 code) .an),(35,.i .i64 code.length),(36,.i .i64 i)],
  [(.bor 0,bxG 0 s p L),(.loc 3,bxM),(.loc 5,bxP 4 Q),(.loc 7,bxF 5 0 0 0 0),(.loc 8,⟨6,kd,3,Zd D⟩)],8⟩
def Zo9(n:Nat)(D:List Fz)(s p L:Int)(kd:Kind):Ex×St:=(.n,⟨[(7,.ptr (.loc 7) 3 4 0 0),(8,.bs (.loc 8) 4 3 0 n)],[(.bor 0,bxG 0 s p L),(.loc 7,bxF 3 0 0 0 0),(.loc 8,⟨4,kd,3,Zd D⟩)],6⟩)
def Zpa(kind at_ s p L:Int):Ex×St:=(.r,⟨[(6,.sl [] .an),(7,.ptr (.loc 7) 3 4 0 0)],[(.bor 0,bxG 0 s p L),(.loc 7,bxF 3 kind 0 0 at_)],5⟩)
section
variable{T:Tbl}[Z0 T][Zq T][Zv T][Zy T][Zr T][Zn T][Zf T][Zg T][Zw T][Zak T][Zan T][Zbv T][Zb0 T][Za8 T][Zch T][Zdx T][Zdw T]
def kdE(kd:Kind)(l:List Ins):Kind:=if l=[] then kd else .sh
def Zpb(lim:Nat)(P:Po)(code l:List Ins)(D:List Rat)(s p:Int)(kd:Kind):Ex×St:=
 if (Zkn lim P l D).2.1=0 then Zo9 code.length (fzs (Zkn lim P l D).1) (Zlo lim P l D s p).1 (Zlo lim P l D s p).2 lim (kdE kd l)
 else Zpa (Zkn lim P l D).2.1 (Zkn lim P l D).2.2 (Zlo lim P l D s p).1 (Zlo lim P l D s p).2 lim
end
def Zpc(t:Tp)(y p:Nat):Bool:=okT t&&decide ((y:Int)=t.dim)&&decide ((p:Int)=t.par)
def Zlp(lim:Nat)(t:Tp)(P:Po):List Rat×Nat×Nat:=if Zpc t P.y.length P.p.length=true then Zkn lim P t.code [] else ([],2,0)
def Zn3(t:Tp)(D:List Rat):List Rat:=t.outs.map (gI D)
def Zm9(lim:Nat)(t:Tp)(P:Po):List Rat×Nat×Nat:=if (Zlp lim t P).2.1=0 then (Zn3 t (Zlp lim t P).1,0,0) else ([],(Zlp lim t P).2)
structure TpS (t:Tp):Prop where
 small:Small t
 ns:∀i∈t.code,fsz i.n≤1000
abbrev Zr8(k s g a:Int):AV:=.agg [.i .i64 k,.i .i64 s,.i .i64 g,.i .i64 a]
section
variable{T:Tbl}[Z0 T][Zq T][Zv T][Zy T][Zr T][Zn T][Zf T][Zg T][Zw T][Zak T][Zan T][Zbv T][Zb0 T][Za8 T][Zch T][Zdx T][Zdw T]
def Zpd(n:Int):Nat:=(Zou n).toNat
def Zr9(D:List Fz)(outs:List Int)(E:List Fz)(i:Nat)(kd:Kind):St:=
 ⟨[(1,.sl (Zd D) .an),(5,.bs (.loc 5) 1 3 0 i),(20,.sl (ints outs) .an),(21,.i .i64 outs.length),(22,.i .i64 i)],[(.loc 5,⟨1,.own,3,Zd (E.take i)⟩)],3⟩
end
structure Sm where
 nm:List UInt8
 c:List Fz
 a:List (List Fz)
 b:List Fz
 e:List Fz
abbrev esm(s:Sm):AV:=.agg [.s s.nm,.sl (Zd s.c) .an,.sl (Zs s.a) .an,.sl (Zd s.b) .an,.sl (Zd s.e) .an]
def Za1:List (List Fz)→Nat→Bool
 | [],_=>true
 | r::l,i=>decide (r.length=i)&&Za1 l (i+1)
def Zbt(s:Sm):Bool:=decide (1≤s.b.length)&&decide (s.b.length≤8)&&decide (s.c.length=s.b.length)&&decide (s.a.length=s.b.length)&&(decide (s.e.length=s.b.length) || decide (s.e.length=0))&&Za1 s.a 0
def Za6(x:Fz):Bool:=Zbb x&&decide (Zdn x≤190)
def Zcm(m:List (List Fz)):Bool:=m.all fun r=>r.all Za6
def sumF(l:List Fz):Rat:=l.foldl (fun s x=>s+fv x) 0
def Zbu(a:List (List Fz))(c:List Fz):Bool:=(a.zip c).all fun p=>decide (sumF p.1=fv p.2)
def Zb6(s:Sm):Int:=
 if !Zaj 2 s.nm then 1 else if !Zbt s then 2 else if !(Zcm s.a&&Zcm [s.b,s.c,s.e]) then 3
 else if !Zbu s.a s.c then 4 else if sumF s.b≠1 then 5 else if s.e≠[]∧sumF s.e≠1 then 6 else 0
def okS(s:Sm):Bool:=decide (Zb6 s=0)
structure SmS (s:Sm):Prop where
 nm:s.nm.length≤1000
 cl:s.c.length≤1000
 al:s.a.length≤1000
 bl:s.b.length≤1000
 el:s.e.length≤1000
 c:∀x∈s.c,fsz x≤300
 a:∀r∈s.a,r.length≤1000∧∀x∈r,fsz x≤300
 b:∀x∈s.b,fsz x≤300
 e:∀x∈s.e,fsz x≤300
structure Pb where
 t:Tp
 s:Sm
 p:List Fz
 bits:Int
abbrev epb(p:Pb):AV:=.agg [.sl (Zj1 p.t.code) .an,.sl (ints p.t.outs) .an,.i .i64 p.t.dim,.i .i64 p.t.par,.s p.s.nm,.sl (Zd p.s.c) .an,.sl (Zs p.s.a) .an,.sl (Zd p.s.b) .an,.sl (Zd p.s.e) .an,.sl (Zd p.p) .an,.i .i64 p.bits]
def okP(p:Pb):Bool:=okT p.t&&okS p.s&&decide ((p.p.length:Int)=p.t.par)
abbrev Zk6:Ty:=.cons .str (.cons (.sl tyF) (.cons (.sl (.sl tyF)) (.cons (.sl tyF) (.cons (.sl tyF) .nil))))
abbrev Zq5:Ty:=.cons tyT (.cons Zk6 (.cons (.sl tyF) (.cons (.int .i64) .nil)))
abbrev Zot:Ty:=.cons tyF (.cons tyF (.cons tyF (.cons tyF (.cons (.sl tyF) (.cons .bool .nil)))))
abbrev Zq6:Ty:=.cons (.sl Zot) (.cons tyF (.cons (.sl tyF) .nil))
theorem zrz{cs:List AV}(h:Ok (.sl (.sl tyF)) cs):∃m:List (List Fz),wkR cs=[.sl (Zs m) .an]:=by
 obtain⟨els,f,rfl,_,_,he⟩:=h;obtain⟨m,hm⟩:=zmo els he;exact⟨m,by simp[wkR,wkA,hm]⟩
theorem zyy{cs:List AV}(h:Ok Zk6 cs):∃s:Sm,wkR cs=[.s s.nm,.sl (Zd s.c) .an,.sl (Zs s.a) .an,.sl (Zd s.b) .an,.sl (Zd s.e) .an]:=by
 obtain⟨c1,c1',rfl,⟨nm,rfl,_⟩,c2,c2',rfl,h2,c3,c3',rfl,h3,c4,c4',rfl,h4,c5,c5',rfl,h5,rfl⟩:=h;obtain⟨c,e2⟩:=zdz h2;obtain⟨a,e3⟩:=zrz h3;obtain⟨b,e4⟩:=zdz h4;obtain⟨e,e5⟩:=zdz h5;refine⟨⟨nm,c,a,b,e⟩,?_⟩;simp only[zr1,e2,e3,e4,e5]
 rfl
theorem z24{x:AV}(h:Zh8 (true,Zk6) x):∃s:Sm,wkA x=esm s:=by
 obtain⟨cs,rfl,hc⟩:=h;obtain⟨s,e⟩:=zyy hc;exact⟨s,by rw[wkA,e]⟩
theorem zjm:∀(els:List (List AV)),(∀r∈els,Ok (.int .i64) r)→∃m:List Int,wkL els=ints m∧∀x∈m,-9223372036854775808≤x∧x<9223372036854775808
 | [],_=>⟨[],rfl,by simp⟩
 | r::els,h=>by
  obtain⟨m,hm,hb⟩:=zjm els fun r hr=>h r (Ys _ hr);obtain⟨n,rfl,hn⟩:=h r Y9;refine⟨n::m,?_,fun x hx=>?_⟩
  ·simp only[wkL,hm]
   rfl
  ·rcases Y2.1 hx with rfl | hx
   ·exact z9h hn
   ·exact hb x hx
theorem zyz{x:AV}(h:Zh8 (false,.sl (.int .i64)) x):∃l:List Int,wkA x=.sl (ints l) .an∧∀y∈l,-9223372036854775808≤y∧y<9223372036854775808:=by
 obtain⟨els,f,hx,_,_,he⟩:=(h:Ok (.sl (.int .i64)) [x]);cases hx;obtain⟨m,hm,hb⟩:=zjm els he;exact⟨m,by simp[wkA,hm],hb⟩
end Go.Ab
section
namespace Go.Proofs.YtajopjoiaogapaaGreatDoor
open Go Go.Ab Go.ChangeShapes Go.WideShapes Go.ChangeAt Go.RowKit
theorem Tryz.own:ownKnob Tryz.prog.godebug=none:=by kernel_rfl
theorem Tryz.laidOut:laidOutB Tryz.prog=true:=by kernel_rfl
theorem Tryz.mixed:Tryz.prog.follows .mixedOrders=true:=by kernel_rfl
theorem Tryz.rowed:mapsRowed Tryz.prog=true:=by kernel_rfl
theorem Tryz.heard:Tryz.prog.stopsHeard=true:=by kernel_rfl
theorem Tryz.enters:Tryz.prog.mayEnter=true:=by kernel_rfl
theorem Tryz.keys:Tryz.prog.plainKeys=Rows.orderTreesRow.plainKeys:=by kernel_rfl
theorem Tryz.lifts:Tryz.prog.liftsFinal=Rows.orderTreesRow.lifted:=by kernel_rfl
theorem Tryz.makes:Tryz.prog.make=some Rows.orderTreesRow.make:=by kernel_rfl
def laid2:List (String×DataW Unit):=[("unicode/utf8.acceptRanges",Rows.laid_unicode_utf8_acceptRanges),("unicode/utf8.first",Rows.laid_unicode_utf8_first)]
noncomputable def laidWorld(os:Os):World:=
 let put (h:Array Obj) (g:Nat) (cs:Array Value):Array Obj:=h.modify g fun
  | .cells _ t frozen=>.cells cs t frozen
  | o=>o
 let w0:=World.holding Tryz.prog os ⟨#[],#[],[]⟩
 let h1:=put w0.heap 1 (Lib.firstTab.map fun z=>Value.int .u8 z).toArray
 let h2:=put h1 2 ((List.range 16).flatMap fun i=>[Value.int .u8 (Lib.accLo i),Value.int .u8 (Lib.accHi i)]).toArray
 { w0 with heap:=h2 }
theorem laid_met(os:Os)(args:Array Value):laidMetH Tryz.prog laid2 ((laidWorld os).forCall (fun _ _=>0) ⟨#[],args,[]⟩).memory:=
 laidMetH_of_parts3 (fuel:=8) (laidMet_of_run' 8 (by kernel_rfl) (by kernel_rfl)) (by kernel_rfl) (by kernel_rfl)
theorem laid_shaped(os:Os):(laidWorld os).Shaped Tryz.prog:=World.shaped_of_RefB (by kernel_rfl) (by kernel_rfl)
theorem tab_all:TOk Tryz.prog nu (fun u=>lTab.lookup u):=lTab_ok (str344_ok) (str194_ok) (str361_ok) (sign_ok) (str184_ok)
end Go.Proofs.YtajopjoiaogapaaGreatDoor
end
namespace Go.Ab
class Zm4 (T:Tbl):Prop where
def Z5(c:UInt8):List UInt8→List (List UInt8)
 | []=>[[]]
 | b::l=>if b=c then []::Z5 c l else match Z5 c l with
  | []=>[[b]]
  | p::r=>(b::p)::r
theorem zc3(c:UInt8):∀l:List UInt8,(l.count c=0∧Lib.indexByte l c=-1∧Z5 c l=[l]) ∨
  ∃m:Nat,m<l.length∧Lib.indexByte l c=m∧Z5 c l=l.take m::Z5 c (l.drop (m+1))
 | []=>.inl ⟨rfl,rfl,rfl⟩
 | b::l=>by
  by_cases h:b=c
  ·right;subst h;refine⟨0,by simp,?_,?_⟩
   ·simp[Lib.indexByte]
   ·simp[Z5]
  ·have hb:(b == c)=false:=by simpa using h
   rcases zc3 c l with ⟨h1,h2,h3⟩ | ⟨m,h1,h2,h3⟩
   ·left;refine⟨by rw[List.count_cons_of_ne h,h1],by simp[Lib.indexByte,hb,h2],by simp[Z5,h,h3]⟩
   ·right;have hm:((m:Int) == -1)=false:=by simp
    refine⟨m+1,by simpa using h1,by simp[Lib.indexByte,hb,h2,hm],by simp[Z5,h,h3]⟩
theorem zb7(c:UInt8):∀l:List UInt8,(Z5 c l).length=l.count c+1
 | []=>rfl
 | b::l=>by
  have ih:=zb7 c l;by_cases h:b=c
  ·subst h;simp[Z5,ih]
  ·rw[List.count_cons_of_ne h,←ih];cases hs:Z5 c l with
   | nil=>rw[hs]at ih;simp at ih
   | cons p r=>simp[Z5,h,hs]
theorem z4s{T:Tbl}[Zc5 T](s:List UInt8)(c:UInt8):Za T 194 [.s s,.s [c]]=some (.i .i64 (Lib.indexByte s c)):=by rw[p194];rfl
theorem z4t{T:Tbl}[Zc5 T](s:List UInt8)(c:UInt8):Za T 361 [.s s,.s [c]]=some (.i .i64 ((s.count c:Nat):Int)):=by rw[p361];rfl
section
variable{T:Tbl}[Zc5 T][Zas T]
theorem znk(s:List UInt8)(c:UInt8):Za T 362 [.s s,.s [c]]=some (.i .i64 (Lib.indexByte s c)):=by
 have h:=z4s (T:=T) s c;rw[zab Zas.h362 rfl,b362];simp -implicitDefEqProofs[h]
def Zmi(c:UInt8)(N:Nat)(ps:List (List UInt8))(s:List UInt8):St:=
 ⟨[(0,.s s),(1,.s [c]),(2,.i .i64 0),(3,.i .i64 ((N:Int)-1)),(9,.bs (.loc 31) 1 1 0 N),(10,.i .i64 ps.length)],[(.loc 31,⟨1,.own,1,Zae ps++List.replicate (N-ps.length) [.s []]⟩)],3⟩
theorem zs2(c:UInt8)(all:List (List UInt8))(hN:all.length≤1000001):∀y:List (List UInt8)×List UInt8,(y.1++Z5 c y.2=all∧y.2.length≤1000000) →
  Zj T 0 0 (.norm false [0,9,10]) l354_0 (Zmi c all.length y.1 y.2)=some (.n,⟨[(0,.s (all.getLastD [])),(9,.bs (.loc 31) 1 1 0 all.length),(10,.i .i64 ((all.length:Int)-1))],[(.loc 31,⟨1,.own,1,Zae all.dropLast++[[.s []]]⟩)],3⟩):=by
 refine zav (fun y:List (List UInt8)×List UInt8=>Zmi c all.length y.1 y.2) (fun y=>y.1++Z5 c y.2=all∧y.2.length≤1000000) (fun y=>y.2.length) (fun _=>_) ?_
 rintro⟨ps,s⟩ ⟨hall,hs⟩
 simp only at hall hs;have hi:=znk (T:=T) s c;have hlen:=congrArg List.length hall;rw[Y1,zb7]at hlen;unfold Zmi;rcases zc3 c s with ⟨h1,h2,h3⟩ | ⟨m,h1,h2,h3⟩
 ·right;rw[h3]at hall;have e1:all.getLastD []=s:=by rw[←hall];simp
  have e2:all.dropLast=ps:=by rw[←hall];simp
  have e3:all.length-ps.length=1:=by omega
  have e4:¬ (ps.length:Int)<(all.length:Int)-1:=by omega
  have e5:(ps.length:Int)=(all.length:Int)-1:=by omega
  rw[e1,e2,e3,e5];have e6:List.replicate 1 [AV.s []]=[[AV.s []]]:=rfl;rw[e6];have hw:wkL (Zae ps++[[AV.s []]])=Zae ps++[[AV.s []]]:=by
   rw[zb3,Yct,←zb3,zf1]
   rfl
  have hl2:(Zae ps++[[AV.s []]]).length=all.length:=by simp;omega
  clear hall e1 e2 h3;generalize Zae ps++[[AV.s []]]=B at *
  constructor<;>simp -implicitDefEqProofs[l354_0,hw,hl2]
 ·left;rw[h2]at hi;have hpos:0<(Z5 c (s.drop (m+1))).length:=by rw[zb7];omega
  have hlen2:=congrArg List.length hall;rw[h3,Y1,Ym]at hlen2;refine⟨(ps++[s.take m],s.drop (m+1)),⟨by rw[←hall,h3];simp,by simp;omega⟩,by simp;omega,?_,rfl⟩;have q1:(ps.length:Int)<(all.length:Int)-1:=by omega
  have q2:¬ (m:Int)<0:=by omega
  have q3:IntKind.wrap .i64 ((m:Int)+0)=m:=by rw[Int.add_zero];exact zac _ (by omega)
  have q3':IntKind.wrap .i64 (m:Int)=m:=zac _ (by omega);have q4:IntKind.wrap .i64 ((m:Int)+1)=((m+1:Nat):Int):=zac _ (by omega);have q5:IntKind.wrap .i64 ((ps.length:Int)+1)=((ps.length+1:Nat):Int):=zac _ (by omega);have q6:(m:Int)≤s.length:=by omega
  have q7:((m+1:Nat):Int)≤s.length:=by omega
  have q7':m+1≤s.length:=by omega
  have q8:(m:Int)+1≤s.length:=by omega
  have e:(Zae ps++List.replicate (all.length-ps.length) [AV.s []]).set ps.length [AV.s (s.take m)]=Zae (ps++[s.take m])++List.replicate (all.length-(ps.length+1)) [AV.s []]:=by
   rw[Y7 _ _ (by simp),zc4,Ybt,show all.length-ps.length=(all.length-(ps.length+1))+1 by omega,Ybg (n:=all.length-(ps.length+1)),Ybj,
    show Zae (ps++[s.take m])=Zae ps++[[AV.s (s.take m)]] by simp[Zae],Ybd]
   rfl
  have hl:(Zae ps++List.replicate (all.length-ps.length) [AV.s []]).length=all.length:=by simp;omega
  have hk:wkL ((Zae ps++List.replicate (all.length-ps.length) [AV.s []]).set ps.length [AV.s (s.take m)])=(Zae ps++List.replicate (all.length-ps.length) [AV.s []]).set ps.length [AV.s (s.take m)]:=by
   rw[e,zb3,Yct,←zb3,zf1];simp[wkR,wkA]
  have hg:(Zae ps++List.replicate (all.length-ps.length) [AV.s []])[ps.length]? = some [AV.s []]:=by
   rw[Yl (by simp),zc4,Ybt,Ybi,if_pos (by omega)]
  simp only[Y1,Ym,Yal];rw[←e];have hnl:ps.length<all.length:=by omega
  have hnl':(ps.length:Int)<all.length:=by omega
  clear e hall h3 hpos hlen hlen2;generalize Zae ps++List.replicate (all.length-ps.length) [AV.s []]=B at *
  obtain⟨hb,hgE⟩:=Yd.1 hg;simp -implicitDefEqProofs[l354_0,hi,q1,q2,q3,q3',q4,q5,q6,q7,q7',q8,hl,hk,hg,hgE,hnl,hnl',h1]
theorem zw7(s:List UInt8)(c:UInt8)(hs:s.length≤1000000):Za T 346 [.s s,.s [c]]=some (.sl (Zae (Z5 c s)) .an):=by
 have hc:=z4t (T:=T) s c;have hcl:s.count c≤s.length:=List.count_le_length;have hlen:=zb7 c s;have h:=zs2 (T:=T) c (Z5 c s) (by omega) ([],s) ⟨by simp,hs⟩;unfold Zmi at h;simp only[Yal,Ydb,Yw]at h;have e0:Zae []=[]:=rfl;rw[e0,Yam,hlen]at h;have w1:IntKind.wrap .i64 ((s.count c:Int)+1)=((s.count c+1:Nat):Int):=zac _ (by omega);have w2:IntKind.wrap .i64 ((s.length:Int)+1)=((s.length+1:Nat):Int):=zac _ (by omega);have w3:IntKind.wrap .i64 (((s.count c+1:Nat):Int)-1)=((s.count c+1:Nat):Int)-1:=zac _ (by omega);have w4:IntKind.wrap .i64 (((s.count c+1:Nat):Int)-1+1)=((s.count c+1:Nat):Int):=by
  rw[Int.sub_add_cancel];exact zac _ (by omega)
 have mm:min ((s.count c+1:Nat):Int) ((s.length+1:Nat):Int)=((s.count c+1:Nat):Int):=by omega
 have hz:wkL (List.replicate (s.count c+1) [AV.s []])=List.replicate (s.count c+1) [AV.s []]:=by rw[zb3,List.map_replicate];rfl
 obtain⟨L,hL⟩:∃L,L=Z5 c s:=⟨_,rfl⟩;rw[←hL]at h ⊢ hlen;have hne:L≠[]:=by intro e;rw[e]at hlen;simp at hlen
 have hset:(Zae L.dropLast++[[AV.s []]]).set (s.count c) [AV.s (L.getLastD [])]=Zae L:=by
  have h1:L.dropLast.length=s.count c:=by rw[Yc1];omega
  rw[Y7 _ _ (by simp;omega),zc4,h1,Ybt,Ybj];have h2:L=L.dropLast++[L.getLastD []]:=by
   rw[List.getLastD_eq_getLast?,List.getLast?_eq_some_getLast hne,Yaq,Ycm]
  conv=>rhs;rw[h2]
  simp[Zae]
 have hl2:(Zae L.dropLast++[[AV.s []]]).length=s.count c+1:=by simp[Yc1];omega
 have hg:(Zae L.dropLast++[[AV.s []]])[s.count c]? = some [AV.s []]:=by
  rw[Yl (by simp[Yc1];omega)];simp[Yc1,hlen]
 have hr:(Zae L).length=s.count c+1:=by simp[hlen]
 have n1:¬ ((s.count c:Int)+1<0):=by omega
 have n2:(s.count c:Int)+1≤4294967296:=by omega
 have hwR:wkL (Zae L)=Zae L:=zf1 L;generalize s.count c=k at *
 generalize Zae L.dropLast++[[AV.s []]]=B at *
 obtain⟨hb,hgE⟩:=Yd.1 hg;generalize L.getLastD []=last at *
 generalize Zae L=R at *
 clear hL hne;have hk:(((k+1:Nat):Int)-1)=k:=by omega
 rw[hk]at h w3 w4;have tk:List.take (k+1) R=R:=Yb (by omega);have hnlt:¬ s.length<k:=by omega
 have nn:(0:Int)≤(k:Int)+1:=by omega
 have nt:((k:Int)+1).toNat=k+1:=by omega
 have nk:(k:Int)<(k:Int)+1:=by omega
 have nle:(k:Int)+1≤(R.length:Int):=by omega
 have nle2:(k:Int)≤(B.length:Int):=by omega
 have hg354:Za T 354 [.s s,.s [c],.i .i64 0,.i .i64 (-1)]=some (.sl R .an):=by
  rw[zab Zas.h354 rfl,b354];simp -implicitDefEqProofs[hc,w1,w2,w3,w4,mm,hz,h,hset,hl2,hg,hgE,hr,n1,n2,tk,hnlt,nn,nt,nk,nle,nle2,hwR,hr]
 rw[zab Zas.h346 rfl,b346];simp -implicitDefEqProofs[hg354,hwR]
end
abbrev flt(k a:Int):AV:=.agg [.i .i64 k,.i .i64 0,.i .i64 0,.i .i64 a]
def Zhf(c:UInt8):Bool:=c == 47 || c == 46
def Zab:List UInt8→Nat
 | []=>0
 | c::r=>if Zhf c then 0 else Zab r+1
theorem zkq:∀s,Zab s≤s.length
 | []=>Ye _
 | c::r=>by
  have:=zkq r;simp only[Zab];split
  ·omega
  ·simp only[Ym];omega
theorem zqi:∀s:List UInt8,Lib.indexAny s [47,46]=if Zab s<s.length then (Zab s:Int) else -1
 | []=>rfl
 | c::r=>by
  have ih:=zqi r;have hc:([47,46]:List UInt8).contains c=Zhf c:=by
   rw[Ycf];simp only[Ycq,Y2,Ydj,or_false,Zhf,Ya1,beq_iff_eq]
  have hle:=zkq r;simp only[Lib.indexAny,hc,Zab];by_cases hcut:Zhf c=true
  ·simp[hcut]
  ·simp only[hcut,if_false,Ym,Yd4,Yai];rw[ih];by_cases h:Zab r<r.length
   ·have e:((Zab r:Int) == -1)=false:=by simp
    simp[h,e]
   ·simp[h]
theorem zqj:∀(s:List UInt8),Zab s<s.length→∃c,s[Zab s]? = some c∧(c=47∨c=46)
 | [],h=>by simp at h
 | c::r,h=>by
  simp only[Zab]at h ⊢;cases hc:Zhf c with
  | true=>
   refine⟨c,by simp,?_⟩;simpa[Zhf]using hc
  | false=>
   rw[hc]at h;simp only[Yai,if_false,Ym,Yd4]at h ⊢;obtain⟨d,h1,h2⟩:=zqj r h;exact⟨d,by simpa using h1,h2⟩
theorem zu6{l:List UInt8}(h0:¬ 0≤Z8 l):l.length≤60∧(ofN (rd l)).length≤60:=by
 have h1:Zdo 0 l<0:=by
  unfold Z8 at h0;split at h0
  ·omega
  ·omega
 obtain⟨h2,h3⟩:=zg4 0 l (Yo _) h1;refine⟨by omega,zag (k:=60) ?_⟩;have h4:=zxq h3;have h5:10^l.length≤10^60:=Yk (by decide) (by omega);exact Yp h4 (Yc h5 (by decide))
def Zf0(z:Int)(neg:Bool)(s:List UInt8)(c:UInt8)(at_:Nat):Rat×Int×Int:=
 let rest:=s.drop at_
 if 0≤Z8 rest then (0,1,Z8 rest+at_)
 else if c=47 then (if rd rest=0 then (0,2,at_) else (mkRat z (rd rest),0,0))
 else (mkRat (sg neg (z.natAbs*10^rest.length+rd rest)) (10^rest.length),0,0)
def Zat(s:List UInt8):Rat×Int×Int:=
 let first:=s.take (Zab s)
 if 0≤Zcl first then (0,1,Zcl first+Zdi first)
 else if Zab s<s.length then Zf0 (Zbd first) (s.head? = some 45) s (s.getD (Zab s) 0) (Zab s+1)
 else (mkRat (Zbd first) 1,0,0)
theorem zu7{n:Nat}(h:n≤60):(ofN (10^n)).length≤60:=by
 refine zag (k:=60) ?_;have h5:10^n≤10^60:=Yk (by decide) h;exact Ycl h5 (by decide)
theorem zu8(l:List UInt8):-1≤Zcl l∧Zcl l≤60∧0≤Zdi l∧Zdi l≤1:=by
 have key:∀l',-1≤Z8 l'∧Z8 l'≤60:=by
  intro l';unfold Z8;split
  ·omega
  ·exact⟨zpj 0 l',zio 0 l' (by decide)⟩
 unfold Zcl Zdi;refine⟨(key _).1,(key _).2,?_,?_⟩<;>split<;>omega
section
variable{T:Tbl}[Zq T][Zv T][Zy T][Zr T][Zn T][Zx T][Zf T][Zg T][Zw T][Zbn T][Zc5 T][Zas T][Zc3 T]
theorem zkr(n:Bool)(a d:List UInt32)(ha:a.length≤10000)(hd:d.length≤10000) :
  Za T 204 [wh n a,.sl (Zb d) .an]=some (.tup (if val d=0 then [efz (fz 0),.b false] else [efz (fz (mkRat (wv n a) (val d))),.b true])):=by
 have c0:=zc1 (T:=T);have c1:=zky (T:=T) d (by omega);rw[zab Zbn.h204 rfl,b204];by_cases h:val d=0
 ·rw[if_pos h];rw[decide_eq_true h]at c1;generalize fz 0=Z at *
  simp -implicitDefEqProofs[c0,c1]
 ·rw[if_neg h];rw[decide_eq_false h]at c1;have c2:=zoq (T:=T) n a d ha hd h;generalize fz (mkRat (wv n a) (val d))=R at *
  simp -implicitDefEqProofs[c1,c2]
theorem zr3(l:List UInt8):Za T 345 [.s l,.s [45]]=some (.b (l.head? = some 45)):=by
 have h1:Za T 123 [.s l,.s [45]]=some (.b (l.head? = some 45)):=by
  rw[zab Zx.h123 rfl,b123];cases l with
  | nil=>simp -implicitDefEqProofs
  | cons c r=>
   have h2:(1:Int)≤(r.length:Int)+1:=by omega
   by_cases hc:c=45<;>simp -implicitDefEqProofs[h2,hc]
 rw[zab Zas.h345 rfl,b345];simp -implicitDefEqProofs[h1]
theorem zjn(s:List UInt8)(k:Nat)(hk:k≤s.length)(hs:s.length≤1000000):Za T 253 [.s s,.i .i64 k] =
  some (.tup (if 0≤Z8 (s.drop k) then [.sl [] .an,flt 1 (Z8 (s.drop k)+k)] else [.sl (Zb (ofN (rd (s.drop k)))) .an,flt 0 0])):=by
 have h1:=zhy (T:=T) (s.drop k) (by rw[Yak];omega);have hk':(k:Int)≤s.length:=by omega
 rw[zab Zc3.h253 rfl,b253];by_cases h0:0≤Z8 (s.drop k)
 ·rw[if_pos h0]at h1 ⊢;have hw:Z8 (s.drop k)≤60:=by
   unfold Z8;split
   ·omega
   ·exact zio 0 _ (by decide)
  have w1:IntKind.wrap .i64 (Z8 (s.drop k)+(k:Int))=Z8 (s.drop k)+(k:Int):=zac _ (by omega);generalize Z8 (s.drop k)=W at *
  simp -implicitDefEqProofs[hk,hk',h1,w1]
 ·rw[if_neg h0]at h1 ⊢;generalize ofN (rd (s.drop k))=R at *
  simp -implicitDefEqProofs[hk,hk',h1]
theorem zy1(n:Bool)(a:List UInt32)(s:List UInt8)(k:Nat)(ha:a.length≤10000)(hk:k≤s.length)(hs:s.length≤1000000):Za T 254 [wh n a,.s s,.i .i64 k] =
  some (.tup (if 0≤Z8 (s.drop k) then [efz (fz 0),flt 1 (Z8 (s.drop k)+k)] else if rd (s.drop k)=0 then [efz (fz 0),flt 2 k] else [efz (fz (mkRat (wv n a) (rd (s.drop k)))),flt 0 0])):=by
 have h1:=zjn (T:=T) s k hk hs;have c0:=zc1 (T:=T);rw[zab Zc3.h254 rfl,b254];by_cases h0:0≤Z8 (s.drop k)
 ·rw[if_pos h0]at h1 ⊢;generalize fz 0=Z at *
  generalize Z8 (s.drop k)+(k:Int)=W at *
  simp -implicitDefEqProofs[h1,c0]
 ·rw[if_neg h0]at h1 ⊢;have hl:=(zu6 h0).2;have h2:=zkr (T:=T) n a (ofN (rd (s.drop k))) ha (by omega);rw[zae]at h2;by_cases hz:rd (s.drop k)=0
  ·rw[if_pos hz]at h2 ⊢;clear hl h0;generalize fz 0=Z at *
   generalize ofN (rd (s.drop k))=R at *
   simp -implicitDefEqProofs[h1,h2]
  ·rw[if_neg hz]at h2 ⊢;clear hl h0;generalize fz (mkRat (wv n a) (rd (s.drop k)))=Z at *
   generalize ofN (rd (s.drop k))=R at *
   simp -implicitDefEqProofs[h1,h2]
theorem zr4(ht:∀n:Nat,n≤60→Za T 252 [.i .i64 n]=some (.sl (Zb (ofN (10^n))) .an))(n neg:Bool)(a:List UInt32)(s:List UInt8)(k:Nat)(ha:a.length≤1000)(hk:k≤s.length)(hs:s.length≤1000000) :
  Za T 255 [wh n a,.b neg,.s s,.i .i64 k] =
  some (.tup (if 0≤Z8 (s.drop k) then [efz (fz 0),flt 1 (Z8 (s.drop k)+k)] else [efz (fz (mkRat (sg neg (val a*10^(s.drop k).length+rd (s.drop k))) (10^(s.drop k).length))),flt 0 0])):=by
 have h1:=zjn (T:=T) s k hk hs;have c0:=zc1 (T:=T);rw[zab Zc3.h255 rfl,b255];by_cases h0:0≤Z8 (s.drop k)
 ·rw[if_pos h0]at h1 ⊢;generalize fz 0=Z at *
  generalize Z8 (s.drop k)+(k:Int)=W at *
  simp -implicitDefEqProofs[h1,c0]
 ·rw[if_neg h0]at h1 ⊢;obtain⟨hl60,hl⟩:=zu6 h0;have h2:=ht (s.drop k).length hl60;have ht60:=zu7 hl60;have h3:=zfq (T:=T) a (ofN (10^(s.drop k).length)) (by omega) (by omega);rw[zae]at h3;have hm:(ofN (val a*10^(s.drop k).length)).length≤1060:=by
   have e1:=zad a;have e2:=za7 (x:=val a) (y:=10^(s.drop k).length) (L:=1000) (M:=60) (by omega) ht60;omega
  have h4:=zvt (T:=T) [ofN (val a*10^(s.drop k).length),ofN (rd (s.drop k))] (by simp) (by
   intro x hx;simp only[Y2,Ydj,or_false]at hx;rcases hx with rfl | rfl<;>omega)
  have e1:lls [ofN (val a*10^(s.drop k).length),ofN (rd (s.drop k))]=[[.sl (Zb (ofN (val a*10^(s.drop k).length))) .an],[.sl (Zb (ofN (rd (s.drop k)))) .an]]:=rfl;have e2:Zd7 [ofN (val a*10^(s.drop k).length),ofN (rd (s.drop k))]=val a*10^(s.drop k).length+rd (s.drop k):=by simp[Zd7,zae]
  rw[e1,e2]at h4;have hsum:(ofN (val a*10^(s.drop k).length+rd (s.drop k))).length≤10000:=by
   have e3:=zbw (x:=((val a*10^(s.drop k).length:Nat):Int)) (y:=((rd (s.drop k):Nat):Int)) (L:=1060) (by rw[Ybv];exact hm) (by rw[Ybv];omega);rw[←Yax,Ybv]at e3;omega
  have h5:=zkr (T:=T) neg (ofN (val a*10^(s.drop k).length+rd (s.drop k))) (ofN (10^(s.drop k).length)) hsum (by omega);have hne:¬ 10^(s.drop k).length=0:=Nat.ne_of_gt (Ya0 (by decide));rw[zae,if_neg hne]at h5;unfold wv at h5;rw[zae]at h5;have hd:(s.drop k).length=s.length-k:=Yak;have w1:IntKind.wrap .i64 ((s.length:Int)-(k:Int))=(((s.drop k).length:Nat):Int):=by
   rw[hd];have:((s.length-k:Nat):Int)=(s.length:Int)-k:=by omega
   rw[this];exact zac _ (by omega)
  clear hl hl60 ht60 hm e1 e2 hsum hne h0 hd ht;generalize 10^(s.drop k).length=TN at *
  generalize (s.drop k).length=dl at *
  generalize fz (mkRat (sg neg (val a*TN+rd (s.drop k))) TN)=R at *
  generalize ofN (val a*TN+rd (s.drop k))=R1 at *
  generalize ofN (val a*TN)=R2 at *
  generalize ofN (rd (s.drop k))=R3 at *
  generalize ofN TN=R4 at *
  simp -implicitDefEqProofs[h1,h2,h3,h4,h5,w1]
theorem zy2(ht:∀n:Nat,n≤60→Za T 252 [.i .i64 n]=some (.sl (Zb (ofN (10^n))) .an))(s:List UInt8)(hs:s.length≤100000) :
  Za T 256 [.s s]=some (.tup [efz (fz (Zat s).1),flt (Zat s).2.1 (Zat s).2.2]):=by
 have hi:Za T 344 [.s s,.s [47,46]]=some (.i .i64 (if Zab s<s.length then (Zab s:Int) else -1)):=by
  rw[p344,←zqi];simp only[prim344];rw[if_pos (by omega)]
 have hr:=zs9 (T:=T) (s.take (Zab s)) (by rw[Yaa];omega);have hle:=zkq s;have c0:=zc1 (T:=T);rw[zab Zc3.h256 rfl,b256];by_cases hc:Zab s<s.length
 ·rw[if_pos hc]at hi;have q1:(0:Int)≤(Zab s:Int):=by omega
  have q2:(Zab s:Int)≤s.length:=by omega
  have q3:¬ (Zab s:Int)<0:=by omega
  by_cases h0:0≤Zcl (s.take (Zab s))
  ·have eR:Zat s=(0,1,Zcl (s.take (Zab s))+Zdi (s.take (Zab s))):=by simp only[Zat,if_pos h0]
   rw[eR];rw[if_pos h0]at hr;clear eR;simp only;generalize fz 0=Z at *
   generalize Zcl (s.take (Zab s))+Zdi (s.take (Zab s))=W at *
   simp -implicitDefEqProofs[hi,hr,c0,q1,q2,q3,hle]
  ·rw[if_neg h0]at hr;have hrl:=zle h0;obtain⟨c,hg,hcc⟩:=zqj s hc;obtain⟨_,hgE⟩:=Yd.1 hg;have hd:s.getD (Zab s) 0=c:=by rw[Ybn,hg];rfl
   have eR:Zat s=Zf0 (Zbd (s.take (Zab s))) (decide (s.head? = some 45)) s c (Zab s+1):=by simp only[Zat,if_neg h0,if_pos hc,hd]
   rw[eR];have w1:IntKind.wrap .i64 ((Zab s:Int)+1)=((Zab s+1:Nat):Int):=zac _ (by omega);have q4:(Zab s:Int)<s.length:=by omega
   have px:=zr3 (T:=T) s;rcases hcc with rfl | rfl
   ·have ho:=zy1 (T:=T) (decide (Zbd (s.take (Zab s))<0)) (ofN (Zbd (s.take (Zab s))).natAbs) s (Zab s+1) (by omega) (by omega) (by omega);rw[zi6]at ho;have ho2:Za T 254 [ez (Zbd (s.take (Zab s))),.s s,.i .i64 ((Zab s+1:Nat):Int)]=some (.tup [efz (fz (Zf0 (Zbd (s.take (Zab s))) (decide (s.head? = some 45)) s 47 (Zab s+1)).1),
      flt (Zf0 (Zbd (s.take (Zab s))) (decide (s.head? = some 45)) s 47 (Zab s+1)).2.1 (Zf0 (Zbd (s.take (Zab s))) (decide (s.head? = some 45)) s 47 (Zab s+1)).2.2]):=by
     rw[ho];simp only[Zf0,if_true];split
     ·rfl
     ·split<;>rfl
    clear ho eR hd;generalize Zf0 (Zbd (s.take (Zab s))) (decide (s.head? = some 45)) s 47 (Zab s+1)=R at *
    generalize fz R.1=Z at *
    have ec:((Zab s+1:Nat):Int)=(Zab s:Int)+1:=by omega
    rw[ec]at ho2 w1;clear hrl h0 c0 ht;generalize Zbd (s.take (Zab s))=RZ at *
    simp -implicitDefEqProofs[hi,hr,q1,q2,q3,q4,hle,hc,hg,hgE,w1,ho2]
   ·have ho:=zr4 (T:=T) ht (decide (Zbd (s.take (Zab s))<0)) (decide (s.head? = some 45)) (ofN (Zbd (s.take (Zab s))).natAbs) s (Zab s+1) (by omega) (by omega) (by omega);rw[zae]at ho;have ho2:Za T 255 [ez (Zbd (s.take (Zab s))),.b (decide (s.head? = some 45)),.s s,.i .i64 ((Zab s+1:Nat):Int)]=some (.tup [efz (fz (Zf0 (Zbd (s.take (Zab s))) (decide (s.head? = some 45)) s 46 (Zab s+1)).1),
      flt (Zf0 (Zbd (s.take (Zab s))) (decide (s.head? = some 45)) s 46 (Zab s+1)).2.1 (Zf0 (Zbd (s.take (Zab s))) (decide (s.head? = some 45)) s 46 (Zab s+1)).2.2]):=by
     rw[ho];simp only[Zf0,show ¬ ((46:UInt8)=47) by decide,if_false];split<;>rfl
    clear ho eR hd;generalize Zf0 (Zbd (s.take (Zab s))) (decide (s.head? = some 45)) s 46 (Zab s+1)=R at *
    generalize fz R.1=Z at *
    have ec:((Zab s+1:Nat):Int)=(Zab s:Int)+1:=by omega
    rw[ec]at ho2 w1;clear hrl h0 c0 ht;generalize Zbd (s.take (Zab s))=RZ at *
    generalize decide (s.head? = some 45)=hd45 at *
    simp -implicitDefEqProofs[hi,hr,q1,q2,q3,q4,hle,hc,hg,hgE,w1,px,ho2]
 ·rw[if_neg hc]at hi;have hcl:Zab s=s.length:=by omega
  have htk:s.take (Zab s)=s:=by rw[hcl];exact Ydi
  rw[htk]at hr;by_cases h0:0≤Zcl s
  ·have eR:Zat s=(0,1,Zcl s+Zdi s):=by simp only[Zat,htk,if_pos h0]
   rw[eR];rw[if_pos h0]at hr;clear eR;simp only;generalize fz 0=Z at *
   generalize Zcl s+Zdi s=W at *
   simp -implicitDefEqProofs[hi,hr,c0]
  ·have eR:Zat s=(mkRat (Zbd s) 1,0,0):=by simp only[Zat,htk,if_neg h0,if_neg hc]
   rw[eR];rw[if_neg h0]at hr;have hrl:=zle h0;have h1:=zeq (T:=T) 1 (by decide);have h2:=zkr (T:=T) (decide (Zbd s<0)) (ofN (Zbd s).natAbs) (ofN 1) (by omega) (by rw[ze3];decide);rw[zae,if_neg (by decide),zi6]at h2;clear hrl h0 c0 ht eR;simp only;generalize fz (mkRat (Zbd s) 1)=Z at *
   generalize Zbd s=RZ at *
   generalize ofN 1=O at *
   simp -implicitDefEqProofs[hi,hr,h1,h2]
end
def Zbh:List (List UInt8)→Nat→List Rat→List Rat×Int×Int
 | [],_,acc=>(acc,0,0)
 | w::ws,k,acc=>if (Zat w).2.1=0 then Zbh ws (k+w.length+1) (acc++[(Zat w).1]) else ([],(Zat w).2.1,(Zat w).2.2+k)
def Zc6(s:List UInt8):List Rat×Int×Int:=if s=[] then ([],0,0) else Zbh (Z5 44 s) 0 []
theorem zga(w:List UInt8):((Zat w).2.1=0∧(Zat w).2.2=0)∨(((Zat w).2.1=1∨(Zat w).2.1=2)∧0≤(Zat w).2.2∧(Zat w).2.2≤w.length+62):=by
 have hle:=zkq w;obtain⟨z1,z2,z3,z4⟩:=zu8 (w.take (Zab w));unfold Zat;simp only;split
 ·next h=>refine .inr ⟨.inl rfl,?_,?_⟩<;>simp only<;>omega
 ·split
  ·next h h2=>
   unfold Zf0;simp only;split
   ·next h3=>
    have:Z8 (w.drop (Zab w+1))≤60:=by
     unfold Z8;split
     ·omega
     ·exact zio 0 _ (by decide)
    refine .inr ⟨.inl rfl,?_,?_⟩<;>simp only<;>omega
   ·split
    ·split
     ·refine .inr ⟨.inr rfl,?_,?_⟩<;>simp only<;>omega
     ·left;simp
    ·left;simp
  ·left;simp
section
variable{T:Tbl}[Z0 T][Zq T][Zv T][Zy T][Zr T][Zn T][Zx T][Zbc T][Zf T][Zg T][Zw T][Zbn T][Zc5 T][Zas T][Zbv T][Zc3 T][Zam T][Zcs T][Zcz T]
theorem zy3(n:Nat)(hn:n≤60):Za T 252 [.i .i64 n]=some (.sl (Zb (ofN (10^n))) .an):=by
 have c1:=zeq (T:=T) 10 (by decide);have hb:Z7 10=4:=by decide +kernel
 have c2:=zzy (T:=T) (ofN 10) n (by
  have:=zag (n:=10) (k:=1) (by decide);omega) (by rw[zae,hb];decide) (by rw[zae,hb];omega)
 rw[zae]at c2;rw[zab Zc3.h252 rfl,b252];generalize ofN (10^n)=R at *
 generalize ofN 10=N at *
 simp -implicitDefEqProofs[c1,c2]
theorem zmr(s:List UInt8)(hs:s.length≤100000):Za T 256 [.s s]=some (.tup [efz (fz (Zat s).1),flt (Zat s).2.1 (Zat s).2.2]):=
 zy2 (T:=T) zy3 s hs
def Zkg(ws:List (List UInt8))(y:Nat×Nat×List Rat):St:=
 ⟨[(3,.ptr (.loc 3) 1 4 0 0),(4,.bs (.loc 4) 2 3 0 y.2.2.length),(5,.i .i64 y.2.1),(14,.sl (Zae ws) .an),(15,.i .i64 ws.length),(16,.i .i64 y.1)],
  [(.loc 3,⟨1,.str,4,[[.i .i64 0,.i .i64 0,.i .i64 0,.i .i64 0]]⟩),(.loc 4,⟨2,.own,3,Zd (fzs y.2.2)⟩)],4⟩
def Zja(r:List Rat×Int×Int):Option (Ex×St):=
 if r.2.1=0 then some (.n,⟨[(3,.ptr (.loc 3) 1 4 0 0),(4,.bs (.loc 4) 2 3 0 r.1.length)],[(.loc 3,⟨1,.str,4,[[.i .i64 0,.i .i64 0,.i .i64 0,.i .i64 0]]⟩),(.loc 4,⟨2,.own,3,Zd (fzs r.1)⟩)],4⟩)
 else some (.r,⟨[(2,.sl [] .an),(3,.ptr (.loc 3) 1 4 0 0)],[(.loc 3,⟨1,.str,4,[[.i .i64 r.2.1,.i .i64 0,.i .i64 0,.i .i64 r.2.2]]⟩)],3⟩)
theorem z29(ws:List (List UInt8))(hl:ws.length≤1000000)(hw:∀w∈ws,w.length≤100000):∀y:Nat×Nat×List Rat,(y.1≤ws.length∧y.2.1≤y.1*100001∧y.2.2.length=y.1) →
  Zj T 0 0 (.norm false [3,4]) l275_0 (Zkg ws y)=Zja (Zbh (ws.drop y.1) y.2.1 y.2.2):=by
 refine zav (Zkg ws) (fun y=>y.1≤ws.length∧y.2.1≤y.1*100001∧y.2.2.length=y.1) (fun y=>ws.length-y.1) (fun y=>Zja (Zbh (ws.drop y.1) y.2.1 y.2.2)) ?_
 rintro⟨i,k,acc⟩ ⟨hi,hk,ha⟩
 simp only at hi hk ha ⊢;by_cases h0:i<ws.length
 ·have hm:=Yr h0;have hwl:=hw _ hm;have hg:(Zae ws)[i]? = some [.s (ws[i]'h0)]:=by simp[Zae,h0]
  have hil:i<(Zae ws).length:=by simpa using h0
  have hil':(i:Int)<ws.length:=by omega
  obtain⟨_,hgE⟩:=Yd.1 hg;have hwR:=zf1 ws;have c:=zmr (T:=T) (ws[i]'h0) hwl;have hf:=zga (ws[i]'h0);have hdr:ws.drop i=ws[i]'h0::ws.drop (i+1):=Yj h0;have hws:=zbv h0 (by omega);generalize ws[i]'h0=w at *
  have hml:(fzs acc).length=i:=by rw[zay,ha]
  have hb4:i≤4294967295:=by omega
  rcases hf with ⟨f1,f2⟩ | ⟨f1,f2,f3⟩
  ·left;have hp:=zfu hml (fz (Zat w).1);have ef:fzs (acc++[(Zat w).1])=fzs acc++[fz (Zat w).1]:=by simp[fzs]
   have w1:IntKind.wrap .i64 ((w.length:Int)+1)=(w.length:Int)+1:=zac _ (by omega);have w2:IntKind.wrap .i64 ((k:Int)+((w.length:Int)+1))=((k+w.length+1:Nat):Int):=by
    have:((k+w.length+1:Nat):Int)=(k:Int)+((w.length:Int)+1):=by omega
    rw[this];exact zac _ (by omega)
   refine⟨(i+1,k+w.length+1,acc++[(Zat w).1]),⟨by omega,by simp only;omega,by simp[ha]⟩,by simp only;omega,?_,?_⟩
   ·unfold Zkg;simp only[Y1,Ym,Yal,ha];rw[ef];rw[f1,f2]at c;clear hdr ef hw f1 f2;generalize fz (Zat w).1=X at *
    generalize fzs acc=M at *
    generalize Zae ws=R at *
    simp -implicitDefEqProofs[l275_0,h0,hil,hil',hg,hgE,c,hws,w1,w2,hml,hb4,hp,hwR]
   ·simp only;rw[hdr,Zbh,if_pos f1]
  ·right;have hne:¬ (Zat w).2.1=0:=by omega
   have er:Zbh (ws.drop i) k acc=([],(Zat w).2.1,(Zat w).2.2+k):=by rw[hdr,Zbh,if_neg hne]
   rw[er];unfold Zja Zkg;simp only[ha];rw[if_neg hne];have w1:IntKind.wrap .i64 ((Zat w).2.2+(k:Int))=(Zat w).2.2+(k:Int):=zac _ (by omega);clear hdr er hw;generalize fz (Zat w).1=X at *
   generalize (Zat w).2.1=K at *
   generalize (Zat w).2.2=A at *
   generalize fzs acc=M at *
   generalize Zae ws=R at *
   rcases f1 with rfl | rfl<;>(constructor<;>simp -implicitDefEqProofs[l275_0,h0,hil,hil',hg,hgE,c,w1])
 ·right;have hi2:i=ws.length:=by omega
  subst hi2;rw[Y5,Zbh];unfold Zja Zkg;simp only[if_true,ha];have hn:¬ ws.length<(Zae ws).length:=by simp
  generalize fzs acc=M at *
  generalize Zae ws=R at *
  generalize ws.length=n at *
  constructor<;>simp -implicitDefEqProofs[l275_0]
theorem zms:∀(ws:List (List UInt8)) (k:Nat) (acc:List Rat),(Zbh ws k acc).2.1≠0→(Zbh ws k acc).1=[]
 | [],_,_,h=>by simp[Zbh]at h
 | w::ws,k,acc,h=>by
  unfold Zbh at h ⊢;split at h
  ·next h1=>rw[if_pos h1];exact zms ws _ _ h
  ·next h1=>rw[if_neg h1]
theorem zqk:∀(ws:List (List UInt8)) (k:Nat) (acc:List Rat),(Zbh ws k acc).2.1=0→(Zbh ws k acc).2.2=0
 | [],_,_,h=>rfl
 | w::ws,k,acc,h=>by
  unfold Zbh at h ⊢;split at h
  ·next h1=>rw[if_pos h1];exact zqk ws _ _ h
  ·next h1=>exact absurd h h1
theorem zql(s:List UInt8)(hs:s.length≤100000) :
  Za T 275 [.s s]=some (.tup [.sl (Zd (fzs (Zc6 s).1)) .an,flt (Zc6 s).2.1 (Zc6 s).2.2]):=by
 rw[zab Zcz.h275 rfl,b275];unfold Zc6;by_cases h0:s=[]
 ·subst h0;have e0:fzs []=[]:=rfl;simp only[if_true,e0,za8];simp -implicitDefEqProofs
 ·rw[if_neg h0];have hpl:∀(l:List UInt8) (w:List UInt8),w∈Z5 44 l→w.length≤l.length:=by
   intro l
   induction l with
   | nil=>intro w hw;simp[Z5]at hw;simp[hw]
   | cons b l ih=>
    intro w hw;unfold Z5 at hw;split at hw
    ·rcases Y2.1 hw with rfl | hw
     ·simp
     ·have:=ih w hw;simp;omega
    ·cases hsp:Z5 44 l with
     | nil=>rw[hsp]at hw;simp at hw;simp[hw]
     | cons p r=>
      rw[hsp]at hw ih;rcases Y2.1 hw with rfl | hw
      ·have:=ih p Y9;simp;omega
      ·have:=ih w (Ys _ hw);simp;omega
  have hcl:(Z5 44 s).length≤s.length+1:=by
   rw[zb7];have:s.count 44≤s.length:=List.count_le_length;omega
  have c:=zw7 (T:=T) s 44 (by omega);have h:=z29 (T:=T) (Z5 44 s) (by omega) (fun w hw=>by have:=hpl s w hw;omega) (0,0,[]) ⟨Yo _,Yo _,rfl⟩;have hnil:=zms (Z5 44 s) 0 [];have hat:=zqk (Z5 44 s) 0 [];simp only[Yad]at h;unfold Zkg at h;have e0:fzs []=[]:=rfl;simp only[e0,za8,Yw,Yal]at h;generalize Zbh (Z5 44 s) 0 []=r at *
  unfold Zja at h;have hsl:=zc4 (Z5 44 s);have hwR:=zf1 (Z5 44 s);generalize Zae (Z5 44 s)=R at *
  generalize (Z5 44 s).length=n at *
  by_cases hr:r.2.1=0
  ·rw[if_pos hr]at h;have ha:=hat hr;rw[hr,ha];have hml:(fzs r.1).length=r.1.length:=zay r.1;generalize fzs r.1=M at *
   generalize r.1.length=m at *
   have ht:List.take m M=M:=Yb (by omega);simp -implicitDefEqProofs[h0,c,hsl,h,ht,hml,hwR]
  ·rw[if_neg hr]at h;rw[hnil hr];simp only[e0,za8];simp -implicitDefEqProofs[h0,c,hsl,h,hwR]
end
def Dig(l:List UInt8):Prop:=∀c∈l,48≤c.toNat∧c.toNat≤57
def Zq4(l:List UInt8):Prop:=∀c∈l,Zhf c=false
def Zmo(c:Fz)(r:List Fz):List UInt8:=Zmw (fv c)++[124]++List.intercalate [44] (Zki r)
def Znh(s:Sm):List (List UInt8):=
 [s.nm]++(s.c.zip s.a).map (fun p=>Zmo p.1 p.2)++[[98,32]++List.intercalate [44] (Zki s.b)]++(if s.e=[] then [] else [[101,32]++List.intercalate [44] (Zki s.e)])
def textS(s:Sm):List UInt8:=List.intercalate [10] (Znh s)
structure Rd where
 rest:List UInt8
 at_:Nat
 over:Bool
def hdC(c:UInt8)(l:List UInt8):List UInt8:=l.takeWhile (· != c)
def tlC(c:UInt8)(l:List UInt8):List UInt8:=(l.dropWhile (· != c)).drop 1
def Zm(r:Rd):List UInt8:=if r.over then [] else hdC 10 r.rest
def Zac(r:Rd):Rd:=if r.over then r else ⟨tlC 10 r.rest,r.at_+(hdC 10 r.rest).length+(if r.rest.contains 10 then 1 else 0),!r.rest.contains 10⟩
def shF(f:Int×Int)(b:Int):Int×Int:=if f=(0,0) then f else (f.1,f.2+b)
def Zct(l:List UInt8)(from_:Int):Rat×List Rat×Int×Int:=
 if (Zat (hdC 124 l)).2≠(0,0) then ((Zat (hdC 124 l)).1,[],shF (Zat (hdC 124 l)).2 from_)
 else ((Zat (hdC 124 l)).1,(Zc6 (tlC 124 l)).1,shF (Zc6 (tlC 124 l)).2 (from_+(hdC 124 l).length+1))
def Zex(c:UInt8)(r:Rd):List Rat×Int×Int:=
 if (Zm r).take 2=[c,32] then ((Zc6 ((Zm r).drop 2)).1,shF (Zc6 ((Zm r).drop 2)).2 (r.at_+2)) else ([],1,r.at_)
class Znn (T:Tbl):Prop where
end Go.Ab