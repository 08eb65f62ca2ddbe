/-
  A calculus of values, boxes and code, and what functions of the program compute, proved in it.
  Conditions: none beyond those that the theorems state. (Part 6.)
-/
import Derived.Test.YtjhilbodpmnbmaaGreatDoorPart5
import Derived.Test.YtjhilbodpmnbmaaGreatDoorProg
import Derived.KernelRfl
import Derived.Shelf.RegionOpenPlain
import Derived.Lib.Strings
import Derived.Lib.Slices
import Derived.Lib.Walk
import Derived.Lib.Builder
import Derived.Lib.AppendStr
import Derived.Lib.UnsafeStr
import Derived.Lib.MakeNoZero
import Derived.WalkKit
import Derived.Laws.Externs
import Derived.Laws.IdiomCopy
import Derived.Laws.BitsLemmas
import GoSem.Claims
import Derived.Deep.LoopGhost
import Derived.ProofKit
import Derived.OpenShut
import Derived.Shelf.Strings.Builder1
import Derived.Shelf.Strings.Builder2
import Derived.Shelf.Strings.OnBuilder
import Derived.Deep.DeepCutAuto
import Derived.Deep.DeepFit
import Derived.Deep.CutBlock
import Derived.Lib.OthersKept
import Derived.Test.YtjhilbodpmnbmaaGreatDoorRows
import Derived.Test.YtjhilbodpmnbmaaGreatDoorCards
import Derived.Test.YtjhilbodpmnbmaaGreatDoorTie
import Derived.LaidMore
import Derived.Stop.Joined
import Derived.SevenTiedAt
import Derived.Lib.LaidU8

set_option linter.unusedSectionVars false
set_option linter.unusedVariables false
set_option linter.unusedSimpArgs false
set_option linter.unnecessarySimpa false

section
namespace Go.Proofs.YtjhilbodpmnbmaaGreatDoor
open Go Go.Ab
set_option maxRecDepth 100000
def nus:List (Nat×Nat):=[(10,35),(13,44),(23,98),(24,62),(25,172),(27,101),(36,162),(37,173),(38,150),(39,103),(40,169),(41,71),(43,64),(44,167),(46,73),(50,49),(52,105),(54,102),(55,113),(56,151),(57,152),(58,104),(59,106),(60,100),(61,61),(62,195),(63,111),(68,144),(69,131),(70,148),(71,154),(72,72),(73,223),(74,114),(75,115),(76,120),(79,84),(80,83),(84,155),(85,196),(86,112),(87,70),(88,197),(89,153),(90,188),(91,207),(93,226),(94,227),(95,158),(96,159),(97,109),(101,189),(103,190),(105,178),(106,199),(107,160),(108,161),(113,130),(114,85),(115,228),(116,229),(117,198),(118,216),(119,236),(120,237),(121,238),(122,200),(125,217),(126,218),(127,219),(128,220),(129,201),(168,129),(172,118),(173,82),(177,164),(178,165),(179,166),(180,175),(181,176),(182,177),(185,203),(186,204),(187,205),(188,206),(189,208),(190,209),(198,224),(199,193),(200,194),(201,149),(202,97),(203,96),(204,168),(205,34),(207,69),(209,170),(210,99),(211,116),(212,75),(213,123),(215,57),(216,125),(217,58),(218,126),(219,171),(220,124),(223,127),(224,156),(225,157),(226,108),(227,110),(228,66),(229,65),(230,67),(231,31),(232,63),(233,59),(235,135),(237,132),(239,28),(240,133),(241,30),(242,136),(244,134),(245,137),(247,36),(248,45),(249,68),(263,37),(265,39),(278,24),(279,23),(286,17),(287,20),(288,52),(289,16),(353,107),(356,174),(380,6),(383,10),(402,14),(405,41),(406,42),(411,81),(420,74),(426,128),(459,3),(462,38),(463,7),(464,51),(465,15),(466,5),(467,8),(468,9),(469,11),(470,12),(471,13),(473,43),(474,86),(475,87),(476,88),(477,40),(478,46),(479,47),(480,48),(481,50),(483,202),(484,80),(485,76),(486,77),(487,78),(488,79),(489,121),(490,122),(491,117),(492,119),(493,163),(2043,64),(2071,154),(2092,225),(2097,109),(2106,199)]
def nu(u:Nat):FuncId:=(nus.lookup u).getD 0
def Zd7(P:Program)(ν:Nat→FuncId)(τ:Nat→Nat)(u:Nat)(af:AFx):Prop:=
 match af.body.isPrim with
 | some f=>∀xs r,f xs=some r→Zbb P (ν u) xs (·=r)
 | none=>if af.body.isBad=true then (∀m∈Zht af,Zde P af.np m.1=some (ν m.2))∧(af.res.isEmpty=true→af.np=ν af.nt) else Zcm P (ν u)=some (erF ν τ af)
theorem ok_pr{P:Program}{ν:Nat→FuncId}{τ:Nat→Nat}{u:Nat}{af:AFx}{f:List AV→Option AV}(h0:af.body.isPrim=some f)(h:∀xs r,f xs=some r→Zbb P (ν u) xs (·=r)):Zd7 P ν τ u af:=by unfold Zd7;rw[h0];exact h
theorem ok_fn{P:Program}{ν:Nat→FuncId}{τ:Nat→Nat}{u:Nat}{af:AFx}(h0:af.body.isPrim=none)(h1:af.body.isBad=false)(h:Zcm P (ν u)=some (erF ν τ af)):Zd7 P ν τ u af:=by unfold Zd7;rw[h0];simp only[h1];exact h
theorem ok_cons{P:Program}{ν:Nat→FuncId}{τ:Nat→Nat}{u:Nat}{af:AFx}{l:List (Nat×AFx)}(h:Zd7 P ν τ u af)(hl:∀p∈l,Zd7 P ν τ p.1 p.2) :
  ∀p∈(u,af)::l,Zd7 P ν τ p.1 p.2:=by
 intro p hp;rcases List.mem_cons.1 hp with rfl | hp
 ·exact h
 ·exact hl p hp
theorem ok_lookup{P:Program}{ν:Nat→FuncId}{l:List (Nat×AFx)}(hl:∀p∈l,Zd7 P ν (Zn fun u=>l.lookup u) p.1 p.2):TOk P ν (fun u=>l.lookup u):=fun _ _ h=>hl _ (zdj h)
theorem sub_cons{l l2:List (Nat×AFx)}{u:Nat}{af:AFx}(h:l.lookup u=some af)(h2:∀p∈l2,l.lookup p.1=some p.2):∀p∈(u,af)::l2,l.lookup p.1=some p.2:=by
 intro p hp;rcases List.mem_cons.1 hp with rfl | hp
 ·exact h
 ·exact h2 p hp
def pT(i:Nat):List (Nat×AFx):=match i with
 | 0=>[(115,row115),(116,row116),(117,row117),(118,row118),(91,row91),(86,row86),(106,row106),(71,row71),(72,row72),(73,row73),(70,row70),(87,row87),(85,row85),(56,row56),(88,row88),(57,row57),(2106,row2106),(89,row89),(60,row60),(94,row94),(90,row90),(119,row119),(120,row120),(121,row121),(93,row93)]
 | 1=>[(2071,row2071),(2092,row2092),(62,row62),(55,row55),(38,row38),(40,row40),(23,row23),(25,row25),(27,row27),(37,row37),(41,row41),(36,row36),(198,row198),(199,row199),(200,row200),(201,row201),(202,row202),(203,row203),(205,row205),(207,row207),(209,row209),(210,row210),(211,row211),(212,row212),(213,row213)]
 | 2=>[(215,row215),(216,row216),(217,row217),(218,row218),(204,row204),(219,row219),(220,row220),(223,row223),(356,row356),(43,row43),(84,row84),(52,row52),(54,row54),(58,row58),(59,row59),(61,row61),(122,row122),(95,row95),(96,row96),(97,row97),(63,row63),(224,row224),(225,row225),(226,row226),(227,row227)]
 | 3=>[(228,row228),(229,row229),(230,row230),(2097,row2097),(2043,row2043),(105,row105),(69,row69),(39,row39),(24,row24),(231,row231),(232,row232),(233,row233),(235,row235),(237,row237),(239,row239),(240,row240),(241,row241),(242,row242),(247,row247),(353,row353),(278,row278),(279,row279),(286,row286),(248,row248),(249,row249)]
 | 4=>[(287,row287),(288,row288),(289,row289),(406,row406),(411,row411),(426,row426),(405,row405),(420,row420),(490,row490),(489,row489),(484,row484),(473,row473),(462,row462),(467,row467),(380,row380),(383,row383),(129,row129),(76,row76),(74,row74),(44,row44),(108,row108),(107,row107),(75,row75),(46,row46),(113,row113)]
 | 5=>[(80,row80),(114,row114),(10,row10),(79,row79),(50,row50),(13,row13),(483,row483),(493,row493),(491,row491),(492,row492),(485,row485),(486,row486),(487,row487),(488,row488),(477,row477),(185,row185),(186,row186),(177,row177),(188,row188),(179,row179),(178,row178),(172,row172),(263,row263),(265,row265),(189,row189)]
 | 6=>[(190,row190),(181,row181),(180,row180),(182,row182),(168,row168),(173,row173),(478,row478),(479,row479),(481,row481),(480,row480),(469,row469),(466,row466),(402,row402),(465,row465),(475,row475),(474,row474),(476,row476),(464,row464),(471,row471),(245,row245),(244,row244),(468,row468),(470,row470),(463,row463),(459,row459)]
 | _=>[]
def Zm2:List (Nat×AFx):=[(68,row68),(187,row187)]
def lTab:List (Nat×AFx):=pT 0++pT 1++pT 2++pT 3++pT 4++pT 5++pT 6++Zm2
def gTab:List (Nat×AFx):=lTab++[(92,row92),(101,row101),(103,row103),(125,row125)]
def tab:Tbl:=fun u=>gTab.lookup u
def Zie:Nat→Nat:=Zn fun u=>lTab.lookup u
def Zca(l:List (Nat×AFx)):Prop:=(l.map fun p=>Zcm Tryz.prog (nu p.1))=l.map fun p=>some (erF nu Zie p.2)
theorem res_mem{l:List (Nat×AFx)}(h:Zca l)(h2:(l.all fun p=>p.2.body.isPrim.isNone&&!p.2.body.isBad)=true):∀p∈l,Zd7 Tryz.prog nu Zie p.1 p.2:=by
 intro p hp;have h3:=List.all_eq_true.1 h2 p hp;simp only[Bool.and_eq_true,Option.isNone_iff_eq_none,Bool.not_eq_true']at h3;exact ok_fn h3.1 h3.2 (List.map_inj_left.1 h p hp)
theorem ok_app{l r:List (Nat×AFx)}(h1:∀p∈l,Zd7 Tryz.prog nu Zie p.1 p.2)(h2:∀p∈r,Zd7 Tryz.prog nu Zie p.1 p.2):∀p∈l++r,Zd7 Tryz.prog nu Zie p.1 p.2:=fun p hp=>(List.mem_append.1 hp).elim (h1 p) (h2 p)
theorem res0:Zca (pT 0):=by unfold Zca;kernel_rfl
theorem res1:Zca (pT 1):=by unfold Zca;kernel_rfl
theorem res2:Zca (pT 2):=by unfold Zca;kernel_rfl
theorem res3:Zca (pT 3):=by unfold Zca;kernel_rfl
theorem res4:Zca (pT 4):=by unfold Zca;kernel_rfl
theorem res5:Zca (pT 5):=by unfold Zca;kernel_rfl
theorem res6:Zca (pT 6):=by unfold Zca;kernel_rfl
theorem lTab_ok(hp68:∀xs r,prim68 xs=some r→Zbb Tryz.prog (nu 68) xs (·=r))(hp187:∀xs r,prim187 xs=some r→Zbb Tryz.prog (nu 187) xs (·=r)):TOk Tryz.prog nu (fun u=>lTab.lookup u):=ok_lookup (ok_app (ok_app (ok_app (ok_app (ok_app (ok_app (ok_app (res_mem res0 (by kernel_rfl)) (res_mem res1 (by kernel_rfl))) (res_mem res2 (by kernel_rfl))) (res_mem res3 (by kernel_rfl))) (res_mem res4 (by kernel_rfl))) (res_mem res5 (by kernel_rfl))) (res_mem res6 (by kernel_rfl))) (ok_cons (ok_pr rfl hp68) (ok_cons (ok_pr rfl hp187) (fun p hp=>by cases hp))))
def Zkd:List Nat→Bool
 | []=>true
 | a::l=>!l.contains a&&Zkd l
theorem sub_app{l r:List (Nat×AFx)}(h:Zkd (l.map (·.1))=true):∀p∈l,(l++r).lookup p.1=some p.2:=by
 induction l with
 | nil=>intro p hp;cases hp
 | cons a l ih=>
  intro p hp;obtain⟨k,v⟩:=a;simp only[List.map_cons,Zkd,Bool.and_eq_true,Bool.not_eq_true']at h;rcases List.mem_cons.1 hp with rfl | hq
  ·simp
  ·have hne:(p.1 == k)=false:=by
    cases hb:p.1 == k with
    | false=>rfl
    | true=>
     have:=eq_of_beq hb;subst this;have h5:(l.map (·.1)).contains p.1=true:=List.contains_iff_mem.2 (List.mem_map.2 ⟨p,hq,rfl⟩);rw[h5]at h;cases h.1
   rw[List.cons_append,List.lookup_cons,hne];exact ih h.2 p hq
theorem lTab_part:Part gTab lTab:=⟨sub_app (by kernel_rfl),by kernel_rfl⟩
def sTab:List (Nat×AFx):=[(118,row118),(86,row86),(106,row106),(71,row71),(70,row70),(90,row90),(101,row101),(103,row103),(125,row125)]
def Zfn:Nat→Nat:=Zn fun u=>sTab.lookup u
theorem ress_118:Zcm Tryz.prog (nu 118)=some (erF nu Zfn row118):=by kernel_rfl
theorem ress_86:Zcm Tryz.prog (nu 86)=some (erF nu Zfn row86):=by kernel_rfl
theorem ress_106:Zcm Tryz.prog (nu 106)=some (erF nu Zfn row106):=by kernel_rfl
theorem ress_71:Zcm Tryz.prog (nu 71)=some (erF nu Zfn row71):=by kernel_rfl
theorem ress_70:Zcm Tryz.prog (nu 70)=some (erF nu Zfn row70):=by kernel_rfl
theorem ress_90:Zcm Tryz.prog (nu 90)=some (erF nu Zfn row90):=by kernel_rfl
theorem ress_101:Zcm Tryz.prog (nu 101)=some (erF nu Zfn row101):=by kernel_rfl
theorem ress_103:Zcm Tryz.prog (nu 103)=some (erF nu Zfn row103):=by kernel_rfl
theorem ress_125:Zcm Tryz.prog (nu 125)=some (erF nu Zfn row125):=by kernel_rfl
theorem sTab_ok:TOk Tryz.prog nu (fun u=>sTab.lookup u):=ok_lookup (ok_cons (ok_fn rfl rfl ress_118) (ok_cons (ok_fn rfl rfl ress_86) (ok_cons (ok_fn rfl rfl ress_106) (ok_cons (ok_fn rfl rfl ress_71) (ok_cons (ok_fn rfl rfl ress_70) (ok_cons (ok_fn rfl rfl ress_90) (ok_cons (ok_fn rfl rfl ress_101) (ok_cons (ok_fn rfl rfl ress_103) (ok_cons (ok_fn rfl rfl ress_125) (fun p hp=>by cases hp))))))))))
theorem sTab_part:Part gTab sTab:=⟨sub_cons (by kernel_rfl) (sub_cons (by kernel_rfl) (sub_cons (by kernel_rfl) (sub_cons (by kernel_rfl) (sub_cons (by kernel_rfl) (sub_cons (by kernel_rfl) (sub_cons (by kernel_rfl) (sub_cons (by kernel_rfl) (sub_cons (by kernel_rfl) (fun p hp=>by cases hp))))))))),by kernel_rfl⟩
instance:Zad tab:=⟨by kernel_rfl,by kernel_rfl,by kernel_rfl,by kernel_rfl,by kernel_rfl⟩
instance:Zp tab where
 h115:=by kernel_rfl
 h116:=by kernel_rfl
 h117:=by kernel_rfl
 h118:=by kernel_rfl
 h91:=by kernel_rfl
 h86:=by kernel_rfl
 h106:=by kernel_rfl
 h71:=by kernel_rfl
 h72:=by kernel_rfl
 h73:=by kernel_rfl
 h70:=by kernel_rfl
 h87:=by kernel_rfl
 h85:=by kernel_rfl
 h56:=by kernel_rfl
 h88:=by kernel_rfl
 h57:=by kernel_rfl
 h2106:=by kernel_rfl
instance:Z0 tab where
 h115:=by kernel_rfl
 h116:=by kernel_rfl
 h117:=by kernel_rfl
 h118:=by kernel_rfl
 h91:=by kernel_rfl
 h86:=by kernel_rfl
 h106:=by kernel_rfl
 h71:=by kernel_rfl
 h72:=by kernel_rfl
 h73:=by kernel_rfl
 h70:=by kernel_rfl
 h87:=by kernel_rfl
 h85:=by kernel_rfl
 h56:=by kernel_rfl
 h88:=by kernel_rfl
 h57:=by kernel_rfl
 h2106:=by kernel_rfl
 h89:=by kernel_rfl
 h60:=by kernel_rfl
instance:Z3 tab:=⟨by kernel_rfl,by kernel_rfl⟩
instance:Zq tab:=⟨by kernel_rfl,by kernel_rfl,by kernel_rfl,by kernel_rfl,by kernel_rfl⟩
instance:Zu tab:=⟨by kernel_rfl,by kernel_rfl,by kernel_rfl⟩
instance:Zcg tab:=⟨by kernel_rfl⟩
instance:Zay tab:=⟨by kernel_rfl⟩
instance:Zhk tab:=⟨by kernel_rfl,by kernel_rfl⟩
instance:Zl tab:=⟨by kernel_rfl,by kernel_rfl,by kernel_rfl,by kernel_rfl,by kernel_rfl,by kernel_rfl,by kernel_rfl,by kernel_rfl,by kernel_rfl⟩
instance:Zo tab:=⟨by kernel_rfl,by kernel_rfl,by kernel_rfl,by kernel_rfl⟩
instance:Zr tab:=⟨by kernel_rfl,by kernel_rfl,by kernel_rfl,by kernel_rfl,by kernel_rfl,by kernel_rfl,by kernel_rfl,by kernel_rfl,by kernel_rfl,by kernel_rfl,by kernel_rfl,by kernel_rfl,by kernel_rfl⟩
instance:Zbj tab:=⟨by kernel_rfl⟩
instance:Zam tab:=⟨by kernel_rfl,by kernel_rfl⟩
instance:Za6 tab:=⟨by kernel_rfl⟩
instance:Zcz tab:=⟨by kernel_rfl⟩
instance:Zx tab:=⟨by kernel_rfl,by kernel_rfl,by kernel_rfl,by kernel_rfl,by kernel_rfl,by kernel_rfl⟩
instance:Zab tab where
 h43:=by kernel_rfl
 h84:=by kernel_rfl
 h52:=by kernel_rfl
 h54:=by kernel_rfl
 h58:=by kernel_rfl
 h59:=by kernel_rfl
 h61:=by kernel_rfl
instance:Zw tab where
 h43:=by kernel_rfl
 h84:=by kernel_rfl
 h52:=by kernel_rfl
 h54:=by kernel_rfl
 h58:=by kernel_rfl
 h59:=by kernel_rfl
 h61:=by kernel_rfl
 h122:=by kernel_rfl
 h95:=by kernel_rfl
 h96:=by kernel_rfl
 h97:=by kernel_rfl
 h63:=by kernel_rfl
instance:Z5 tab:=⟨by kernel_rfl,by kernel_rfl,by kernel_rfl,by kernel_rfl,by kernel_rfl,by kernel_rfl,by kernel_rfl,by kernel_rfl⟩
instance:Z9 tab where
 h43:=by kernel_rfl
 h84:=by kernel_rfl
 h52:=by kernel_rfl
 h54:=by kernel_rfl
 h58:=by kernel_rfl
 h59:=by kernel_rfl
 h61:=by kernel_rfl
 h122:=by kernel_rfl
 h95:=by kernel_rfl
 h96:=by kernel_rfl
 h97:=by kernel_rfl
 h63:=by kernel_rfl
 h2043:=by kernel_rfl
 h105:=by kernel_rfl
 h69:=by kernel_rfl
instance:Za1 tab where
 h43:=by kernel_rfl
 h84:=by kernel_rfl
 h52:=by kernel_rfl
 h54:=by kernel_rfl
 h58:=by kernel_rfl
 h59:=by kernel_rfl
 h61:=by kernel_rfl
 h122:=by kernel_rfl
 h95:=by kernel_rfl
 h96:=by kernel_rfl
 h97:=by kernel_rfl
 h63:=by kernel_rfl
 h2043:=by kernel_rfl
 h105:=by kernel_rfl
 h69:=by kernel_rfl
 h39:=by kernel_rfl
 h24:=by kernel_rfl
instance:Zv tab:=⟨by kernel_rfl,by kernel_rfl,by kernel_rfl,by kernel_rfl,by kernel_rfl,by kernel_rfl,by kernel_rfl,by kernel_rfl,by kernel_rfl,by kernel_rfl,by kernel_rfl⟩
instance:Zas tab:=⟨by kernel_rfl,by kernel_rfl,by kernel_rfl⟩
instance:Zcy tab:=⟨by kernel_rfl,by kernel_rfl⟩
instance:Zch tab:=⟨by kernel_rfl,by kernel_rfl,by kernel_rfl⟩
instance:Zcd tab where
instance:Zar tab:=⟨by kernel_rfl,by kernel_rfl,by kernel_rfl⟩
instance:Zbv tab:=⟨by kernel_rfl,by kernel_rfl⟩
instance:Zy tab:=⟨by kernel_rfl,by kernel_rfl,by kernel_rfl,by kernel_rfl,by kernel_rfl,by kernel_rfl⟩
instance:Zd2 tab:=⟨by kernel_rfl,by kernel_rfl⟩
instance:Zb7 tab:=⟨by kernel_rfl⟩
instance:Zaq tab:=⟨by kernel_rfl,by kernel_rfl,by kernel_rfl,by kernel_rfl,by kernel_rfl,by kernel_rfl,by kernel_rfl⟩
instance:Zah tab:=⟨by kernel_rfl,by kernel_rfl,by kernel_rfl,by kernel_rfl,by kernel_rfl,by kernel_rfl⟩
instance:Zd1 tab:=⟨by kernel_rfl⟩
instance:Zbo tab:=⟨by kernel_rfl,by kernel_rfl,by kernel_rfl,by kernel_rfl⟩
instance:Zbi tab:=⟨by kernel_rfl,by kernel_rfl,by kernel_rfl,by kernel_rfl,by kernel_rfl⟩
instance:Zcu tab:=⟨by kernel_rfl,by kernel_rfl,by kernel_rfl,by kernel_rfl,by kernel_rfl,by kernel_rfl,by kernel_rfl,by kernel_rfl⟩
instance:Zcc tab where
instance:Zdq tab:=⟨by kernel_rfl,by kernel_rfl⟩
instance:Zat tab:=⟨by kernel_rfl,by kernel_rfl,by kernel_rfl,by kernel_rfl,by kernel_rfl,by kernel_rfl,by kernel_rfl⟩
instance:Zai tab:=⟨by kernel_rfl,by kernel_rfl,by kernel_rfl,by kernel_rfl,by kernel_rfl,by kernel_rfl⟩
instance:Zap tab:=⟨by kernel_rfl,by kernel_rfl,by kernel_rfl,by kernel_rfl,by kernel_rfl,by kernel_rfl,by kernel_rfl⟩
instance:Zd6 tab:=⟨by kernel_rfl⟩
instance:Zc9 tab:=⟨by kernel_rfl⟩
instance:Zb9 tab:=⟨by kernel_rfl,by kernel_rfl,by kernel_rfl,by kernel_rfl⟩
end Go.Proofs.YtjhilbodpmnbmaaGreatDoor
end
section
namespace Go.Proofs
open Go.RowKit
theorem Tryz.sizeBuilder:(Tryz.prog.info? 225).map (·.size)=some 2:=by kernel_rfl
theorem Tryz.liesBuilder:liesAt Tryz.prog Tryz.prog.depth 225 (2/Tryz.prog.cellsOf 225) 0 225 1=true:=by kernel_rfl
theorem Tryz.infoByte:(Tryz.prog.info? 5).map (fun i=>(i.zero,i.size,i.bytes))=some (some (.int .u8 0),1,1):=by kernel_rfl
theorem Tryz.cellsByte:Tryz.prog.cellsOf 5=1:=by kernel_rfl
set_option maxHeartbeats 1000000 in
set_option maxRecDepth 100000 in
theorem Tryz.bString(B b:Nat)(l:List UInt8)(w:World)(h:Lib.IsBuilder 225 5 B b (Lib.byteCells l) w)(h0:l≠[]) :
  Calls Tryz.prog 147 #[.pointer (some ⟨b,0,none⟩)] w fun e w'=>e=.returned (.string ⟨l.toArray⟩)∧Below B w w':=by
 obtain⟨p,hB,v,hbk,hown,hne⟩:∃p,Lib.BuilderAt 225 5 B b p (Lib.byteCells l) w:=by
  rcases h with h | h
  ·exact⟨_,h⟩
  ·exact⟨_,h⟩
 have hl0:l.length≠0:=by simpa using h0
 rw[Lib.byteCells_length]at hown;obtain⟨g,cap,cur,rfl,hbg,hg,hnc,hcm,hcs,htake⟩:∃g cap cur,v=.slice (some ⟨g,0,none⟩) l.length cap∧B≤g∧w.heap[g]? = some (.cells cur 5 (0,0))∧l.length≤cap∧cap≤maxLen∧cur.size=cap*1∧cur.toList.take (l.length*1)=Lib.byteCells l:=by
  rcases hown.2 with ⟨_,hz⟩ | ⟨g,cap,cur,hv,r⟩
  ·exact absurd hz hl0
  ·exact⟨g,cap,cur,hv,r⟩
 have c1:w.drew.cell? ⟨b,1,none⟩=some (.slice (some ⟨g,0,none⟩) l.length cap):=by
  have:w.drew.heap[b]? = some (.cells #[p,.slice (some ⟨g,0,none⟩) l.length cap] 225 (0,0)):=hbk;rw[Lib.cell_of_heap this];rfl
 have hSD:(Builtin.unsafeSliceData_ #[223] 270 #[.slice (some ⟨g,0,none⟩) l.length cap]).run Tryz.prog w.drew=.ok (.pointer (some ⟨g,0,none⟩)) w.drew:=
  Lib.run_unsafeSliceData_row _ _ _ _ _ _ (by omega)
 have hUS:(Builtin.unsafeString_ #[270,3] 9 #[.pointer (some ⟨g,0,none⟩),.int .i64 l.length]).run Tryz.prog w.drew=.ok (.string ⟨l.toArray⟩) (w.drew.freeze ⟨g,0,none⟩ l.length):=by
  refine Lib.run_unsafeString_row w.drew 270 3 9 5 Tryz.underlying270 Tryz.cellsByte g cur.size (by have hg':w.drew.heap[g]? = some (.cells cur 5 (0,0)):=hg;simp[World.shape?,hg']) l h0 (by omega) (by unfold maxLen at hcm;omega) ?_;intro j x hx;have:=hown.cells (g:=g) rfl j (.int .u8 x.toNat) (by simp[Lib.byteCells,hx]);exact this
 go_enter Tryz.func147,Tryz.ntmps147
 go_wp2
 go_region
 all_goals (go_wp2;go_ret;exact⟨rfl,Lib.below_freeze (Below.drew (Below.refl B w)) (p:=⟨g,0,none⟩) hbg _⟩)
set_option maxHeartbeats 1000000 in
set_option maxRecDepth 100000 in
theorem Tryz.bCheck_used(b:Nat)(w:World)(h0:w.cell? ⟨b,0,none⟩=some (.pointer (some ⟨b,0,none⟩))) :
  Calls Tryz.prog 191 #[.pointer (some ⟨b,0,none⟩)] w fun e w'=>e=.returned (.tuple #[])∧w'=w:=by
 obtain⟨j,hj,_⟩:=Option.map_eq_some_iff.1 Tryz.sizeBuilder
 go_enter Tryz.func191,Tryz.ntmps191
 go_wp2
 rw[Lib.run_neq_ptr_same w _ Tryz.underlying222 hj]
 go_wp2
 go_end0
 exact⟨rfl,rfl⟩
set_option maxHeartbeats 1000000 in
set_option maxRecDepth 100000 in
theorem Tryz.bCheck_fresh(b:Nat)(w:World)(h0:w.cell? ⟨b,0,none⟩=some (.pointer none))(hsh:w.shape? b=some (225,2))(hfz:w.frozen? ⟨b,0,none⟩=false) :
  Calls Tryz.prog 191 #[.pointer (some ⟨b,0,none⟩)] w fun e w'=>e=.returned (.tuple #[])∧w'=w.setCell ⟨b,0,none⟩ (.pointer (some ⟨b,0,none⟩)):=by
 obtain⟨j,hj,hjs⟩:=Option.map_eq_some_iff.1 Tryz.sizeBuilder
 go_enter Tryz.func191,Tryz.ntmps191
 go_wp2
 rw[Lib.run_to_unsafe w ⟨b,0,none⟩ Tryz.underlying222 Tryz.underlying307 hj (by rw[hjs];decide) hsh (Nat.zero_lt_succ 1)];simp only[Result.andThen];rw[Oper.upon_value]
 go_wp2
 rw[run_callFunc_extern Tryz.func221 (by kernel_rfl) (by kernel_rfl) (by kernel_rfl) (e:=Extern.AbiNoEscape.same) (by kernel_rfl)];rw[Lib.run_noEscape];simp only[Result.andThen];rw[Oper.upon_value]
 go_wp2
 rw[Lib.run_from_unsafe w ⟨b,0,none⟩ Tryz.underlying307 Tryz.underlying222 hj hsh Tryz.liesBuilder];simp only[Result.andThen];rw[Oper.upon_value]
 go_wp2
 go_end0
 exact⟨rfl,rfl⟩
theorem Tryz.bCheck(B b:Nat)(bs:List Value)(w:World)(h:Lib.IsBuilder 225 5 B b bs w) :
  Calls Tryz.prog 191 #[.pointer (some ⟨b,0,none⟩)] w fun e w'=>e=.returned (.tuple #[])∧(Lib.BuilderAt 225 5 B b (.pointer (some ⟨b,0,none⟩)) bs w'∧Below B w w'):=by
 rcases h with h | h
 ·refine(Tryz.bCheck_fresh b w h.cell0 h.shape h.frozen0).mono ?_
  rintro e w' ⟨rfl,rfl⟩
  exact⟨rfl,h.used _,(Below.refl B w).setCell (p:=⟨b,0,none⟩) h.1 _⟩
 ·refine(Tryz.bCheck_used b w h.cell0).mono ?_
  rintro e w' ⟨rfl,rfl⟩
  exact⟨rfl,h,Below.refl B _⟩
set_option maxHeartbeats 2000000 in
set_option maxRecDepth 100000 in
theorem Tryz.bWrite(B b:Nat)(bs:List Value)(s:ByteArray)(w:World)(h:Lib.IsBuilder 225 5 B b bs w)(hlen:bs.length+s.size≤140737488355328)(hBw:B≤w.heap.size) :
  Calls Tryz.prog 146 #[.pointer (some ⟨b,0,none⟩),.string s] w fun e w'=>e=.returned (.tuple #[.int .i64 s.size,.nilIface])∧(Lib.BuilderAt 225 5 B b (.pointer (some ⟨b,0,none⟩)) (bs++Lib.strCells s) w'∧Below B w w'):=by
 obtain⟨i0,hi,hz0,hz1,hz2⟩:=info_parts Tryz.infoByte
 go_enter Tryz.func146,Tryz.ntmps146
 go_wp2_with (go_at_call 191;refine(Tryz.bCheck B b bs _ h).mono ?_)
 rintro e w1 ⟨rfl,h1,hb1⟩
 obtain⟨hB,v,hbk,hown,hne⟩:=h1;have c0:w1.cell? ⟨b,0,none⟩=some (.pointer (some ⟨b,0,none⟩)):=by rw[Lib.cell_of_heap hbk];rfl
 have c1:w1.cell? ⟨b,1,none⟩=some v:=by rw[Lib.cell_of_heap hbk];rfl
 go_wp2_with (at_builtin;refine Lib.wpList_append_own_string _ rfl _ _ 223 9 rfl B 5 i0 Tryz.underlying223 Tryz.underlying9 hi hz0 hz1 hz2 _ _ _ rfl hown s rfl ?c3 ?c4 ?c5 ?_)
 case c3=>unfold maxLen;omega
 case c4=>omega
 case c5=>have:=hb1.size;omega
 intro v' w2 hown' hgrow _;have hlt:b<w1.heap.size:=by
  rcases Nat.lt_or_ge b w1.heap.size with h' | h'
  ·exact h'
  ·simp[Array.getElem?_eq_none h']at hbk
 have hb2:w2.heap[b]? = some (.cells #[.pointer (some ⟨b,0,none⟩),v] 225 (0,0)):=by
  rw[hgrow.block b hlt (fun e=>hne e.symm)];exact hbk
 have d0:w2.cell? ⟨b,0,none⟩=some (.pointer (some ⟨b,0,none⟩)):=by rw[Lib.cell_of_heap hb2];rfl
 have d1:w2.cell? ⟨b,1,none⟩=some v:=by rw[Lib.cell_of_heap hb2];rfl
 have f1:w2.frozen? ⟨b,1,none⟩=false:=Lib.frozen_of_heap hb2 1;obtain⟨ao,n',cap,rfl⟩:∃ao n' cap,v'=.slice ao n' cap:=by
  rcases hown'.2 with ⟨hv,_⟩ | ⟨g,cap,cur,hv,_⟩
  ·exact⟨_,_,_,hv⟩
  ·exact⟨_,_,_,hv⟩
 go_wp2
 go_ret2
 refine⟨rfl,?_,?_⟩
 ·exact Lib.BuilderAt.put (T:=225) (e:=5) hB hb2 (bs':=bs++Lib.strCells s) (by simpa[Lib.strCells_length]using hown') (by decide)
 ·exact(hb1.grown hgrow (by have:=hb1.size;omega) (fun k hk=>(hown.lt k hk).1)).setCell (p:=⟨b,1,none⟩) hB _
end Go.Proofs
end
namespace Go.Ab
def pieces(n:Nat):List (List UInt8):=if h:n=0 then [] else Zdc 9 (n%1000000000)::pieces (n/1000000000)
termination_by n
decreasing_by exact Ydt (Yan h) (by decide)
theorem zb6:pieces 0=[]:=by unfold pieces;simp
theorem zcm{n:Nat}(h:n≠0):pieces n=Zdc 9 (n%1000000000)::pieces (n/1000000000):=by
 conv=>lhs;unfold pieces
 rw[dif_neg h]
def Zc4(l:List (List UInt8)):List (List AV):=l.map fun s=>[.s s]
@[simp] theorem z1q(l:List (List UInt8)):(Zc4 l).length=l.length:=by simp[Zc4]
@[simp] theorem z0q(l:List (List UInt8)):wkL (Zc4 l)=Zc4 l:=by
 induction l with
 | nil=>rfl
 | cons x l ih=>simpa[Zc4,wkL,wkR]using ih
theorem zx1(l:List (List UInt8))(s:List UInt8):Zc4 l++[[.s s]]=Zc4 (l++[s]):=by simp[Zc4]
def txL:AX:=
 (.note
 (.seq
 (.seq
  (.reg [⟨(some 11),none,.mov (.t 0)⟩,
   ⟨(some 12),none,.call 70 [(.t 11)]⟩,
   ⟨(some 13),none,.un .not (.t 12)⟩])
  (.cond (.t 13)
  .skip
  (.exit 0)))
 (.block 1
  (.seq
  (.reg [⟨(some 15),none,.mov (.t 0)⟩,
   ⟨(some 16),none,.call 90 [(.t 15),(.c (u32 1000000000))]⟩,
   ⟨(some 14),none,.mov (.t 16)⟩,
   ⟨(some 17),none,.ext (.t 14) 0⟩,
   ⟨(some 18),none,.ext (.t 14) 1⟩,
   ⟨(some 19),none,.ext (.t 14) 2⟩,
   ⟨(some 4),none,.mov (.t 17)⟩,
   ⟨(some 5),none,.mov (.t 18)⟩,
   ⟨(some 6),none,.mov (.t 19)⟩])
  (.seq
   (.reg [⟨(some 20),none,.mov (.t 3)⟩,
    ⟨(some 21),none,.mov (.t 5)⟩,
    ⟨(some 22),none,.call 101 [(.t 21)]⟩,
    ⟨(some 23),none,.bsl 1 [(.s [])] 1 [(0,(.t 22))]⟩,
    ⟨(some 24),none,.app 1 (.t 20) (.t 23)⟩,
    ⟨(some 3),none,.mov (.t 24)⟩])
   (.reg [⟨(some 25),none,.mov (.t 4)⟩,
    ⟨(some 0),none,.mov (.t 25)⟩])))))
 (.norm false [0,3]))
def tx0:AX:=(.reg [⟨(some 2),none,.mov (.c (.s []))⟩])
def txA:AX:=
  (.seq
  (.reg [⟨(some 9),none,.mov (.t 0)⟩,
   ⟨(some 10),none,.call 70 [(.t 9)]⟩])
  (.cond (.t 10)
   (.seq
   (.reg [⟨(some 2),none,.mov (.c (.s [48]))⟩])
   (.pre (.norm false [2]) .ret))
   .skip))
def tx3:AX:=(.note (.reg [⟨(some 3),none,.mov (.c (.sl [] .nl))⟩]) (.nil 3 1))
def txP:AX:=(.lp 0 (.norm false [0,3]) txL (.norm false [3]))
section
variable{T:Tbl}
theorem zahp(x:AV):evX (orc T) T 0 tx0 ⟨Zcx [x],[],1⟩=some (.n,⟨[(2,.s []),(0,x)],[],1⟩):=by
 simp -implicitDefEqProofs[tx0]
end
section
variable{T:Tbl}[Zp T]
theorem z9v(a:List UInt32)(hl:a.length≤1000)(h0:val a=0):evX (orc T) T 0 txA ⟨[(2,.s []),(0,.sl (Za a) .an)],[],1⟩=some (.r,⟨[(2,.s [48])],[],2⟩):=by
 have hz:=zej (T:=T) a (by omega);simp -implicitDefEqProofs[txA,hz,h0]
end
section
variable{T:Tbl}[Zp T]
theorem z9w(a:List UInt32)(hl:a.length≤1000)(h0:val a≠0):evX (orc T) T 0 txA ⟨[(2,.s []),(0,.sl (Za a) .an)],[],1⟩ =
  some (.n,⟨[(10,.b false),(9,.sl (Za a) .an),(2,.s []),(0,.sl (Za a) .an)],[],1⟩):=by
 have hz:=zej (T:=T) a (by omega);simp -implicitDefEqProofs[txA,hz,h0]
end
section
variable{T:Tbl}[Zp T][Z0 T][Z3 T][Zq T][Zcg T]
def Zkj(a:List UInt32)(l:List (List UInt8)):St:=⟨[(0,.sl (Za a) .an),(3,.bs (.loc 3) 1 1 0 l.length)],[((.loc 3),⟨1,.own,1,Zc4 l⟩)],3⟩
theorem ztj(l:List (List UInt8))(s:List UInt8):wkL (List.take l.length (Zc4 l)++[[AV.s s]])=Zc4 (l++[s]):=by
 rw[Yb (by simp),zx1,z0q]
end
section
variable{T:Tbl}[Zp T][Zq T][Zcg T]
theorem z0r(N:Nat)(hN:N≤4294967295)(L:List (List UInt8)):∀y:List UInt32×List (List UInt8),(y.1.length≤1000∧y.2++pieces (val y.1)=L∧L.length=N) →
  Ze T 0 0 (Gh.norm false [3]) txL (Zkj y.1 y.2)=some (.n,⟨[(3,.bs (.loc 3) 1 1 0 L.length)],[((.loc 3),⟨1,.own,1,Zc4 L⟩)],3⟩):=by
 refine zaw (fun y:List UInt32×List (List UInt8)=>Zkj y.1 y.2) _ (fun y=>val y.1) _ ?_
 rintro⟨a,l⟩ ⟨ha,hL,hn⟩
 simp only at ha hL hn;have hz:=zej (T:=T) a (by omega);by_cases h0:val a=0
 ·right;rw[h0,zb6,Ya2]at hL;subst hL;constructor<;>simp -implicitDefEqProofs[txL,Zkj,hz,h0]
 ·left;have hq:=zmz (T:=T) a 1000000000 (by omega) (by omega) (by omega);have hn9:=zoq (T:=T) (val a%1000000000) (by omega);have hlen:(ofN (val a/1000000000)).length≤a.length:=Yf (zaq (Ybr _ _)) (zad a);rw[zcm h0]at hL;have hll:l.length≤4294967295:=by have:=congrArg List.length hL;simp at this;omega
  refine⟨(ofN (val a/1000000000),l++[Zdc 9 (val a%1000000000)]),⟨by simp only;omega,by simp only[zae,Y7,Yd1];exact hL,hn⟩,?_,?_,rfl⟩
  ·simp only[zae];exact Ydt (Yan h0) (by decide)
  ·simp -implicitDefEqProofs[txL,Zkj,hz,hq,hn9,h0,hll,ztj]
end
section
variable{T:Tbl}[Zp T][Z0 T][Z3 T][Zq T][Zcg T]
theorem zf0:∀k n,n<1000000000^k→(pieces n).length≤k
 | 0,n,h=>by
  have:n=0:=by omega
  subst this;simp[zb6]
 | k+1,n,h=>by
  by_cases h0:n=0
  ·subst h0;simp[zb6]
  ·rw[zcm h0];have:=zf0 k (n/1000000000) (Ybe (by rw[Yai,←Yy];exact h));simp only[Yc];omega
theorem zny(a:List UInt32):(pieces (val a)).length≤2*a.length:=by
 refine zf0 _ _ (Y1 (za0 a) ?_);rw[Yei];exact Nat.pow_le_pow_left (by decide) _
theorem zpi:∀n,∀s∈pieces n,s.length=9:=by
 intro n
 induction n using Nat.strongRecOn with
 | _ n ih=>
  intro s hs;by_cases h0:n=0
  ·subst h0;simp[zb6]at hs
  ·rw[zcm h0]at hs;rcases Yaa.1 hs with rfl | hs
   ·exact ze6 9 _
   ·exact ih _ (Ydt (Yan h0) (by decide)) s hs
theorem zke:∀(k n:Nat),n≠0→n<10^k→(Zdc k n).dropWhile (· == 48)=Zbd n
 | 0,n,h0,h=>by omega
 | k+1,n,h0,h=>by
  rw[zd9];by_cases h1:n<10
  ·have e:n/10=0:=by omega
   have e2:n%10=n:=by omega
   have hz:∀j,(Zdc j 0).dropWhile (· == 48)=[]:=by
    intro j
    induction j with
    | zero=>rfl
    | succ j ih=>rw[zd9,Yd2,Nat.zero_div,ih];rfl
   rw[e,e2,Yd2,hz,ze5 h1];have:∀d,d<10→d≠0→List.dropWhile (fun x=>x == 48) [UInt8.ofNat (48+d)]=[UInt8.ofNat (48+d)]:=by decide
   simpa using this n h1 h0
  ·have ih:=zke k (n/10) (by omega) (Ybe (by rw[Yai,←Yy];exact h));have hne:Zbd (n/10)≠[]:=by
    unfold Zbd;by_cases h2:n/10<10
    ·rw[zka h2];simp
    ·rw[zqv h2];simp
   rw[Yd2,ih,znl h1];rw[if_neg (by simpa using hne)]
theorem zq4(j:Nat):∀(k n:Nat),Zdc (j+k) n=Zdc j (n/10^k)++Zdc k (n%10^k)
 | 0,n=>by simp[zij]
 | k+1,n=>by
  rw[←Yal,zd9,zq4 j k (n/10),zd9,Y7];have e1:n/10/10^k=n/10^(k+1):=by rw[Ybf,Yy,Yai]
  have e2:n/10%10^k=n%10^(k+1)/10:=by rw[Yy,Yai,Nat.mod_mul_right_div_self]
  have e3:n%10^(k+1)%10=n%10:=by rw[Yy,Nat.mod_mul_left_mod]
  rw[e1,e2,e3]
theorem zpj:∀n,(pieces n).reverse.flatten=Zdc (9*(pieces n).length) n:=by
 intro n
 induction n using Nat.strongRecOn with
 | _ n ih=>
  by_cases h0:n=0
  ·subst h0;simp[zb6,zij]
  ·rw[zcm h0,Yc7,List.flatten_append,ih _ (Ydt (Yan h0) (by decide))];simp only[Yc,List.flatten_cons,List.flatten_nil,Ya2];rw[show 9*((pieces (n/1000000000)).length+1)=9*(pieces (n/1000000000)).length+9 by omega,zq4]
theorem zx2:∀n,n<10^(9*(pieces n).length):=by
 intro n
 induction n using Nat.strongRecOn with
 | _ n ih=>
  by_cases h0:n=0
  ·subst h0;simp[zb6]
  ·have h:=ih _ (Ydt (Yan h0) (by decide:1<1000000000));rw[zcm h0,Yc,Yu,Ybj];exact(Ybl (by decide:0<10^(9*1))).1 h
theorem zpk(n:Nat)(h:n≠0):((pieces n).reverse.flatten).dropWhile (· == 48)=Zbd n:=by
 rw[zpj];exact zke _ n h (zx2 n)
theorem zc1:∀(l:List (List UInt8)),(∀s∈l,s.length=9)→l.flatten.length=9*l.length
 | [],_=>rfl
 | s::l,h=>by
  rw[List.flatten_cons,Yk,h s Yaj,zc1 l fun s hs=>h s (Yw _ hs),Yc];omega
def Zku(a:List UInt32):St:=⟨[(3,.bs (.loc 3) 1 1 0 0),(3,.sl [] .nl),(10,.b false),(9,.sl (Za a) .an),(2,.s []),(0,.sl (Za a) .an)],[(.loc 3,⟨1,.own,1,[]⟩)],2⟩
end
section
variable{T:Tbl}
theorem zahq(a:List UInt32):evX (orc T) T 0 tx3 ⟨[(10,.b false),(9,.sl (Za a) .an),(2,.s []),(0,.sl (Za a) .an)],[],1⟩=some (.n,Zku a):=by
 simp -implicitDefEqProofs[tx3,Zku]
end
section
variable{T:Tbl}[Zp T][Zq T][Zcg T]
theorem zahr(a:List UInt32)(hl:a.length≤1000):evX (orc T) T 0 txP (Zku a) =
  some (.n,⟨[(3,.bs (.loc 3) 1 1 0 (pieces (val a)).length)],[((.loc 3),⟨1,.own,1,Zc4 (pieces (val a))⟩)],3⟩):=by
 have hp:=zny a;have h:=z0r (T:=T) (pieces (val a)).length (by omega) (pieces (val a)) (a,[]) ⟨by simpa using hl,rfl,rfl⟩;unfold Zkj at h;simp[Zc4]at h;simp -implicitDefEqProofs[Zku,txP,h,Zc4]
end
section
variable{T:Tbl}
theorem ztb(res:List UInt8):∀l:List UInt8,(l.length≤1000000∧l.dropWhile (· == 48)=res) →
  Ze T 0 0 (.norm false [0]) l125_0 ⟨[(0,.s l),(1,u8 48)],[],2⟩=some (.n,⟨[(0,.s res)],[],2⟩):=by
 refine zaw (fun l:List UInt8=>⟨[(0,.s l),(1,u8 48)],[],2⟩) _ (fun l=>l.length) _ ?_
 rintro l ⟨hl,hr⟩
 cases l with
 | nil=>
  right;simp at hr;subst hr;constructor<;>simp -implicitDefEqProofs[l125_0]
 | cons c r=>
  simp only[Yc]at hl;have h2:(0:Int)<(r.length:Int)+1:=by omega
  have h3:(1:Int)≤(r.length:Int)+1:=by omega
  by_cases hc:c=48
  ·left;subst hc;rw[Yem (by decide)]at hr;exact⟨r,⟨by omega,hr⟩,Y6 _,by simp -implicitDefEqProofs[l125_0,h2,h3],rfl⟩
  ·right;rw[Yen (by simpa using hc)]at hr;subst hr;have hc':¬ c.toNat=48:=fun h=>hc (UInt8.toNat_inj.1 h);constructor<;>simp -implicitDefEqProofs[l125_0,h2,hc']
end
section
variable{T:Tbl}[Zhk T]
theorem zxc(l:List UInt8)(hl:l.length≤1000000):Zb T 103 [.s l,.s [48]]=some (.s (l.dropWhile (· == 48))):=by
 have h:=ztb (T:=T) _ l ⟨hl,rfl⟩;have h1:Zb T 125 [.s l,u8 48]=some (.s (l.dropWhile (· == 48))):=by
  rw[zab Zhk.h125 rfl,b125];simp -implicitDefEqProofs[h]
 obtain⟨Z,hZ⟩:∃Z,b103=(.seq
 (.reg [⟨(some 4),none,.mov (.c (.s []))⟩])
 (.seq
  (.seq
  (.reg [⟨(some 7),none,.mov (.t 0)⟩,
   ⟨(some 8),none,.bin .eql (.t 7) (.c (.s []))⟩,
   ⟨(some 9),none,.mov (.t 8)⟩,
   ⟨(some 10),(some (9,false)),.mov (.t 1)⟩,
   ⟨(some 11),(some (9,false)),.bin .eql (.t 10) (.c (.s []))⟩,
   ⟨(some 12),none,.pick (.t 9) (.c (.b true)) (.t 11)⟩])
  (.cond (.t 12)
   (.seq
   (.reg [⟨(some 13),none,.mov (.t 0)⟩,
    ⟨(some 4),none,.mov (.t 13)⟩])
   (.pre (.norm false [4]) .ret))
   .skip))
  (.seq
  (.seq
   (.reg [⟨(some 14),none,.mov (.t 1)⟩,
    ⟨(some 15),none,.lens (.t 14)⟩,
    ⟨(some 16),none,.bin .eql (.t 15) (.c (.i .i64 1))⟩,
    ⟨(some 17),none,.mov (.t 16)⟩,
    ⟨(some 18),(some (17,true)),.mov (.t 1)⟩,
    ⟨(some 19),(some (17,true)),.ixs (.t 18) (.c (.i .i64 0))⟩,
    ⟨(some 20),(some (17,true)),.bin .lss (.t 19) (.c (u8 128))⟩,
    ⟨(some 21),none,.pick (.t 17) (.t 20) (.c (.b false))⟩])
   (.cond (.t 21)
   (.seq
    (.reg [⟨(some 22),none,.mov (.t 0)⟩,
     ⟨(some 23),none,.mov (.t 1)⟩,
     ⟨(some 24),none,.ixs (.t 23) (.c (.i .i64 0))⟩,
     ⟨(some 25),none,.call 125 [(.t 22),(.t 24)]⟩,
     ⟨(some 4),none,.mov (.t 25)⟩])
    (.pre (.norm false [4]) .ret))
   .skip)) Z)):AX):=⟨_,rfl⟩
 rw[zab Zhk.h103 rfl,hZ];by_cases h0:l=[]
 ·subst h0;simp -implicitDefEqProofs
 ·simp -implicitDefEqProofs[h0,h1]
end
section
variable{P:Program}{ν:Nat→FuncId}{T:Tbl}
theorem zva(hT:TOk P ν T)(hm:P.follows .mixedOrders=true){cx:Cx}(hP:cx.P=P)(hk:cx.clk0=1)(c:AX){code:Code}{nt:Nat}(hnt:cx.nt=nt)(hres:Zac P nt code=some (er ν (Zn T) c)){st:St}{e:Ex}{st':St}
  (h:evX (orc T) T 0 c st=some (e,st')) {a:Act} {w:World} (hr:Rel cx st a w) {K:Exit→Act→World→Prop} (hK:∀a' w',Rel cx st' a' w'→K e.out a' w'):code.wp P K a w:=by
 obtain⟨L,h1,h2⟩:=zcs T 0 c st _ _ h;obtain⟨n,hn⟩:=zom T h1;have hev:=zbh (GoodO.orcN hT hm n) (k:=0) (cx:=cx) hP hk c st e st' (h2 _ hn);subst hP hnt;refine wp_mono (hev code hres hm a w hr) ?_
 rintro ex a' w' ⟨s,⟨rfl,rfl⟩,hr'⟩
 exact hK a' w' hr'
theorem zvb{nt:Nat}{w:World}{S:Nat→Nat→Prop}{cargs:Array Value}{args:List AV}(hl:cargs.size=args.length)(hn:args.length≤nt)
  (hC:∀(j:Nat) (v:Value) (c:AV),cargs[j]? = some v→args[j]? = some c→CP w S v c) (hS:∀k o,S k o→k<w.heap.size) :
  Rel ⟨P,nt,w,S,fun _=>none,1⟩ ⟨Zcx args,[],1⟩ { tmps:=cargs++Array.replicate (nt-cargs.size) undef,defers:=[] } w:=by
 refine⟨S,fun _=>none,by simp;omega,rfl,fun t=>?_,⟨⟨fun b bx hb=>(by simp at hb),fun g m hm=>(by cases hm),fun b bx b' bx' h1=>(by simp at h1),fun g g' k h1=>(by cases h1)⟩,
  Ext.refl _ _ _ _,⟨rfl,rfl,rfl,Yg _,fun _ _ _=>rfl⟩,fun k o hs=>.inl hs,hS,fun g k hm=>(by cases hm)⟩⟩
 rw[zjf];cases ha:args[t]? with
 | none=>exact .p (.dead _)
 | some x=>
  have htl:=zbd ha;have hv:cargs[t]? = some (cargs[t]'(by omega)):=Yad _;have e1:(cargs++Array.replicate (nt-cargs.size) undef).getD t undef=cargs[t]'(by omega):=by
   simp only[Yee];rw[Yba (by omega),hv]
   rfl
  rw[e1];exact .p (hC t _ x hv ha)
theorem Rel.below{nt:Nat}{w0:World}{S:Nat→Nat→Prop}{st:St}{a:Act}{w:World}(h:Rel ⟨P,nt,w0,S,fun _=>none,1⟩ st a w):RowKit.Below w0.heap.size w0 w:=by
 obtain⟨S',M',hr⟩:=h;exact⟨hr.wr.fr.os,hr.wr.fr.tape,hr.wr.fr.output,hr.wr.fr.size,fun k hk=>hr.wr.fr.block k hk fun⟨g,hg⟩=>(by cases hg)⟩
theorem Rel.strAt{cx:Cx}{st:St}{a:Act}{w:World}(h:Rel cx st a w){t:Nat}{l:List UInt8}(he:st.env.get t=.s l):a.tmps.getD t undef=.string ⟨l.toArray⟩:=by
 obtain⟨S',M',hr⟩:=h;have:=hr.env t;rw[he]at this;generalize a.tmps.getD t undef=v at *
 cases this with
 | p h=>cases h;rfl
theorem Rel.strs{cx:Cx}{st:St}{a:Act}{w:World}(h:Rel cx st a w){t:Nat}{b:BId}{g n:Nat}{ls:List (List UInt8)}(hne:ls≠[])(he:st.env.get t=.bs b g 1 0 n)
  (hb:st.heap.lookup b=some ⟨g,.own,1,ls.map fun s=>[.s s]⟩):∃k arr e cap,a.tmps.getD t undef=.slice (some ⟨k,0,none⟩) n cap∧w.heap[k]? = some (.cells arr e (0,0))∧n≤cap∧cap≤maxLen∧cap≤arr.size ∧
   ∀(i:Nat) (s:List UInt8),ls[i]? = some s→arr[i]? = some (Value.string ⟨s.toArray⟩):=by
 obtain⟨S',M',hr⟩:=h;have h1:=hr.env t;rw[he]at h1;obtain⟨_,_,m,hm,h2⟩:=hr.wr.heap.box b _ hb;simp only at hm h2;generalize a.tmps.getD t undef=v at *
 cases h1 with
 | p h=>cases h
 | bs _ _ _ _ _ _ hg hB h1=>
  unfold Ze6 at hB;rw[hm]at hB;cases m with
  | none=>exact absurd (by simpa using h2.1) hne
  | some k=>
   obtain⟨arr,e,cap,hk,hv,c1,c2,c3⟩:=hB;obtain⟨arr',e',hk',_,hcells,_⟩:=h2;rw[hk]at hk';cases hk';refine⟨k,arr,e,cap,by rw[hv],hk,c1,c2,by omega,fun i s hi=>?_⟩;obtain⟨u,hu,_,_,hc⟩:=hcells i [.s s] 0 (.s s) (by simp[hi]) rfl;have:=hc (by simp);rw[Ycq,Yt]at hu;cases this;exact hu
end
end Go.Ab
section
namespace Go.Proofs.YtjhilbodpmnbmaaGreatDoor
open Go Go.Ab Go.RowKit
theorem list_cons{α:Type}{n:Nat}{l:List α}(h:l.length=n+1):∃x t,l=x::t∧t.length=n:=by
 cases l with
 | nil=>simp at h
 | cons x t=>exact⟨x,t,rfl,by simpa using h⟩
set_option maxHeartbeats 2000000 in
set_option maxRecDepth 100000 in
theorem text_calls(hm:Tryz.prog.follows .mixedOrders=true)(a:List UInt32)(hl:a.length≤1000){w0:World}{S:Nat→Nat→Prop}{cargs:Array Value}(hsz:cargs.size=1)
  (hC:∀(j:Nat) (v:Value) (c:AV),cargs[j]? = some v→[AV.sl (Za a) .an][j]? = some c→CP w0 S v c) (hS:∀k o,S k o→k<w0.heap.size) :
  Calls Tryz.prog 144 cargs w0 fun e w'=>e=.returned (.string ⟨(Zbd (val a)).toArray⟩)∧Below w0.heap.size w0 w':=by
 refine calls_of_wp Tryz.func144 rfl ?_;have h0:=zvb (P:=Tryz.prog) (nt:=40) (w:=w0) (S:=S) (cargs:=cargs) (args:=[AV.sl (Za a) .an]) (by simpa using hsz) (by simp) hC hS;refine wp_seq (zva sTab_ok hm (cx:=⟨Tryz.prog,40,w0,S,fun _=>none,1⟩) rfl rfl tx0 (nt:=40) rfl (by kernel_rfl) (sTab_part.ev (by kernel_rfl) (zahp (T:=tab) _)) h0 fun a1 w1 h1=>?_);refine wp_seq ?_;by_cases hz:val a=0
 ·refine zva sTab_ok hm (cx:=⟨Tryz.prog,40,w0,S,fun _=>none,1⟩) rfl rfl txA (nt:=40) rfl (by kernel_rfl) (sTab_part.ev (by kernel_rfl) (z9v (T:=tab) a hl hz)) h1 fun a2 w2 h2=>?_;have hv:=h2.strAt (t:=2) (l:=[48]) rfl;have hb:=h2.below;have ht:Zbd (val a)=[48]:=by rw[hz];exact ze5 (by decide)
  obtain⟨_,_,hr2⟩:=h2;refine(show bodyPost Tryz.prog Tryz.f144 (fun e w'=>e=.returned (.string ⟨(Zbd (val a)).toArray⟩)∧Below w0.heap.size w0 w') .ret a2 w2 from ?_);refine⟨hr2.defers,.string ⟨[48].toArray⟩,?_,by rw[ht],hb⟩;rw[←hv];exact results_tmp rfl _ _ _
 ·refine zva sTab_ok hm (cx:=⟨Tryz.prog,40,w0,S,fun _=>none,1⟩) rfl rfl txA (nt:=40) rfl (by kernel_rfl) (sTab_part.ev (by kernel_rfl) (z9w (T:=tab) a hl hz)) h1 fun a2 w2 h2=>?_;refine wp_seq (zva sTab_ok hm (cx:=⟨Tryz.prog,40,w0,S,fun _=>none,1⟩) rfl rfl tx3 (nt:=40) rfl (by kernel_rfl) (sTab_part.ev (by kernel_rfl) (zahq (T:=tab) a)) h2 fun a3 w3 h3=>?_);refine wp_seq (zva sTab_ok hm (cx:=⟨Tryz.prog,40,w0,S,fun _=>none,1⟩) rfl rfl txP (nt:=40) rfl (by kernel_rfl) (sTab_part.ev (by kernel_rfl) (zahr (T:=tab) a hl)) h3 fun a4 w4 h4=>?_);have hb4:=h4.below;have hne:pieces (val a)≠[]:=by rw[zcm hz];simp
  obtain⟨k,arr,e,cap,hv,hk,hc1,hc2,hc3,hcells⟩:=h4.strs (t:=3) (ls:=pieces (val a)) hne rfl (by simp[Zc4]);obtain⟨_,_,hr4⟩:=h4;have hdf:=hr4.defers;have hsz:=hr4.size;have hpl:=zny a;clear hr4 h0 h1 h2 h3
  change Code.wp _ _ _ a4 w4
  obtain⟨tm,df⟩:=a4;obtain⟨l,rfl⟩:∃l:List Value,tm=l.toArray:=⟨tm.toList,by simp⟩;simp only[Yet]at hsz;simp only at hdf;subst hdf;obtain⟨x0,l0,rfl,s0⟩:=list_cons hsz;obtain⟨x1,l1,rfl,s1⟩:=list_cons s0;obtain⟨x2,l2,rfl,s2⟩:=list_cons s1;obtain⟨x3,l3,rfl,s3⟩:=list_cons s2;obtain⟨x4,l4,rfl,s4⟩:=list_cons s3;obtain⟨x5,l5,rfl,s5⟩:=list_cons s4;obtain⟨x6,l6,rfl,s6⟩:=list_cons s5;obtain⟨x7,l7,rfl,s7⟩:=list_cons s6;obtain⟨x8,l8,rfl,s8⟩:=list_cons s7;obtain⟨x9,l9,rfl,s9⟩:=list_cons s8;obtain⟨x10,l10,rfl,s10⟩:=list_cons s9;obtain⟨x11,l11,rfl,s11⟩:=list_cons s10;obtain⟨x12,l12,rfl,s12⟩:=list_cons s11;obtain⟨x13,l13,rfl,s13⟩:=list_cons s12;obtain⟨x14,l14,rfl,s14⟩:=list_cons s13;obtain⟨x15,l15,rfl,s15⟩:=list_cons s14;obtain⟨x16,l16,rfl,s16⟩:=list_cons s15;obtain⟨x17,l17,rfl,s17⟩:=list_cons s16;obtain⟨x18,l18,rfl,s18⟩:=list_cons s17;obtain⟨x19,l19,rfl,s19⟩:=list_cons s18;obtain⟨x20,l20,rfl,s20⟩:=list_cons s19;obtain⟨x21,l21,rfl,s21⟩:=list_cons s20;obtain⟨x22,l22,rfl,s22⟩:=list_cons s21;obtain⟨x23,l23,rfl,s23⟩:=list_cons s22;obtain⟨x24,l24,rfl,s24⟩:=list_cons s23;obtain⟨x25,l25,rfl,s25⟩:=list_cons s24;obtain⟨x26,l26,rfl,s26⟩:=list_cons s25;obtain⟨x27,l27,rfl,s27⟩:=list_cons s26;obtain⟨x28,l28,rfl,s28⟩:=list_cons s27;obtain⟨x29,l29,rfl,s29⟩:=list_cons s28;obtain⟨x30,l30,rfl,s30⟩:=list_cons s29;obtain⟨x31,l31,rfl,s31⟩:=list_cons s30;obtain⟨x32,l32,rfl,s32⟩:=list_cons s31;obtain⟨x33,l33,rfl,s33⟩:=list_cons s32;obtain⟨x34,l34,rfl,s34⟩:=list_cons s33;obtain⟨x35,l35,rfl,s35⟩:=list_cons s34;obtain⟨x36,l36,rfl,s36⟩:=list_cons s35;obtain⟨x37,l37,rfl,s37⟩:=list_cons s36;obtain⟨x38,l38,rfl,s38⟩:=list_cons s37;obtain⟨x39,l39,rfl,s39⟩:=list_cons s38;cases Yav s39;have hx3:x3=.slice (some ⟨k,0,none⟩) (pieces (val a)).length cap:=hv;subst hx3;have hjoin:=zpk (val a) hz;have hall:=zpi (val a);generalize pieces (val a)=ps at *
  have HC:Aside (∀(i:Nat) (s:List UInt8),ps[i]? = some s→arr[i]? = some (Value.string ⟨s.toArray⟩)):=hcells;have HJ:Aside (List.dropWhile (fun x=>x == 48) ps.reverse.flatten=Zbd (val a)):=hjoin;have HN:Aside (∀s∈ps,s.length=9):=hall;have HB:Aside (Below w0.heap.size w0 w4):=hb4;have HK:Aside (w4.heap[k]? = some (.cells arr e (0,0))):=hk;have hk4:k<w4.heap.size:=by
   rcases Yp k w4.heap.size with h' | h'
   ·exact h'
   ·simp[Ycc h']at hk
  clear hcells hjoin hall hb4 hk
  go_wp2
  go_loopg [8] ps.length (fun g s8 wx=>s8=.int .i64 ((g:Int)-1)∧g≤ps.length∧Aside (Lib.IsBuilder 225 5 w4.heap.size w4.heap.size (Lib.byteCells (ps.drop g).reverse.flatten) wx∧Below w4.heap.size w4 wx))
  case atStart=>exact⟨rfl,Yg _,by rw[Y0];exact Lib.fresh_isBuilder 225 5 w4,(Below.refl _ _).alloc (Yg _) _⟩
  case round=>
   obtain⟨rfl,hg,HW⟩:=hrel;cases gk with
   | zero=>
    obtain⟨hBld,hBel⟩:=HW.out;rw[Yae]at hBld;have hne':ps.reverse.flatten≠[]:=by
     intro h;have:=zc1 ps.reverse (fun s hs=>HN.out s (Yd4.1 hs));rw[h]at this;simp at this;exact hne (Yav (by omega))
    have HT:Aside (ps.reverse.flatten≠[]):=hne';clear hne';have hlenF:ps.reverse.flatten.length≤1000000:=by
     rw[zc1 ps.reverse (fun s hs=>HN.out s (Yd4.1 hs)),Ycn];omega
    have hT:∀W:World,Calls Tryz.prog 190 #[.string ⟨ps.reverse.flatten.toArray⟩,.string ⟨#[48]⟩] W fun e w'=>e=.returned (.string ⟨(Zbd (val a)).toArray⟩)∧Below W.heap.size W w':=by
     intro W;have h1:=zhs sTab_ok hm (u:=103) rfl rfl (sTab_part.call (by kernel_rfl) (zxc (T:=tab) ps.reverse.flatten hlenF));rw[HJ.out]at h1;refine(h1.2 W (fun _ _=>False) #[.string ⟨ps.reverse.flatten.toArray⟩,.string ⟨#[48]⟩] rfl (fun j v c hv hc=>?_) (fun _ _ h=>h.elim)).mono ?_
     ·match j,hv,hc with
      | 0,hv,hc=>cases hv;cases hc;exact .s _
      | 1,hv,hc=>cases hv;cases hc;exact .s _
     ·rintro e w' ⟨v,r,rfl,rfl,hb,hc⟩
      cases hc;exact⟨rfl,hb⟩
    have HTT:=hT;clear hT
    go_wp2_with (go_at_call 147;refine(Tryz.bString w4.heap.size w4.heap.size ps.reverse.flatten wr hBld HT.out).mono ?_)
    rintro e1 w5 ⟨rfl,hb5⟩
    go_wp2_with (go_at_call 190;refine(HTT w5).mono ?_)
    rintro e2 w6 ⟨rfl,hb6⟩
    go_wp2
    go_ret
    refine⟨rfl,?_⟩;have hs1:=HB.out.size;have hs5:=(hBel.trans hb5).size;exact HB.out.trans (((hBel.trans hb5).mono hs1).trans (hb6.mono (by omega)))
   | succ j=>
    obtain⟨hBld,hBel⟩:=HW.out;obtain⟨s,hs⟩:∃s,ps[j]? = some s:=⟨_,Ya (by omega)⟩;have hcell:wr.cell? ⟨k,j,none⟩=some (.string ⟨s.toArray⟩):=by
     rw[hBel.cell (p:=⟨k,j,none⟩) hk4,Lib.cell_of_heap HK.out];exact HC.out j s hs
    have hs9:s.length=9:=HN.out s (Yj hs);have hflen:=zc1 (ps.drop (j+1)).reverse (fun s hs=>HN.out s (Yd5 (Yd4.1 hs)));have HS:Aside (ps[j]? = some s):=hs;clear hs;rw[Ycn,Ybg]at hflen;have hbound:(Lib.byteCells (ps.drop (j+1)).reverse.flatten).length+(⟨s.toArray⟩:ByteArray).size≤140737488355328:=by
     rw[Lib.byteCells_length,hflen];show _+s.toArray.size≤_;simp only[Yet];omega
    have HF:Aside ((Lib.byteCells (ps.drop (j+1)).reverse.flatten).length+(⟨s.toArray⟩:ByteArray).size≤140737488355328):=hbound;clear hflen hbound
    go_wp2_with (go_at_call 146;refine(Tryz.bWrite w4.heap.size w4.heap.size _ ⟨s.toArray⟩ wr hBld HF.out hBel.size).mono ?_)
    rintro e1 w5 ⟨rfl,h5,hb5⟩
    go_wp2
    go_roundg j
    case measure=>omega
    case rel=>
     refine⟨by congr 1,by omega,?_,hBel.trans hb5⟩;have e1:(ps.drop j).reverse.flatten=(ps.drop (j+1)).reverse.flatten++s:=by
      obtain⟨hj,he⟩:=Ye.1 HS.out;rw[Yd hj,he];simp
     rw[e1,Lib.byteCells_append];exact .inr h5
theorem word_rows:∀(els:List (List AV)) (l:List UInt32),els.mapM Zff=some l→els=Za l
 | [],l,h=>by cases h;rfl
 | r::els,l,h=>by
  rw[Yb0]at h;obtain⟨x,hx,h1⟩:=bind_some h;obtain⟨y,hy,h2⟩:=bind_some h1;cases h2;rw[word_rows els y hy];unfold Zff at hx;split at hx
  ·split at hx
   ·cases hx;rename_i n hn;have:(w32 n.toNat).toNat=n.toNat:=zag (by omega);simp only[Za,Y3,this,u32];rw[Int.toNat_of_nonneg hn.1]
   ·cases hx
  ·cases hx
theorem text_ok(hm:Tryz.prog.follows .mixedOrders=true):∀xs r,prim68 xs=some r→Zbb Tryz.prog (nu 68) xs (·=r):=by
 intro xs r h;unfold prim68 at h;split at h
 ·split at h
  ·rename_i els hl;cases hw:els.mapM Zff with
   | none=>rw[hw]at h;cases h
   | some l=>
    rw[hw]at h;cases h;have he:=word_rows els l hw;subst he;rw[zhu]at hl;refine⟨enters_of Tryz.func144 (by kernel_rfl) rfl,fun w S cargs hsz hC hS=>?_⟩;refine(text_calls hm l hl (by simpa using hsz) hC hS).mono ?_
    rintro e w' ⟨rfl,hb⟩
    exact⟨_,_,rfl,rfl,hb,.s _⟩
  ·cases h
 ·cases h
#print axioms text_ok
end Go.Proofs.YtjhilbodpmnbmaaGreatDoor
end
namespace Go.Ab
section
open Go.ChangeShapes Go.WideShapes Go.ChangeAt Go.RowKit
theorem zkk{H:Type}{enc:TypeId×Value→H}{P:Program}{f:Func}{s:ChangeSpec}{apart fresh handsOn again:Bool}{W W':World}{args:Array Value}{v:Value}{ds gs:List (DataW H)}{before pa pv:List MemPlace}
  (hW:DataW.Whole enc P f.params.toList s.vars apart W args.toList ds gs before)
  (hres:∀(b:Nat) (sp:Nat→Bool) (hd:Bool),DataW.TrodAll enc P W' b sp hd f.resultTypes.toList (v.resultList f.resultTypes.size) (s.fn H (ds++gs)).results [])
  (hargs:∀sp:Nat→Bool,(∀p∈before,sp p.block=true)→DataW.TrodAll enc P W' 0 sp true f.params.toList args.toList (s.fn H (ds++gs)).args pa)
  (hvars:∀sp:Nat→Bool,(∀p∈before,sp p.block=true)→DataW.TrodVars enc P W' sp s.vars (s.fn H (ds++gs)).vars pv)
  (hps:before=pa++pv) (hw:Below W.heap.size W W')
  (hok:∀(j:Nat) (t:TypeId) (r:Value),f.resultTypes[j]? = some t→(v.resultList f.resultTypes.size)[j]? = some r→Value.okWide P W' .any 0 t r) :
  s.post enc P f apart fresh handsOn again W args v W':=by
 have hold:∀p∈before,(fun b=>decide (b<W.heap.size)) p.block=true:=fun p hp=>by simpa using hW.lt p hp
 have hlt:∀p∈before,p.block<W.heap.size:=fun p hp=>hW.lt p hp;refine⟨ds,gs,before,[],pa,pv,hW,hres _ _ _,hargs _ hold,hvars _ hold,World.keptBut_mono (fun p hp=>⟨hp,?_⟩) (hw.frame (·∈before)),fun _=>?_⟩
 ·rw[hps,Y5]at hp;exact Or.inr hp
 ·obtain⟨_,_,_,_,_,hz,hn⟩:=hW;refine⟨hok,_,_,([]++pa)++pv,⟨[]++pa,pv,trodAll_append (hargs _ (fun _ _=>rfl)) (hres _ _ _),hvars _ (fun _ _=>rfl),rfl,?_,?_⟩,?_⟩
  ·intro b off hp;have hp':MemPlace.cell b off∈before:=by rw[hps];simpa using hp
   rw[hw.frozen (p:=⟨b,off,none⟩) (hlt _ hp')];exact hz b off hp'
  ·intro ha;have:=hn ha;rw[hps]at this;simpa using this
  ·intro p hp _;rw[hps];simpa using hp
end
section
open Go.ChangeShapes Go.WideShapes Go.ChangeAt Go.RowKit
inductive Ty where
 | int (k:IntKind)
 | bool
 | str
 | sl (r:Ty)
 | nil
 | cons (a:Ty) (r:Ty)
def Ty.z:Ty→Nat
 | .nil=>0
 | .cons a r=>a.z+r.z
 | _=>1
def Ok:Ty→List AV→Prop
 | .int k,cs=>∃n,cs=[.i k n]∧(Lit.int k n).wf=true
 | .bool,cs=>∃b,cs=[.b b]
 | .str,cs=>∃l,cs=[.s l]∧l.length≤maxLen
 | .sl r,cs=>∃els f,cs=[.sl els f]∧els.length≤maxLen∧(f=.nl∧els=[]∨f=.so)∧∀row∈els,Ok r row
 | .nil,cs=>cs=[]
 | .cons a r,cs=>∃c1 c2,cs=c1++c2∧Ok a c1∧Ok r c2
theorem Ok.len:∀{ty:Ty} {cs:List AV},Ok ty cs→cs.length=ty.z
 | .int _,_,⟨_,h,_⟩=>by rw[h];rfl
 | .bool,_,⟨_,h⟩=>by rw[h];rfl
 | .str,_,⟨_,h,_⟩=>by rw[h];rfl
 | .sl _,_,⟨_,_,h,_⟩=>by rw[h];rfl
 | .nil,_,h=>by rw[show _=[] from h];rfl
 | .cons _ _,_,⟨_,_,h,h1,h2⟩=>by rw[h,Yk,h1.len,h2.len];rfl
def Zdb(w:World)(S:Nat→Nat→Prop)(cs:List Value)(xs:List AV):Prop:=
 xs.length=cs.length∧∀(j:Nat) (v:Value) (c:AV),cs[j]? = some v→xs[j]? = some c→CP w S v c∧v.oneCell'=true
section
variable{H:Type}{enc:TypeId×Value→H}{P:Program}{w:World}{base:Nat}{held:Bool}{S:Nat→Nat→Prop}
theorem Zdb.nil:Zdb w S [] []:=⟨rfl,fun j v c h=>by grind⟩
theorem Zdb.one{v:Value}{c:AV}(h:CP w S v c)(h1:v.oneCell'=true):Zdb w S [v] [c]:=by
 refine⟨rfl,fun j v' c' hv hc=>?_⟩
 grind
theorem Zdb.append{cs cs':List Value}{xs xs':List AV}(h:Zdb w S cs xs)(h':Zdb w S cs' xs'):Zdb w S (cs++cs') (xs++xs'):=by
 refine⟨by rw[Yk,Yk,h.1,h'.1],fun j v c hv hc=>?_⟩;by_cases hj:j<cs.length
 ·rw[Ym hj]at hv;rw[Ym (by rw[h.1];omega)]at hc;exact h.2 j v c hv hc
 ·rw[Yh (by omega)]at hv;rw[Yh (by rw[h.1];omega),h.1]at hc;exact h'.2 _ v c hv hc
def Zfj(P:Program)(g:TypeId→Option Ty)(tot:Nat):Nat→List Field→Option Ty
 | off,[]=>if off=tot then some .nil else none
 | off,f::fs=>(g f.type).bind fun a=>if f.offset=off∧a.z=P.cellsOf f.type then (Zfj P g tot (off+a.z) fs).map (.cons a) else none
def Zjl:Nat→Ty→Ty
 | 0,_=>.nil
 | n+1,a=>.cons a (Zjl n a)
def Zf5(P:Program):Nat→TypeId→Option Ty
 | 0,_=>none
 | n+1,t=>
  match P.underlying t with
  | some .bool=>some .bool
  | some (.int k)=>some (.int k)
  | some .string=>some .str
  | some (.slice e)=>(Zf5 P n e).bind fun r=>if r.z=P.cellsOf e∧0<r.z then some (.sl r) else none
  | some (.struct fs)=>Zfj P (Zf5 P n) (P.cellsOf t) 0 fs.toList
  | some (.array k e)=>(Zf5 P n e).bind fun a=>if a.z=P.cellsOf e∧k*a.z=P.cellsOf t then some (Zjl k a) else none
  | _=>none
theorem zub{α:Type}{Q:Nat→α→Prop}:∀(n:Nat),(∀i,i<n→∃x,Q i x)→∃l:List α,l.length=n∧∀i x,l[i]? = some x→Q i x
 | 0,_=>⟨[],rfl,fun i x h=>by grind⟩
 | n+1,h=>by
  obtain⟨l,hl,hq⟩:=zub n fun i hi=>h i (by omega);obtain⟨x,hx⟩:=h n (by omega);refine⟨l++[x],by grind,fun i y hy=>?_⟩
  grind
def Zfb(S:Nat→Nat→Prop)(ps:List MemPlace):Prop:=∀k o,MemPlace.cell k o∈ps→S k o
theorem zhd{n:Nat}{g:TypeId→Option Ty}{cs:List Value}
  (ih:∀t cs x ty,DataW.trod enc P w base (fun _=>true) held n t cs=some x→g t=some ty→Zfb S x.2→∃xs,Ok ty xs∧Zdb w S cs xs) :
  ∀(fs:List Field) (off:Nat) (ty:Ty) (ys:List (DataW H×List MemPlace)),
   ys.length=fs.length→(∀(i:Nat) (f:Field),fs[i]? = some f→DataW.trod enc P w base (fun _=>true) held n f.type ((cs.drop f.offset).take (P.cellsOf f.type))=ys[i]?) →
   Zfj P g cs.length off fs=some ty→Zfb S (ys.flatMap (·.2))→∃xs,Ok ty xs∧Zdb w S (cs.drop off) xs
 | [],off,ty,ys,hl,hm,ht,hp=>by
  simp only[Zfj]at ht;split at ht<;>cases ht;rename_i ho;exact⟨[],rfl,by rw[ho,Y0];exact Zdb.nil⟩
 | f::fs,off,ty,[],hl,hm,ht,hp=>by grind
 | f::fs,off,ty,y::ys1,hl,hm,ht,hp=>by
  obtain⟨a,ha,ht1⟩:=bind_some ht;split at ht1
  ·rename_i hc;obtain⟨ho,hz⟩:=hc;obtain⟨r,hr,rfl⟩:=map_some ht1;have hy:=hm 0 f rfl;rw[ho,←hz]at hy;obtain⟨xs1,ho1,hr1⟩:=ih _ _ _ _ hy ha fun k o h=>hp k o (by grind);obtain⟨xs2,ho2,hr2⟩:=zhd ih fs _ r ys1 (by grind) (fun i f' hf=>by simpa using hm (i+1) f' (by grind)) hr fun k o h=>hp k o (by
    grind)
   refine⟨xs1++xs2,⟨xs1,xs2,rfl,ho1,ho2⟩,?_⟩;have e:cs.drop off=(cs.drop off).take a.z++cs.drop (off+a.z):=by rw[←Ydy,Yao]
   rw[e];exact hr1.append hr2
  grind
theorem zjg{n:Nat}{e:TypeId}{r:Ty}(ih:∀cs x,DataW.trod enc P w base (fun _=>true) held n e cs=some x→Zfb S x.2→∃xs,Ok r xs∧Zdb w S cs xs) :
  ∀(k:Nat) (cs:List Value) (ys:List (DataW H×List MemPlace)),ys.length=k→cs.length=k*r.z →
   (∀(i:Nat),i<k→DataW.trod enc P w base (fun _=>true) held n e ((cs.drop (i*r.z)).take r.z)=ys[i]?)→Zfb S (ys.flatMap (·.2))→∃xs,Ok (Zjl k r) xs∧Zdb w S cs xs
 | 0,cs,ys,hl,hc,hm,hp=>by
  rw[Ycx,Ybq]at hc;subst hc;exact⟨[],rfl,Zdb.nil⟩
 | k+1,cs,[],hl,hc,hm,hp=>by grind
 | k+1,cs,y::ys,hl,hc,hm,hp=>by
  have hy:=hm 0 (by omega);rw[Ycx,Yae]at hy;obtain⟨xs1,ho1,hr1⟩:=ih _ _ hy fun k o h=>hp k o (by grind);obtain⟨xs2,ho2,hr2⟩:=zjg ih k (cs.drop r.z) ys (by grind) (by grind) (fun i hi=>by
   grind[List.drop_drop]) fun k o h=>hp k o (by
    grind)
  refine⟨xs1++xs2,⟨xs1,xs2,rfl,ho1,ho2⟩,?_⟩;have e:cs=cs.take r.z++cs.drop r.z:=(Yao ..).symm;rw[e];exact hr1.append hr2
theorem zp1{a:Addr}{m z:Nat}{cs:List Value}(h:w.cells? base (a.add m) z=some cs)(j:Nat)(hj:j<z):w.cell? ((a.add m).add j)=cs[j]? := (World.cells?_some h).2.2 j hj
theorem zuc{a:Addr}{v:Value}(h:w.cell? a=some v):a.spot=none:=by
 unfold World.cell? at h;split at h
 all_goals simp_all
theorem zfg:∀(n m:Nat) (t:TypeId) (cs:List Value) (x:DataW H×List MemPlace) (ty:Ty),
  DataW.trod enc P w base (fun _=>true) held n t cs=some x→Zf5 P m t=some ty→Zfb S x.2→∃xs,Ok ty xs∧Zdb w S cs xs
 | 0,_,_,_,_,_,h,_,_=>by simp[DataW.trod]at h
 | n+1,0,_,_,_,_,_,ht,_=>by simp[Zf5]at ht
 | n+1,m+1,t,cs,x,ty,h,ht,hp=>by
  simp only[Zf5]at ht;split at ht
  ·rename_i hu;cases ht;obtain⟨b,rfl,rfl⟩:=DataW.trod_bool hu h;exact⟨[.b b],⟨b,rfl⟩,Zdb.one (.b b) rfl⟩
  ·rename_i k hu;cases ht;obtain⟨z,rfl,rfl,hw⟩:=DataW.trod_int hu h;exact⟨[.i k z],⟨z,rfl,hw⟩,Zdb.one (.i k z) rfl⟩
  ·rename_i hu;cases ht;obtain⟨s,rfl,rfl,hs⟩:=DataW.trod_string hu h;exact⟨[.s s.data.toList],⟨_,rfl,by simp_all⟩,Zdb.one (.s s.data.toList) rfl⟩
  ·rename_i e hu;obtain⟨r,hr,ht1⟩:=bind_some ht;split at ht1
   ·rename_i hz;cases ht1;obtain⟨hz,hzp⟩:=hz;rcases DataW.trod_slice hu h with ⟨rfl,rfl⟩ | ⟨a,len,cap,elems,rest,n',hn',rfl,rfl,hb,hl,hmx,hlen,hel,hsp,hns⟩
    ·exact⟨[.sl [] .nl],⟨[],.nl,rfl,Yq _,.inl ⟨rfl,rfl⟩,fun row h=>by grind⟩,Zdb.one (.slnil _ (.inl rfl)) rfl⟩
    ·obtain⟨hrl,hrest⟩:=hsp rfl;have hall:∀i,i<cap→∃y cs',y∈elems++rest∧w.cells? base (a.add (i*P.cellsOf e)) (P.cellsOf e)=some cs'∧DataW.trod enc P w base (fun _=>true) held n e cs'=some y:=by
      intro i hi;by_cases hil:i<len
      ·have h1:=hel i hil;rw[Ya (by omega)]at h1;obtain⟨cs',h2,h3⟩:=bind_some h1
       grind
      ·have h1:=hrest (i-len) (by omega);rw[Ya (by omega),show len+(i-len)=i by omega]at h1;obtain⟨cs',h2,h3⟩:=bind_some h1
       grind
     by_cases hcap:cap=0
     ·have hl0:len=0:=by omega
      subst hcap;subst hl0;exact⟨[.sl [] .so],⟨[],.so,rfl,Yq _,.inr rfl,fun row h=>by grind⟩,Zdb.one (.slz a _ (.inl rfl)) rfl⟩
     ·have hspot:a.spot=none:=by
       obtain⟨y,cs',_,h2,_⟩:=hall 0 (by omega);have h3:=zp1 h2 0 (by omega)
       grind[World.cells?_some,zuc,Addr.add]
      obtain⟨blk,off,sp⟩:=a;have hrows:∀i,i<len→∃xs,Ok r xs∧∃cs',w.cells? base ((⟨blk,off,none⟩:Addr).add (i*P.cellsOf e)) (P.cellsOf e)=some cs'∧Zdb w S cs' xs:=by
       intro i hi;obtain⟨y,cs',hy,h2,h3⟩:=hall i (by omega);obtain⟨xs,ho,hrc⟩:=zfg n m e cs' y r h3 hr fun k o hk=>hp k o (by
        grind)
       grind
      obtain⟨els,hels,hq⟩:=zub len hrows;refine⟨[.sl els .so],⟨els,.so,rfl,by omega,.inr rfl,fun row hrow=>?_⟩,Zdb.one ?_ rfl⟩
      ·grind[List.getElem?_of_mem]
      ·have hcell:∀i j,i<els.length→j<r.z→∃v,w.cell? ⟨blk,off+i*r.z+j,none⟩=some v∧v.oneCell'=true∧∀row c,els[i]? = some row→row[j]? = some c→CP w S v c:=by
        intro i j hi hj;obtain⟨ho,cs',h2,hrc⟩:=hq i _ (Ya hi);have h3:=zp1 h2 j (by omega);have h4:=(World.cells?_some h2).2.1;rw[zbi,zbi,←hz,Ya (by omega)]at h3;have hlr:=ho.len;have h5:=hrc.2 j _ _ (Ya (by omega)) (Ya (by omega))
        grind
       have hS:∀i j,i<els.length→j<r.z→S blk (off+i*r.z+j):=by
        intro i j hi hj;refine hp _ _ ?_;rw[Y5];left;unfold MemPlace.row;rw[Yam];refine⟨i*r.z+j,?_,by rw[Yal]⟩;have h1:(i+1)*r.z≤(elems.length+rest.length)*r.z:=Yaf _ (by omega)
        grind
       have:=CP.sl (w:=w) (S:=S) blk off r.z cap els .so (fun i j=>(w.cell? ⟨blk,off+i*r.z+j,none⟩).getD undef) (by simp) (by simp) (by omega) hmx
        (fun i row hrow=>(hq i row hrow).1.len) (fun i j hi hj=>?_) (fun i row j c hrow hc=>?_)
       ·grind
       ·grind
       ·have hi:=(Ye.1 hrow).1;have hj:=(Ye.1 hc).1;rw[(hq i row hrow).1.len]at hj
        grind
   grind
  ·rename_i fs hu;obtain⟨xs,n',hn',rfl,hcl,hxl,hx⟩:=DataW.trod_struct hu h;cases hn';rw[←hcl]at ht;have:=zhd (S:=S) (g:=Zf5 P m) (cs:=cs) (n:=n) (fun t cs x ty h1 h2 h3=>zfg n m t cs x ty h1 h2 h3) fs.toList 0 ty xs (by omega) (fun i f hf=>hx i f (by grind)) ht hp
   grind
  ·rename_i k e hu;obtain⟨r,hr,ht1⟩:=bind_some ht;split at ht1
   ·rename_i hz;cases ht1;obtain⟨hz,hzt⟩:=hz;obtain⟨xs,n',hn',rfl,hcl,hxl,hx⟩:=DataW.trod_array hu h;cases hn';rw[←hz]at hx;exact zjg (S:=S) (n:=n) (e:=e) (r:=r) (fun cs x h1 h3=>zfg n m e cs x r h1 hr h3) k cs xs hxl (by omega) hx hp
   grind
  grind
end
end
section
open Go.ChangeShapes Go.WideShapes Go.ChangeAt Go.RowKit
def isAgg(P:Program)(t:TypeId):Bool:=match P.underlying t with | some (.struct _)=>true | some (.array _ _)=>true | _=>false
def Zjm(P:Program)(m:Nat):List TypeId→Option (List (Bool×Ty))
 | []=>some []
 | t::ts=>(Zf5 P m t).bind fun a=>(Zjm P m ts).map fun r=>(isAgg P t,a)::r
def Zhj:Bool×Ty→AV→Prop
 | (true,ty),x=>∃cs,x=.agg cs∧Ok ty cs
 | (false,ty),x=>Ok ty [x]
def Zhp:List (Bool×Ty)→List AV→Prop
 | [],xs=>xs=[]
 | a::r,xs=>∃x ys,xs=x::ys∧Zhj a x∧Zhp r ys
section
variable{H:Type}{enc:TypeId×Value→H}{P:Program}{w:World}{S:Nat→Nat→Prop}
theorem zyh{m:Nat}{t:TypeId}{v:Value}{d:DataW H}{p:List MemPlace}{ty:Ty}{base:Nat}(hA:DataW.Trod enc P w 0 (fun _=>true) true t v d p)(hT:Zf5 P m t=some ty)
  (hval:Value.okWide P w .any base t v) (hp:Zfb S p):∃x,Zhj (isAgg P t,ty) x∧CP w S v x:=by
 obtain⟨fuel,hf⟩:=hA;obtain⟨xs,ho,hrc⟩:=zfg (S:=S) fuel m t _ _ ty hf hT hp;have hlen:=ho.len;cases hu:P.underlying t with
 | none=>cases m<;>simp[Zf5,hu]at hT
 | some desc=>
  have one:∀(hag:isAgg P t=false) (hz:ty.z=1) (hv:v.cells=#[v]),∃x,Zhj (isAgg P t,ty) x∧CP w S v x:=by
   intro hag hz hv;rw[hag]
   match xs,hlen with
   | [x],_=>
    refine⟨x,ho,?_⟩;have:=hrc.2 0 v x (by grind) rfl
    grind
   | [],h=>grind
   | _::_::_,h=>grind
  cases m with
  | zero=>simp[Zf5]at hT
  | succ m=>
  cases desc<;>simp only[Zf5,hu]at hT<;>try (cases hT;done)
  case struct fs=>
   have hag:isAgg P t=true:=by simp[isAgg,hu]
   rw[hag];unfold Value.okWide at hval;rw[hu]at hval;obtain⟨cs,rfl,hcs,_⟩:=hval;refine⟨.agg xs,⟨xs,rfl,ho⟩,.agg cs xs ?_ ?_ ?_⟩
   ·have:=hrc.1;simpa[Value.cells]using this.symm
   ·intro j u hu;have hl:=hrc.1;have hj:j<cs.size:=(Yc8.1 hu).1;have hj':j<xs.length:=by rw[hl];simpa[Value.cells]using hj
    exact(hrc.2 j u _ (by simpa[Value.cells]using hu) (Ya hj')).2
   ·intro j u c hu hc;exact(hrc.2 j u c (by simpa[Value.cells]using hu) hc).1
  case array k e=>
   have hag:isAgg P t=true:=by simp[isAgg,hu]
   rw[hag];unfold Value.okWide at hval;rw[hu]at hval;obtain⟨cs,rfl,hcs,_⟩:=hval;refine⟨.agg xs,⟨xs,rfl,ho⟩,.agg cs xs ?_ ?_ ?_⟩
   ·have:=hrc.1;simpa[Value.cells]using this.symm
   ·intro j u hu;have hl:=hrc.1;have hj:j<cs.size:=(Yc8.1 hu).1;have hj':j<xs.length:=by rw[hl];simpa[Value.cells]using hj
    exact(hrc.2 j u _ (by simpa[Value.cells]using hu) (Ya hj')).2
   ·intro j u c hu hc;exact(hrc.2 j u c (by simpa[Value.cells]using hu) hc).1
  case bool=>
   cases hT;unfold Value.okWide Cell.okWide Cell.ok at hval;refine one (by simp[isAgg,hu]) rfl ?_;cases v<;>first | rfl | grind
  case int k=>
   cases hT;unfold Value.okWide Cell.okWide Cell.ok at hval;rw[hu]at hval;refine one (by simp[isAgg,hu]) rfl ?_;cases v<;>first | rfl | grind
  case string=>
   cases hT;unfold Value.okWide Cell.okWide Cell.ok at hval;rw[hu]at hval;refine one (by simp[isAgg,hu]) rfl ?_;cases v<;>first | rfl | grind
  case slice e=>
   obtain⟨r,hr,ht1⟩:=bind_some hT;split at ht1<;>cases ht1;unfold Value.okWide Cell.okWide Cell.ok at hval;rw[hu]at hval;refine one (by simp[isAgg,hu]) rfl ?_;cases v<;>first | rfl | grind
theorem zls{m base:Nat}:∀(ts:List TypeId) (vs:List Value) (ds:List (DataW H)) (p:List MemPlace) (tys:List (Bool×Ty)),DataW.TrodAll enc P w 0 (fun _=>true) true ts vs ds p→Zjm P m ts=some tys →
  (∀(j:Nat) t v,ts[j]? = some t→vs[j]? = some v→Value.okWide P w .any base t v)→Zfb S p →
  ∃xs,Zhp tys xs∧vs.length=xs.length∧∀(j:Nat) (v:Value) (c:AV),vs[j]? = some v→xs[j]? = some c→CP w S v c
 | [],vs,ds,p,tys,hA,hT,hval,hp=>by
  obtain⟨rfl,_,_⟩:=trodAll_nil hA;cases hT;exact⟨[],rfl,rfl,fun j v c h=>by grind⟩
 | t::ts,vs,ds,p,tys,hA,hT,hval,hp=>by
  obtain⟨v,vs1,d,ds1,a,b,rfl,rfl,rfl,h1,h2⟩:=trodAll_cons hA;obtain⟨ty,hty,hT1⟩:=bind_some hT;obtain⟨r,hr,rfl⟩:=map_some hT1;obtain⟨x,hx,hC⟩:=zyh (S:=S) h1 hty (hval 0 t v rfl rfl) fun k o h=>hp k o (Ya3 _ h);obtain⟨xs,ho,hl,hc⟩:=zls (m:=m) (base:=base) ts vs1 ds1 b r h2 hr (fun j t v ht hv=>hval (j+1) t v (by grind) (by grind)) fun k o h=>hp k o (Ya1 _ h);refine⟨x::xs,⟨x,xs,rfl,hx,ho⟩,by grind,fun j u c hu hcc=>?_⟩
  grind
theorem zp2(hl:laidOutB P=true){W W':World}(hb:Below W.heap.size W W'){sp:Nat→Bool}:∀(ts:List TypeId) (vs:List Value) (ds:List (DataW H)) (p:List MemPlace),
  (ts.all fun t=>P.readableRec t&&decide (t<P.types.size))=true→DataW.TrodAll enc P W 0 (fun _=>true) true ts vs ds p→(∀x∈p,x.block<W.heap.size)→(∀x∈p,sp x.block=true)→DataW.TrodAll enc P W' 0 sp true ts vs ds p
 | [],_,_,_,_,hA,_,_=>by
  obtain⟨rfl,rfl,rfl⟩:=trodAll_nil hA;exact rfl
 | t::ts,vs,ds,p,hr,hA,hlt,hsp=>by
  obtain⟨v,vs1,d,ds1,a,b,rfl,rfl,rfl,h1,h2⟩:=trodAll_cons hA;rw[Yd9,Yv,Yv,decide_eq_true_eq]at hr;exact⟨a,b,WideElems.Trod_stays hl hr.1.1 hr.1.2 h1 (fun x hx=>hb.same (hlt x (Ya3 _ hx))) (fun x hx=>hsp x (Ya3 _ hx)),
   zp2 hl hb ts vs1 ds1 b hr.2 h2 (fun x hx=>hlt x (Ya1 _ hx)) (fun x hx=>hsp x (Ya1 _ hx)),rfl⟩
theorem zud:∀(ts:List TypeId) (vs:List Value) (ds:List (DataW H)) (p:List MemPlace),DataW.TrodAll enc P w 0 (fun _=>true) true ts vs ds p→ds.length=ts.length
 | [],_,_,_,hA=>by
  obtain⟨rfl,rfl,rfl⟩:=trodAll_nil hA
  rfl
 | t::ts,vs,ds,p,hA=>by
  obtain⟨v,vs1,d,ds1,a,b,rfl,rfl,rfl,h1,h2⟩:=trodAll_cons hA;simp[zud ts vs1 ds1 b h2]
theorem zyi{f:FuncId}{fn:Func}{s:ChangeSpec}{m tb:Nat}{tys:List (Bool×Ty)}{fresh handsOn again:Bool}(hvars:s.vars=[])(hT:Zjm P m fn.params.toList=some tys)(hl:laidOutB P=true)
  (hread:(fn.params.toList.all fun t=>P.readableRec t&&decide (t<P.types.size))=true) (hr:fn.resultTypes=#[tb]) (hb:P.underlying tb=some .bool)
  (hfn:∀ds:List (DataW H),ds.length=fn.params.toList.length→s.fn H ds={ results:=[.lit (.bool true)],args:=ds })
  (hcall:∀xs,Zhp tys xs→Zbb P f xs (·=.b true)) {W:World} {args:Array Value} {ds gs:List (DataW H)} {before:List MemPlace} {base:Nat}
  (hval:∀(j:Nat) t v,fn.params[j]? = some t→args[j]? = some v→Value.okWide P W .any base t v) (hW:DataW.Whole enc P fn.params.toList s.vars false W args.toList ds gs before) :
  Calls P f args W fun e W'=>∃v,e=.returned v∧s.post enc P fn false fresh handsOn again W args v W':=by
 have hW':=hW;obtain⟨p,q,hA,hV,rfl,hfz,hnd⟩:=hW;rw[hvars]at hV;obtain⟨rfl,rfl⟩:=trodVars_none hV;have hlt:∀x∈p,x.block<W.heap.size:=fun x hx=>hW'.lt x (Ya3 _ hx);obtain⟨xs,ho,hlen,hC⟩:=zls (S:=fun k o=>MemPlace.cell k o∈p) _ _ _ _ _ hA hT (fun j t v ht hv=>hval j t v (by grind) (by grind)) (fun k o h=>h);have hc:=(hcall xs ho).2 W (fun k o=>MemPlace.cell k o∈p) args (by omega) (fun j v c hv hc=>hC j v c (by grind) hc) (fun k o h=>hlt _ h);refine hc.mono fun e W' ⟨v,r,he,hrr,hbel,hCr⟩=>?_;subst he hrr;have hv:v=.bool true:=by cases hCr;rfl
 subst hv;have hlf:=hfn ds (zud _ _ _ _ hA);refine⟨_,rfl,zkk (pa:=p) (pv:=[]) hW' (fun b sp hd=>?_) (fun sp hsp=>?_) (fun sp _=>?_) rfl hbel (ok_one hr rfl (okWide_bool_mk hb _))⟩
 ·rw[Ya2,hlf,hr];exact trodAll_mk1 (shut_bool hb _)
 ·grind[zp2]
 ·rw[Ya2,hlf,hvars];exact rfl
end
end
theorem zgz:∀(els:List (List AV)),(∀row∈els,Ok (.int .u32) row)→∃l:List UInt32,els=Za l
 | [],_=>⟨[],rfl⟩
 | r::els,h=>by
  obtain⟨l,rfl⟩:=zgz els fun row hr=>h row (Yw _ hr);obtain⟨n,rfl,hw⟩:=h r Yaj;have h1:0≤n∧n<4294967296:=by
   simp[Lit.wf,IntKind.min,IntKind.max,IntKind.signed,IntKind.bits]at hw;omega
  refine⟨w32 n.toNat::l,?_⟩;have:(w32 n.toNat).toNat=n.toNat:=zag (by omega);simp only[Za,Y3,this,u32];rw[Int.toNat_of_nonneg h1.1]
theorem zyt{P:Program}{ν:Nat→FuncId}{T:Tbl}(hT:TOk P ν T)(hm:P.follows .mixedOrders=true){u:Nat}{af:AFx}{xs ys:List AV}{r:AV}(hu:T u=some af)(hl:af.lent=none)(h:Zb T u ys=some r)(hx:xs.map wkA=ys):Zbb P (ν u) xs (·=r):=by
 subst hx;have h1:=zhs hT hm hu hl h;exact Zbb.wk (ex:=false) h1
abbrev Fz:=Bool×List UInt32×List UInt32
abbrev Zce(x:Fz):List AV:=[.b x.1,.sl (Za x.2.1) .an,.sl (Za x.2.2) .an]
abbrev efz(x:Fz):AV:=.agg (Zce x)
def fv(x:Fz):Rat:=mkRat (wv x.1 x.2.1) (val x.2.2)
def fz(q:Rat):Fz:=(decide (q.num<0),ofN q.num.natAbs,ofN q.den)
@[simp] theorem zeq(q:Rat):fv (fz q)=q:=by
 unfold fv fz;rw[zfw,zae,Rat.mkRat_self]
def fsz(x:Fz):Nat:=max x.2.1.length x.2.2.length
theorem zcj(x:Fz):x.2.1.length≤fsz x:=Ydp ..
theorem zcv(x:Fz):x.2.2.length≤fsz x:=Ydf ..
def sz(q:Rat):Nat:=max (ofN q.num.natAbs).length (ofN q.den).length
theorem zkb(q:Rat):(ofN q.num.natAbs).length≤sz q:=Ydp ..
theorem zkc(q:Rat):(ofN q.den).length≤sz q:=Ydf ..
theorem zim{n:Nat}(h:n≠0):1≤(ofN n).length:=by
 have:ofN n≠[]:=fun e=>h (zau.1 e);exact Ybi.2 this
theorem z1i(q:Rat):1≤sz q:=Yf (zim q.den_nz) (zkc q)
theorem z1j{z:Int}{d:Nat}(h:d≠0):(mkRat z d).num.natAbs=z.natAbs/Nat.gcd z.natAbs d:=by
 rw[Rat.num_mkRat,if_neg h,Int.natAbs_ediv_of_dvd (Int.ofNat_dvd_left.2 (Nat.gcd_dvd_right ..)),Yer,Yb7]
theorem z1k{z:Int}{d:Nat}(h:d≠0):(mkRat z d).den=d/Nat.gcd z.natAbs d:=by
 rw[Rat.den_mkRat,if_neg h,Yb7]
theorem z1l{z:Int}{d:Nat}(h:d≠0):sgI (mkRat z d).num=sgI z:=by
 rw[Rat.num_mkRat,if_neg h];have hg:0<Nat.gcd d z.natAbs:=Nat.gcd_pos_of_pos_left _ (Yan h);obtain⟨k,hk⟩:((Nat.gcd d z.natAbs:Nat):Int) ∣ z:=Int.ofNat_dvd_left.2 (Nat.gcd_dvd_right ..);generalize Nat.gcd d z.natAbs=g at *
 have hg':(0:Int)<g:=by omega
 subst hk;rw[Int.mul_ediv_cancel_left _ (by omega)];unfold sgI;rcases Int.lt_trichotomy k 0 with h1 | h1 | h1
 ·have:=Int.mul_neg_of_pos_of_neg hg' h1;rw[if_pos h1,if_pos this]
 ·subst h1;simp
 ·have:=Int.mul_pos hg' h1;rw[if_neg (by omega),if_neg (by omega),if_neg (by omega),if_neg (by omega)]
theorem zxs(z:Int):decide (z<0)=decide (sgI z<0):=by
 unfold sgI;split
 ·simp[*]
 ·split<;>simp[*]
theorem z9m{z:Int}{d:Nat}(h:d≠0):decide ((mkRat z d).num<0)=decide (z<0):=by
 rw[zxs,zxs z,z1l h]
theorem z9n(n:Bool)(x:Nat){d:Nat}(h:d≠0):fz (mkRat (sg n x) d)=(n&&decide (x≠0),ofN (x/Nat.gcd x d),ofN (d/Nat.gcd x d)):=by
 unfold fz;rw[z9m h,z1j h,z1k h,zqw,zqx]
theorem ze7:ofN 1=[1]:=by
 rw[zgh (by decide),show 1/4294967296=0 from rfl,zds]
 rfl
theorem zpg:fz 0=(false,[],[1]):=by
 unfold fz;rw[Rat.zero_num,Rat.zero_den,ze7];simp
theorem zxt:sz 0=1:=by
 unfold sz;rw[Rat.zero_num,Rat.zero_den,ze7];simp
theorem zcg(q:Rat):fsz (fz q)=sz q:=rfl
theorem z4g{z:Int}{d L:Nat}(hz:(ofN z.natAbs).length≤L)(hd:(ofN d).length≤L)(h1:1≤L):sz (mkRat z d)≤L:=by
 unfold sz;by_cases h:d=0
 ·subst h;rw[Yfe,Rat.zero_num,Rat.zero_den,ze7];simp;omega
 ·rw[z1j h,z1k h];exact Yfc.2 ⟨Yf (zaq (Ybr _ _)) hz,Yf (zaq (Ybr _ _)) hd⟩
theorem ztg{x:Fz}{L:Nat}(h:fsz x≤L)(h1:1≤L):sz (fv x)≤L:=
 z4g (Yf (zbs _ _) (Yf (zcj x) h)) (Yf (zad _) (Yf (zcv x) h)) h1
theorem zax{x y L M:Nat}(hx:(ofN x).length≤L)(hy:(ofN y).length≤M):(ofN (x*y)).length≤L+M:=by
 have:=za3 (x:=(x:Int)) (y:=(y:Int)) (L:=L) (M:=M) (by simpa using hx) (by simpa using hy);simpa[Yes]using this
theorem z1m(p q:Rat):sz (p+q)≤sz p+sz q+1:=by
 rw[Rat.add_def'];have h1:=zkb p;have h2:=zkc p;have h3:=zkb q;have h4:=zkc q;have h5:=z1i p;refine z4g ?_ (Yf (zax h2 h4) (by omega)) (by omega);refine zb3 ?_ ?_
 ·exact za3 h1 (by simpa using h4)
 ·rw[Ya6];exact za3 h3 (by simpa using h2)
theorem z1n(p q:Rat):sz (p*q)≤sz p+sz q:=by
 rw[Rat.mul_def'];have h1:=zkb p;have h2:=zkc p;have h3:=zkb q;have h4:=zkc q;have h5:=z1i p;exact z4g (za3 h1 h3) (zax h2 h4) (by omega)
theorem zxu(p:Rat):sz (-p)=sz p:=by
 unfold sz;rw[Rat.neg_num,Rat.neg_den,Yff]
theorem z9o(p q:Rat):sz (p-q)≤sz p+sz q+1:=by
 rw[Ydq];have:=z1m p (-q)
 rwa [zxu]at this
theorem zxv(p:Rat):sz p⁻¹≤sz p:=by
 unfold sz;rw[Rat.num_inv,Rat.den_inv];by_cases h:p.num=0
 ·simp[h,ze7];have:=zim p.den_nz;omega
 ·rw[if_neg h,Yes,Yek h,Yc2,Yer,Nat.max_comm];exact Yg _
theorem z9p(p q:Rat):sz (p/q)≤sz p+sz q:=by
 rw[Yeg];exact Yf (z1n _ _) (Nat.add_le_add_left (zxv q) _)
def sgQ(q:Rat):Int:=sgI q.num
theorem z1o{z:Int}{d:Nat}(h:d≠0):sgQ (mkRat z d)=sgI z:=z1l h
theorem zqz{z:Int}:sgI z=0↔z=0:=by
 unfold sgI;split
 ·constructor<;>intro h<;>omega
 ·split<;>constructor<;>intro h<;>omega
theorem zg2{q:Rat}:sgQ q=0↔q=0:=by
 unfold sgQ;rw[zqz,Rat.num_eq_zero]
def Zd(l:List Fz):List (List AV):=l.map Zce
@[simp] theorem zin(l:List Fz):(Zd l).length=l.length:=by simp[Zd]
@[simp] theorem zla(l:List Fz):wkL (Zd l)=Zd l:=by rw[zb1];simp[Zd,wkR,wkA]
@[simp] theorem zacs(l:List Fz)(i:Nat)(h:i<(Zd l).length):(Zd l)[i]=Zce (l[i]'(by simpa using h)):=by simp[Zd]
theorem zfy(l:List Fz)(x:Fz):Zd l++[Zce x]=Zd (l++[x]):=by simp[Zd]
@[simp] theorem z9q(l:List Fz)(n:Nat):(Zd l).take n=Zd (l.take n):=by simp[Zd]
@[simp] theorem zbu:Zd []=[]:=rfl
def Zbf(m:List (List Fz)):List (List AV):=m.map fun r=>[.sl (Zd r) .an]
@[simp] theorem zact:Zbf []=[]:=rfl
abbrev tyF:Ty:=.cons .bool (.cons (.sl (.int .u32)) (.cons (.sl (.int .u32)) .nil))
theorem z06{cs:List AV}(h:Ok tyF cs):∃x:Fz,wkR cs=Zce x:=by
 obtain⟨c1,c2,rfl,⟨b,rfl⟩,c3,c4,rfl,⟨els,f,rfl,_,_,he⟩,c5,c6,rfl,⟨els2,f2,rfl,_,_,he2⟩,rfl⟩:=h;obtain⟨l,rfl⟩:=zgz els he;obtain⟨l2,rfl⟩:=zgz els2 he2;refine⟨(b,l,l2),?_⟩;simp[wkA,wkR]
theorem zmi:∀(els:List (List AV)),(∀r∈els,Ok tyF r)→∃l:List Fz,wkL els=Zd l
 | [],_=>⟨[],rfl⟩
 | r::els,h=>by
  obtain⟨l,hl⟩:=zmi els fun r hr=>h r (Yw _ hr);obtain⟨x,hx⟩:=z06 (h r Yaj);refine⟨x::l,?_⟩;simp only[wkL,hx,hl]
  rfl
theorem zmj{cs:List AV}(h:Ok (.sl tyF) cs):∃l:List Fz,wkR cs=[.sl (Zd l) .an]:=by
 obtain⟨els,f,rfl,_,_,he⟩:=h;obtain⟨l,hl⟩:=zmi els he;exact⟨l,by simp[wkR,wkA,hl]⟩
theorem z2z{x:AV}(h:Zhj (false,.int .i64) x):∃n:Int,x=.i .i64 n∧-9223372036854775808≤n∧n<9223372036854775808:=by
 obtain⟨n,hx,wf⟩:=h;cases hx;refine⟨n,rfl,?_⟩;simp[Lit.wf,IntKind.min,IntKind.max,IntKind.signed,IntKind.bits]at wf;omega
theorem zrs{P:Program}{ν:Nat→FuncId}{l l':List (Nat×AFx)}(hT:TOk P ν fun u=>l'.lookup u)(hp:Part l l')(hm:P.follows .mixedOrders=true){u:Nat}{af:AFx}{xs ys:List AV}{r:AV}
  (hu:l'.lookup u=some af) (hl:af.lent=none) (h:Zb (fun u=>l.lookup u) u ys=some r) (hx:xs.map wkA=ys):Zbb P (ν u) xs (·=r):=
 zyt hT hm hu hl (hp.call (by rw[hu];rfl) h) hx
end Go.Ab
section
set_option linter.unusedVariables false
namespace Go.Proofs
open Go.Shelf Go.RowKit
variable{P:Program}{ρ:Ren}
structure JL (P:Program) (ρ:Ren):Prop extends Lays.n169 P ρ,Lays.n241 P ρ,Builder.Extra P ρ where
 f156:P.funcs[ρ.f 156]? = some (Body.n156 ρ)
 f165:P.funcs[ρ.f 165]? = some (Body.n165 ρ)
 f166:P.funcs[ρ.f 166]? = some (Body.n166 ρ)
 t4:P.underlying (ρ.t 4)=some (TypeDesc.bool)
 a4:∀w,(isAgg (ρ.t 4)).run P w=.ok false w
 z4:∀w,(Go.sizeOf (ρ.t 4)).run P w=.ok 1 w
 v4:∀w,(zeroValue (ρ.t 4)).run P w=.ok (Value.bool false) w
 t20:P.underlying (ρ.t 20)=some (TypeDesc.interface #[])
 a20:∀w,(isAgg (ρ.t 20)).run P w=.ok false w
 z20:∀w,(Go.sizeOf (ρ.t 20)).run P w=.ok 1 w
 v20:∀w,(zeroValue (ρ.t 20)).run P w=.ok (Value.nilIface) w
 t31:P.underlying (ρ.t 31)=some (TypeDesc.slice (ρ.t 9))
 a31:∀w,(isAgg (ρ.t 31)).run P w=.ok false w
 z31:∀w,(Go.sizeOf (ρ.t 31)).run P w=.ok 1 w
 v31:∀w,(zeroValue (ρ.t 31)).run P w=.ok (Value.slice none 0 0) w
 t75:P.underlying (ρ.t 75)=some (TypeDesc.interface #[("Error",ρ.t 80)])
 a75:∀w,(isAgg (ρ.t 75)).run P w=.ok false w
 z75:∀w,(Go.sizeOf (ρ.t 75)).run P w=.ok 1 w
 v75:∀w,(zeroValue (ρ.t 75)).run P w=.ok (Value.nilIface) w
 t76:P.underlying (ρ.t 76)=some (TypeDesc.tuple #[ρ.t 3,ρ.t 75])
 a76:∀w,(isAgg (ρ.t 76)).run P w=.ok false w
 z76:∀w,(Go.sizeOf (ρ.t 76)).run P w=.ok 1 w
 v76:∀w,(zeroValue (ρ.t 76)).run P w=.ok (Value.tuple #[Value.int IntKind.i64 0,Value.nilIface]) w
 t164:P.underlying (ρ.t 164)=some (TypeDesc.unsafePointer)
 a164:∀w,(isAgg (ρ.t 164)).run P w=.ok false w
 z164:∀w,(Go.sizeOf (ρ.t 164)).run P w=.ok 1 w
 v164:∀w,(zeroValue (ρ.t 164)).run P w=.ok (Value.pointer none) w
 e240:∀args w,(callFunc (ρ.f 240) args).run P w=.ok (.enter (ρ.f 240) args) w
 c240:∀(B b:Nat) (bs:List Value) (w:World),Lib.IsBuilder (ρ.t 72) (ρ.t 5) B b bs w →
  Calls P (ρ.f 240) #[.pointer (some ⟨b,0,none⟩)] w fun e w'=>e=.returned (.tuple #[])∧(Lib.BuilderAt (ρ.t 72) (ρ.t 5) B b (.pointer (some ⟨b,0,none⟩)) bs w'∧Below B w w')
 c240f:∀(b:Nat) (w:World),w.cell? ⟨b,0,none⟩=some (.pointer none)→w.shape? b=some ((ρ.t 72),2)→w.frozen? ⟨b,0,none⟩=false →
  Calls P (ρ.f 240) #[.pointer (some ⟨b,0,none⟩)] w fun e w'=>e=.returned (.tuple #[])∧w'=w.setCell ⟨b,0,none⟩ (.pointer (some ⟨b,0,none⟩))
theorem Jl.hid{p:Prop}(h:p):Hid p:=h
end Go.Proofs
end
section
namespace Go.Proofs
open Go.Shelf Go.RowKit Go.Ab
variable{P:Program}{ρ:Ren}
theorem one_arg{cargs:Array Value}(h:cargs.size=1):∃a,cargs=#[a]:=by
 obtain⟨l⟩:=cargs
 match l,h with
 | [a],_=>exact⟨a,rfl⟩
end Go.Proofs
end
section
namespace Go.Proofs.YtjhilbodpmnbmaaGreatDoor
open Go Go.Ab Go.RowKit
def Zcj:ByteArray:=⟨#[43,45,42,47,94,40,41,91,93,44,59,61]⟩
theorem signS_lt:∀(p:Nat) (h:p<Zcj.size),(Zcj[p]'h).toNat<128:=by decide
theorem sign_at(c:Nat)(hc:c<256):Zgz.contains (UInt8.ofNat c)=decide (∃p,∃h:p<Zcj.size,(Zcj[p]'h).toNat=c):=by
 rw[Yca,decide_eq_true_iff];have:∀c,c<256→(Zgz.contains (UInt8.ofNat c)=true↔∃p,∃h:p<Zcj.size,(Zcj[p]'h).toNat=c):=by decide +kernel
 exact this c hc
set_option maxHeartbeats 1000000 in
set_option maxRecDepth 100000 in
theorem sign_calls(c:Nat)(hc:c<256)(w:World):Calls Tryz.prog 205 #[.int .u8 (c:Int)] w fun e w'=>e=.returned (.bool (Zgz.contains (UInt8.ofNat c)))∧Below w.heap.size w w':=by
 rw[sign_at c hc]
 go_enter Tryz.func205,Tryz.ntmps205
 go_wp2
 go_loopw [] (fun wr=>∃pos:Nat,wr.heap[w.heap.size]? = some (.stringIter Zcj pos)∧Below w.heap.size w wr∧∀j,j<pos→∀h:j<Zcj.size,(Zcj[j]'h).toNat≠c) (fun wr=>Zcj.size-wr.iterPos w.heap.size)
 case atStart=>
  refine⟨0,World.iter_heap w Zcj 0,?_,fun j hj=>absurd hj (Yfb _)⟩;exact(Below.refl _ w).alloc (Yg _) _
 case round=>
  obtain⟨pos,hit,hbw,hne⟩:=hrel;by_cases hp:pos<Zcj.size
  ·have hnx:∀ty,(Instr.next (.pointer (some ⟨w.heap.size,0,none⟩)) true ty).run Tryz.prog wr=_:=fun ty=>Lib.run_next_ascii_at wr w.heap.size Zcj pos ty hit hp (signS_lt pos hp);have hit2:=Lib.iterAt_heap wr w.heap.size Zcj pos (pos+1) hit;have hbw2:=Lib.below_iterAt hbw (k:=w.heap.size) (Yg _) Zcj (pos+1);obtain⟨x,hx⟩:∃x:Nat,(Zcj[pos]'hp).toNat=x:=⟨_,rfl⟩;have hx1:=signS_lt pos hp;rw[hx]at hnx hx1;have hwr:IntKind.u8.wrap (x:Int)=(x:Int):=by rw[IntKind.wrap_u8];omega
   by_cases hxc:x=c
   ·subst hxc
    go_wp2
    go_ret
    exact⟨by rw[decide_eq_true ⟨pos,hp,hx⟩];rfl,hbw2⟩
   ·have hxc':¬ (x:Int)=(c:Int):=by omega
    go_wp2
    go_roundw
    case rel=>
     refine⟨pos+1,hit2,hbw2,fun j hj h=>?_⟩;rcases Yp j pos with h1 | h1
     ·exact hne j h1 h
     ·obtain rfl:j=pos:=by omega
      rw[hx];exact hxc
    case measure=>
     simp only[World.iterPos,hit2,hit];omega
  ·have hnx:∀ty,(Instr.next (.pointer (some ⟨w.heap.size,0,none⟩)) true ty).run Tryz.prog wr=_:=fun ty=>Lib.run_next_end_at wr w.heap.size Zcj pos ty hit hp
   go_wp2
   go_ret
   have hno:¬ ∃p,∃h:p<Zcj.size,(Zcj[p]'h).toNat=c:=by
    rintro⟨p,h,hpc⟩
    exact hne p (by omega) h hpc
   exact⟨by rw[decide_eq_false hno];rfl,hbw⟩
theorem sign_ok:∀xs r,prim187 xs=some r→Zbb Tryz.prog (nu 187) xs (·=r):=by
 have e:nu 187=205:=by kernel_rfl
 rw[e];intro xs r h;unfold prim187 at h;split at h
 ·rename_i n;split at h
  ·rename_i hn;cases h;refine⟨enters_of Tryz.func205 (by kernel_rfl) rfl,fun w S cargs hsz hC hS=>?_⟩;obtain⟨v0,rfl⟩:=one_arg hsz;have c0:v0=.int .u8 n:=by
    have:=hC 0 _ _ rfl rfl;cases this
    rfl
   subst c0;obtain⟨c,rfl⟩:∃c:Nat,n=c:=⟨n.toNat,by omega⟩;refine(sign_calls c (by omega) w).mono ?_
   rintro e w' ⟨rfl,hb⟩
   refine⟨_,_,rfl,?_,hb,.b _⟩;rw[Ybx]
   rfl
  ·cases h
 ·cases h
abbrev tyW:Ty:=.cons (.int .i64) (.cons .str (.cons (.int .i64) .nil))
end Go.Proofs.YtjhilbodpmnbmaaGreatDoor
end
namespace Go.Ab
class Zlo (T:Tbl):Prop where
theorem cop2{X:Nat}(h:X%2=1)(k:Nat):Nat.Coprime (2^k) X:=by
 refine Nat.Coprime.pow_left k ?_;unfold Nat.Coprime;rw[Yfi,h]
 rfl
theorem zio{k m Y:Nat}(hY:Y%2=1):Nat.gcd (2^k*m) Y=Nat.gcd m Y:=Nat.Coprime.gcd_mul_left_cancel m (cop2 hY k)
theorem z4h{m n X Y:Nat}(hX:X%2=1)(hY:Y%2=1):Nat.gcd (2^m*X) (2^n*Y)=2^(min m n)*Nat.gcd X Y:=by
 rcases Nat.le_total m n with h | h
 ·rw[Ya9 h,show n=m+(n-m) by omega,Ybj,Yz,Nat.gcd_mul_left,Yb7 X,zio hX,Yb7 Y]
 ·rw[Nat.min_eq_right h,show m=n+(m-n) by omega,Ybj,Yz,Nat.gcd_mul_left,zio hY]
theorem zq0{X Y k m:Nat}(hY:Y%2=1)(h:Y≤X)(e:X-Y=2^k*m):Nat.gcd m Y=Nat.gcd X Y:=by
 rw[←zio hY (k:=k),←e,Nat.gcd_sub_self_left h]
theorem z0n{n:Nat}(h:n≠0):∃k m,n=2^k*m∧m%2=1:=by
 induction n using Nat.strongRecOn with
 | _ n ih=>
  by_cases h2:n%2=1
  ·exact⟨0,n,by simp,h2⟩
  ·obtain⟨k,m,e,hm⟩:=ih (n/2) (by omega) (by omega);refine⟨k+1,m,?_,hm⟩;rw[Yy,Yai (2^k),Yz,←e];omega
section
variable{T:Tbl}
theorem ziy(G:Nat):∀y:Nat×Nat,(y.1<18446744073709551616∧y.2<18446744073709551616∧Nat.gcd y.1 y.2=G) →
  Ze T 0 0 (.norm false [0]) l198_0 ⟨[(0,u64 y.1),(1,u64 y.2)],[],2⟩=some (.n,⟨[(0,u64 G)],[],2⟩):=by
 refine zaw (fun y:Nat×Nat=>⟨[(0,u64 y.1),(1,u64 y.2)],[],2⟩) _ (fun y=>y.2) _ ?_
 rintro⟨x,y⟩ ⟨hx,hy,hG⟩
 simp only at hx hy hG ⊢;by_cases h:y=0
 ·right;subst h;rw[Yeq]at hG;subst hG;constructor<;>simp -implicitDefEqProofs[l198_0]
 ·left;have hm:=Ya5 x (Yan h);refine⟨(y,x%y),⟨hy,by simp only;omega,by simp only;rw[←hG,Yb7 y,←Yfi,Yb7]⟩,hm,?_,trivial⟩;simp -implicitDefEqProofs[l198_0,h]
end
section
variable{T:Tbl}[Zo T]
theorem zmm(x y:Nat)(hx:x<18446744073709551616)(hy:y<18446744073709551616):Zb T 198 [u64 x,u64 y]=some (u64 (Nat.gcd x y)):=by
 have h:=ziy (T:=T) (Nat.gcd x y) (x,y) ⟨hx,hy,rfl⟩;simp only at h;rw[zab Zo.h198 rfl,b198];simp -implicitDefEqProofs[h]
theorem zrz(a:List UInt32):Zb T 200 [.sl (Za (ofN (val a))) .an]=some (.b (decide (val a=1))):=by
 rw[zab Zo.h200 rfl,b200];generalize val a=n;by_cases h0:n=0
 ·subst h0;simp -implicitDefEqProofs
 ·rw[zgh h0];by_cases h1:n/4294967296=0
  ·have e:ofN (n/4294967296)=[]:=zau.2 h1;have e2:n%4294967296=n:=Yi (by omega);simp -implicitDefEqProofs[e,Za,zb0,e2]
  ·have h2:¬ ofN (n/4294967296)=[]:=fun e=>h1 (zau.1 e);have h3:¬ n=1:=by rintro rfl;simp at h1
   have h4:¬ ((ofN (n/4294967296)).length:Int)+1=1:=by
    have:=Ybi.2 h2;omega
   simp -implicitDefEqProofs[Za,h3,h4]
end
section
variable{T:Tbl}[Zp T][Z0 T][Z3 T][Zq T][Zu T][Zo T]
theorem zyw(G:Nat):∀y:List UInt32×List UInt32,(y.1.length≤90000∧y.2.length≤90000∧(∃n,y.1=ofN n)∧(∃n,y.2=ofN n)∧Nat.gcd (val y.1) (val y.2)=G) →
  ∃r,(∃a b:List UInt32,r=(Ex.n,(⟨[(0,.sl (Za a) .an),(1,.sl (Za b) .an)],[],2⟩:St))∧a.length≤90000∧b.length≤2∧(∃n,a=ofN n)∧(∃n,b=ofN n)∧Nat.gcd (val a) (val b)=G) ∧
   Ze T 0 0 (.norm false [0,1]) l199_0 ⟨[(0,.sl (Za y.1) .an),(1,.sl (Za y.2) .an)],[],2⟩=some r:=by
 refine zam (fun y:List UInt32×List UInt32=>⟨[(0,.sl (Za y.1) .an),(1,.sl (Za y.2) .an)],[],2⟩) _ (fun y=>val y.2) _ ?_
 rintro⟨a,b⟩ ⟨ha,hb,hk,hn,hG⟩
 simp only at ha hb hk hn hG ⊢;by_cases h:2<b.length
 ·left;have h':(2:Int)<b.length:=by omega
  have hv:val b≠0:=by
   obtain⟨n,rfl⟩:=hn;rw[zae]
   rintro rfl
   simp at h
  have hd:=zfq (T:=T) a b ha hb;rw[if_neg hv]at hd;have hm:=Ya5 (val a) (Yan hv);refine⟨(b,ofN (val a%val b)),⟨hb,?_,hn,⟨_,rfl⟩,?_⟩,?_,?_⟩
  ·have:=zaq (Yb8 hm);have:=zad b;simp only;omega
  ·simp only;rw[zae,←hG,Yb7 (val b),←Yfi,Yb7]
  ·simp only[zae];exact hm
  ·clear hG hm hn hv hk;simp -implicitDefEqProofs[l199_0,h',hd]
 ·right;have h':¬ (2:Int)<b.length:=by omega
  refine⟨_,⟨a,b,rfl,ha,by omega,hk,hn,hG⟩,?_,?_⟩<;>clear hG<;>simp -implicitDefEqProofs[l199_0,h']
theorem zop(a b:List UInt32)(ha:a.length≤90000)(hb:b.length≤90000):Zb T 199 [.sl (Za a) .an,.sl (Za b) .an]=some (.sl (Za (ofN (Nat.gcd (val a) (val b)))) .an):=by
 have h1:=zbj (T:=T) a (by omega);have h2:=zbj (T:=T) b (by omega);have la:=zad a;have lb:=zad b;obtain⟨G,hG⟩:∃G,G=Nat.gcd (val a) (val b):=⟨_,rfl⟩;obtain⟨_,⟨x,y,rfl,hx,hy,⟨m,rfl⟩,⟨n,rfl⟩,hg⟩,hr⟩:=zyw (T:=T) G (ofN (val a),ofN (val b)) ⟨by simp only;omega,by simp only;omega,⟨_,rfl⟩,⟨_,rfl⟩,by simp only[zae];exact hG.symm⟩;simp only at hr;rw[zae,zae]at hg;rw[zab Zo.h199 rfl,b199,←hG];clear hG;by_cases h0:n=0
 ·subst h0;rw[Yeq]at hg;subst hg;simp -implicitDefEqProofs[h1,h2,hr]
 ·have hv:val (ofN n)≠0:=by rw[zae];exact h0
  have hd:=zfq (T:=T) (ofN m) (ofN n) hx (by omega);rw[if_neg hv,zae,zae]at hd;have hn64:n<18446744073709551616:=by
   have:=za0 (ofN n);rw[zae]at this;exact Y1 this (Y4 (by decide) hy)
  have hm:=Ya5 m (Yan h0);have s1:=zmy (T:=T) (ofN n) (by omega);rw[zae,if_pos hn64]at s1;have s2:=zmy (T:=T) (ofN (m%n)) (by have:=zaq (Yb8 hm);omega);rw[zae,if_pos (by omega)]at s2;have s3:=zmm (T:=T) n (m%n) hn64 (by omega);have e:Nat.gcd n (m%n)=G:=by rw[←hg,Yb7 n,←Yfi,Yb7]
  rw[e]at s3;have s4:=zh0 (T:=T) G (by
   rw[←hg];exact Ycf (Nat.gcd_le_right _ (Yan h0)) hn64)
  have hl:¬ ofN n=[]:=fun e=>h0 (zau.1 e);simp -implicitDefEqProofs[h1,h2,hr,hd,s1,s2,s3,s4,hl,h0]
theorem ziz(a b:List UInt32)(ha:a.length≤90000)(hb:b.length≤90000):Zb T 201 [.sl (Za a) .an,.sl (Za b) .an] =
  some (.tup [.sl (Za (ofN (val a/Nat.gcd (val a) (val b)))) .an,.sl (Za (ofN (val b/Nat.gcd (val a) (val b)))) .an]):=by
 have hg:=zop (T:=T) a b ha hb;have ho:=zrz (T:=T) (ofN (Nat.gcd (val a) (val b)));rw[zae]at ho;have ll:(ofN (Nat.gcd (val a) (val b))).length≤90000:=by
  by_cases h:val a=0
  ·rw[h,Nat.gcd_zero_left];have:=zad b;omega
  ·have:=zaq (Nat.gcd_le_left (val b) (Yan h));have:=zad a;omega
 have d1:=zfq (T:=T) a (ofN (Nat.gcd (val a) (val b))) ha ll;have d2:=zfq (T:=T) b (ofN (Nat.gcd (val a) (val b))) hb ll;have n1:=zbj (T:=T) a (by omega);have n2:=zbj (T:=T) b (by omega);rw[zae]at d1 d2;rw[zab Zo.h201 rfl,b201];by_cases h0:Nat.gcd (val a) (val b)=0
 ·rw[h0]at hg ⊢;simp only[zds]at hg;simp -implicitDefEqProofs[hg]
 ·rw[if_neg h0]at d1 d2;have hl:¬ ofN (Nat.gcd (val a) (val b))=[]:=fun e=>h0 (zau.1 e);by_cases h1:Nat.gcd (val a) (val b)=1
  ·rw[h1]at hg ho hl ⊢;simp -implicitDefEqProofs[hg,ho,n1,n2,hl]
  ·generalize Nat.gcd (val a) (val b)=g at *
   simp -implicitDefEqProofs[hg,ho,d1,d2,hl,h0,h1]
end
section
variable{T:Tbl}[Zl T]
theorem zbf(n:Bool)(k:Nat):Zb T 55 [.b n,.sl (Za (ofN k)) .an]=some (ez (sg n k)):=by
 rw[zab Zl.h55 rfl,b55,zxl];have h:(0<(ofN k).length)=(k≠0):=by
  rw[eq_iff_iff,Ybi];exact not_congr zau
 cases n<;>simp -implicitDefEqProofs[h]
end
section
variable{T:Tbl}[Zp T][Zl T]
theorem zgf(n:Bool)(a:List UInt32)(ha:a.length≤1000000):Zb T 38 [wh n a]=some (ez (wv n a)):=by
 have h:=zbj (T:=T) a (by omega);have hs:=zbf (T:=T) n (val a);rw[zab Zl.h38 rfl,b38];simp -implicitDefEqProofs[h,hs,wv]
end
section
variable{T:Tbl}[Zp T][Zl T]
theorem znf(n:Bool)(a:List UInt32)(ha:a.length≤1000000):Zb T 40 [wh n a]=some (ez (-wv n a)):=by
 have h:=zbj (T:=T) a (by omega);have hs:=zbf (T:=T) (!n) (val a);rw[z1f]at hs;rw[zab Zl.h40 rfl,b40];simp -implicitDefEqProofs[h,hs,wv]
end
section
variable{T:Tbl}[Zp T][Zl T]
theorem zj7(n m:Bool)(a b:List UInt32)(ha:a.length≤90000)(hb:b.length≤90000):Zb T 23 [wh n a,wh m b]=some (ez (wv n a+wv m b)):=by
 rw[zab Zl.h23 rfl,b23];by_cases h:n=m
 ·subst h;have hn:=zzj (T:=T) [a,b] (by simp) (by simp;omega);have hs:=zbf (T:=T) n (val a+val b);rw[zik]at hs;have e:lls [a,b]=[[.sl (Za a) .an],[.sl (Za b) .an]]:=rfl;have e2:Zez [a,b]=val a+val b:=by simp[Zez]
  rw[e,e2]at hn;simp -implicitDefEqProofs[hn,hs,wv]
 ·have hg:=z3c (T:=T) a b (by omega) (by omega);by_cases hlt:val a<val b
  ·have hs:=zbf (T:=T) m (val b-val a);rw[znm h hlt]at hs;simp -implicitDefEqProofs[h,hg,hlt,zct,hs,wv]
  ·have hs:=zbf (T:=T) n (val a-val b);rw[znn h hlt]at hs;simp -implicitDefEqProofs[h,hg,hlt,zct,hs,wv]
end
section
variable{T:Tbl}[Zp T][Zl T]
theorem zj8(n m:Bool)(a b:List UInt32)(ha:a.length≤90000)(hb:b.length≤90000):Zb T 25 [wh n a,wh m b]=some (ez (wv n a-wv m b)):=by
 obtain⟨z,hz⟩:∃z,z=-wv m b:=⟨_,rfl⟩;have h1:=znf (T:=T) m b (by omega);have hl:=zbs m b;rw[←zil,←hz]at hl;have h2:=zj7 (T:=T) n (decide (z<0)) a (ofN z.natAbs) (by omega) (by omega);have e:wv n a-wv m b=wv n a+z:=by omega
 rw[zfw,←e]at h2;rw[←hz]at h1;rw[zab Zl.h25 rfl,b25];simp -implicitDefEqProofs[h1,h2]
end
section
variable{T:Tbl}[Z0 T][Zl T]
theorem zng(n m:Bool)(a b:List UInt32)(ha:a.length≤100000)(hb:b.length≤100000):Zb T 27 [wh n a,wh m b]=some (ez (wv n a*wv m b)):=by
 have h1:=zek (T:=T) a b ha hb;have hs:=zbf (T:=T) (n != m) (val a*val b);rw[zno]at hs;rw[zab Zl.h27 rfl,b27];simp -implicitDefEqProofs[h1,hs,wv]
end
section
variable{T:Tbl}[Zp T][Zl T]
theorem zgg(n:Bool)(a:List UInt32)(ha:a.length≤1000000):Zb T 37 [wh n a]=some (.i .i64 (sgI (wv n a))):=by
 have h1:=zej (T:=T) a (by omega);rw[zab Zl.h37 rfl,b37];unfold wv;rw[z1g];by_cases h:val a=0
 ·simp -implicitDefEqProofs[h1,h]
 ·cases n<;>simp -implicitDefEqProofs[h1,h]
end
section
variable{T:Tbl}[Zp T][Zl T]
theorem ztc(n m:Bool)(a b:List UInt32)(ha:a.length≤90000)(hb:b.length≤90000):Zb T 36 [wh n a,wh m b]=some (.i .i64 (sgI (wv n a-wv m b))):=by
 have h1:=zj8 (T:=T) n m a b ha hb;have hl:=zb3 (x:=wv n a) (y:=-wv m b) (L:=90000) (by have:=zbs n a;omega) (by rw[zil];have:=zbs m b;omega);rw[←Int.sub_eq_add_neg]at hl;have h2:=zgg (T:=T) (decide (wv n a-wv m b<0)) (ofN (wv n a-wv m b).natAbs) (show (ofN (wv n a-wv m b).natAbs).length≤1000000 by omega);rw[zfw]at h2;rw[zab Zl.h36 rfl,b36];simp -implicitDefEqProofs[h1,h2]
end
section
variable{T:Tbl}[Zp T][Zl T]
theorem z0f(k:Int)(h1:-9223372036854775808≤k)(h2:k<9223372036854775808):Zb T 41 [.i .i64 k]=some (ez k):=by
 rw[zab Zl.h41 rfl,b41];by_cases h:k<0
 ·have hn:=zh0 (T:=T) k.natAbs (by omega);have hs:=zbf (T:=T) true k.natAbs;have e:sg true k.natAbs=k:=by simp[sg];omega
  have e2:Zdd 0 (k%18446744073709551616).toNat=k.natAbs:=by unfold Zdd;omega
  rw[e]at hs;simp -implicitDefEqProofs[h,e2,hn,hs]
 ·have hn:=zh0 (T:=T) k.natAbs (by omega);have hs:=zbf (T:=T) false k.natAbs;have e:sg false k.natAbs=k:=by simp[sg];omega
  have e2:(k%18446744073709551616).toNat=k.natAbs:=by omega
  rw[e]at hs;simp -implicitDefEqProofs[h,e2,hn,hs]
end
section
variable{T:Tbl}[Zp T][Z0 T][Z3 T][Zq T][Zu T][Zl T][Zo T][Zr T]
theorem zou(p q:Int)(hp:(ofN p.natAbs).length≤90000)(hq:(ofN q.natAbs).length≤90000):Zb T 23 [ez p,ez q]=some (ez (p+q)):=by
 have:=zj7 (T:=T) (decide (p<0)) (decide (q<0)) _ _ hp hq
 rwa [zfw,zfw]at this
theorem zov(p q:Int)(hp:(ofN p.natAbs).length≤90000)(hq:(ofN q.natAbs).length≤90000):Zb T 25 [ez p,ez q]=some (ez (p-q)):=by
 have:=zj8 (T:=T) (decide (p<0)) (decide (q<0)) _ _ hp hq
 rwa [zfw,zfw]at this
theorem zow(p q:Int)(hp:(ofN p.natAbs).length≤90000)(hq:(ofN q.natAbs).length≤90000):Zb T 36 [ez p,ez q]=some (.i .i64 (sgI (p-q))):=by
 have:=ztc (T:=T) (decide (p<0)) (decide (q<0)) _ _ hp hq
 rwa [zfw,zfw]at this
theorem zr0(p:Int)(hp:(ofN p.natAbs).length≤1000000):Zb T 40 [ez p]=some (ez (-p)):=by
 have:=znf (T:=T) (decide (p<0)) _ hp
 rwa [zfw]at this
theorem zr1{x d:Nat}(h:d≠0):decide (x/Nat.gcd x d≠0)=decide (x≠0):=by
 have hg:0<Nat.gcd x d:=Yeu _ (Yan h);obtain⟨k,hk⟩:=Nat.gcd_dvd_left x d;generalize Nat.gcd x d=g at *
 subst hk;rw[Ye0 _ hg,decide_eq_decide];have:g≠0:=by omega
 exact⟨fun h1 h2=>h1 ((Nat.mul_eq_zero.1 h2).resolve_left this),fun h1 h2=>h1 (by rw[h2,Yah])⟩
theorem zbx(n:Bool)(a d:List UInt32)(ha:a.length≤90000)(hd:d.length≤90000)(h:val d≠0) :
  Zb T 202 [wh n a,.sl (Za d) .an]=some (efz (fz (mkRat (wv n a) (val d)))):=by
 have e:=z9n n (val a) h
 change fz (mkRat (wv n a) (val d))=_ at e
 have hc:=ziz (T:=T) a d ha hd;have hl:(ofN (val a/Nat.gcd (val a) (val d))).length≤1000000:=by
  have:=zaq (Ybr (val a) (Nat.gcd (val a) (val d)));have:=zad a;omega
 have hn:=zgf (T:=T) n _ hl;have e2:wv n (ofN (val a/Nat.gcd (val a) (val d)))=sg n (val a/Nat.gcd (val a) (val d)):=by unfold wv;rw[zae]
 rw[e2,zxl,zr1 h]at hn;rw[e,zab Zr.h202 rfl,b202];generalize ofN (val a/Nat.gcd (val a) (val d))=A at *
 generalize ofN (val d/Nat.gcd (val a) (val d))=D at *
 clear e e2;simp -implicitDefEqProofs[hc,hn]
theorem zox(n:Bool)(a d:List UInt32)(ha:a.length≤10000)(hd:d.length≤10000)(h:val d≠0) :
  Zb T 202 [wh n a,.sl (Za d) .an]=some (efz (fz (mkRat (wv n a) (val d)))):=zbx (T:=T) n a d (Yf ha (by decide)) (Yf hd (by decide)) h
theorem za7(x:Fz)(hx:fsz x≤100000):∃y:Fz,val y.2.2≠0∧fv y=fv x∧fsz y≤max 1 (fsz x)∧Zb T 203 [efz x]=some (.tup [wh y.1 y.2.1,.sl (Za y.2.2) .an]):=by
 obtain⟨n,a,d⟩:=x;have h1:=zcj (n,a,d);have h2:=zcv (n,a,d);simp only at h1 h2;have hz:=zej (T:=T) d (by omega);by_cases h:val d=0
 ·refine⟨(false,[],[1]),by simp,?_,?_,?_⟩
  ·unfold fv;simp only[h,Yfe]
   rfl
  ·show 1≤_;omega
  ·have ho:=zh0 (T:=T) 1 (by decide);rw[ze7]at ho;rw[zab Zr.h203 rfl,b203];simp -implicitDefEqProofs[hz,h,ho]
 ·refine⟨(n,a,d),h,rfl,by omega,?_⟩;rw[zab Zr.h203 rfl,b203];simp -implicitDefEqProofs[hz,h]
theorem zvi(k:Int)(h1:-9223372036854775808≤k)(h2:k<9223372036854775808):Zb T 205 [.i .i64 k]=some (efz (fz (k:Rat))):=by
 have hw:=z0f (T:=T) k h1 h2;have ho:=zh0 (T:=T) 1 (by decide);have e:fz (k:Rat)=(decide (k<0),ofN k.natAbs,ofN 1):=rfl;rw[e,zab Zr.h205 rfl,b205];simp -implicitDefEqProofs[hw,ho]
theorem zdp:Zb T 205 [.i .i64 0]=some (efz (fz 0)):=zvi 0 (by decide) (by decide)
theorem zyz:Zb T 205 [.i .i64 1]=some (efz (fz 1)):=zvi 1 (by decide) (by decide)
theorem zjq(x:Fz)(hx:fsz x≤90000):Zb T 207 [efz x]=some (efz (fz (fv x))):=by
 obtain⟨⟨n,a,d⟩,h1,h2,h3,hp⟩:=za7 (T:=T) x (by omega);simp only at h1 hp;have la:=zcj (n,a,d);have ld:=zcv (n,a,d);simp only at la ld;have hc:=zbx (T:=T) n a d (by omega) (by omega) h1;rw[←h2]
 change _=some (efz (fz (mkRat (wv n a) (val d))))
 rw[zab Zr.h207 rfl,b207];generalize fz (mkRat (wv n a) (val d))=R at *
 clear h1 h2 h3;simp -implicitDefEqProofs[hp,hc]
theorem zhv(x:Fz)(hx:fsz x≤10000):Zb T 207 [efz x]=some (efz (fz (fv x))):=zjq (T:=T) x (Yf hx (by decide))
theorem zr2(x:Fz)(hx:fsz x≤90000):Zb T 209 [efz x]=some (.i .i64 (sgQ (fv x))):=by
 obtain⟨⟨n,a,d⟩,h1,h2,h3,hp⟩:=za7 (T:=T) x (by omega);simp only at h1 hp;have la:=zcj (n,a,d);simp only at la;have hc:=zgg (T:=T) n a (by omega);rw[←h2];unfold fv;rw[z1o h1,zab Zr.h209 rfl,b209];clear h1 h2 h3;simp -implicitDefEqProofs[hp,hc]
theorem zvj(x:Fz)(hx:fsz x≤10000):Zb T 209 [efz x]=some (.i .i64 (sgQ (fv x))):=zr2 (T:=T) x (Yf hx (by decide))
theorem zbv(n:Bool)(a d:List UInt32)(ha:a.length≤90000)(hd:d.length≤90000):Zb T 210 [wh n a,.sl (Za d) .an]=some (ez (wv n a*(val d:Int))):=by
 have hm:=zng (T:=T) n false a d (by omega) (by omega);rw[show wv false d=(val d:Int) from rfl]at hm;generalize wv n a*(val d:Int)=z at *
 rw[zab Zr.h210 rfl,b210];simp -implicitDefEqProofs[hm]
theorem zvk(x x':Fz)(hx:fsz x≤30000)(hx':fsz x'≤30000):Zb T 211 [efz x,efz x']=some (.i .i64 (sgQ (fv x-fv x'))):=by
 obtain⟨⟨n,a,d⟩,h1,h2,h3,hp⟩:=za7 (T:=T) x (by omega);obtain⟨⟨m,b,e⟩,h1',h2',h3',hp'⟩:=za7 (T:=T) x' (by omega);simp only at h1 hp h1' hp';have la:=zcj (n,a,d);have ld:=zcv (n,a,d);have lb:=zcj (m,b,e);have le:=zcv (m,b,e);simp only at la ld lb le;have c1:=zbv (T:=T) n a e (by omega) (by omega);have c2:=zbv (T:=T) m b d (by omega) (by omega);have l1:(ofN (wv n a*(val e:Int)).natAbs).length≤60000:=by
  have:=za3 (x:=wv n a) (y:=(val e:Int)) (L:=30000) (M:=30000) (Yf (zbs n a) (by omega)) (Yf (zbs false e) (by omega));omega
 have l2:(ofN (wv m b*(val d:Int)).natAbs).length≤60000:=by
  have:=za3 (x:=wv m b) (y:=(val d:Int)) (L:=30000) (M:=30000) (Yf (zbs m b) (by omega)) (Yf (zbs false d) (by omega));omega
 have e1:sgQ (fv x-fv x')=sgI (wv n a*(val e:Int)-wv m b*(val d:Int)):=by
  rw[←h2,←h2',Ydq];unfold fv;rw[Yfm,Ydi _ _ h1 h1',z1o (Yc0 h1 h1'),Yfj]
  rfl
 generalize wv n a*(val e:Int)=z1 at *
 generalize wv m b*(val d:Int)=z2 at *
 have c3:=zow (T:=T) z1 z2 (by omega) (by omega);rw[e1,zab Zr.h211 rfl,b211];clear h1 h2 h3 h1' h2' h3' e1;simp -implicitDefEqProofs[hp,hp',c1,c2,c3]
theorem zr3(x x':Fz)(hx:fsz x≤30000)(hx':fsz x'≤30000):Zb T 212 [efz x,efz x']=some (.b (decide (fv x=fv x'))):=by
 have hc:=zvk (T:=T) x x' hx hx';have e:(sgQ (fv x-fv x') == 0)=decide (fv x=fv x'):=by
  rw[Yca];simp only[beq_iff_eq,decide_eq_true_eq,zg2];constructor
  ·intro h;have:=Rat.sub_add_cancel (a:=fv x) (b:=fv x');rw[h,Rat.zero_add]at this;exact this.symm
  ·intro h;rw[h,Rat.sub_self]
 rw[zab Zr.h212 rfl,b212];simp -implicitDefEqProofs[hc,e]
theorem zvl(x x':Fz)(hx:fsz x≤1000)(hx':fsz x'≤1000):Zb T 212 [efz x,efz x']=some (.b (decide (fv x=fv x'))):=zr3 (T:=T) x x' (Yf hx (by decide)) (Yf hx' (by decide))
theorem zvm(x:Fz)(hx:fsz x≤90000):Zb T 213 [efz x]=some (efz (fz (-fv x))):=by
 have h1:=zjq (T:=T) x hx;have hl:(ofN (fv x).num.natAbs).length≤1000000:=by
  have:=ztg (x:=x) (L:=90000) hx (by decide);have:=zkb (fv x);omega
 have h2:Zb T 40 [.agg [.b (decide ((fv x).num<0)),.sl (Za (ofN (fv x).num.natAbs)) .an]]=some (.agg [.b (decide (-(fv x).num<0)),.sl (Za (ofN (-(fv x).num).natAbs)) .an]):=zr0 (T:=T) (fv x).num hl;generalize fv x=q at *
 have e:fz (-q)=(decide (-q.num<0),ofN (-q.num).natAbs,ofN q.den):=rfl;have e':fz q=(decide (q.num<0),ofN q.num.natAbs,ofN q.den):=rfl;rw[e,zab Zr.h213 rfl,b213];rw[e']at h1;generalize ofN q.num.natAbs=A at *
 generalize ofN q.den=D at *
 simp -implicitDefEqProofs[h1,h2]
theorem zqc(x:Fz)(hx:fsz x≤10000):Zb T 213 [efz x]=some (efz (fz (-fv x))):=zvm (T:=T) x (Yf hx (by decide))
theorem zvn(x x':Fz)(hx:fsz x≤30000)(hx':fsz x'≤30000):Zb T 215 [efz x,efz x']=some (efz (fz (fv x+fv x'))):=by
 obtain⟨⟨n,a,d⟩,h1,h2,h3,hp⟩:=za7 (T:=T) x (by omega);obtain⟨⟨m,b,e⟩,h1',h2',h3',hp'⟩:=za7 (T:=T) x' (by omega);simp only at h1 hp h1' hp';have la:=zcj (n,a,d);have ld:=zcv (n,a,d);have lb:=zcj (m,b,e);have le:=zcv (m,b,e);simp only at la ld lb le;have c1:=zbv (T:=T) n a e (by omega) (by omega);have c2:=zbv (T:=T) m b d (by omega) (by omega);have c4:=zek (T:=T) d e (by omega) (by omega);have l1:(ofN (wv n a*(val e:Int)).natAbs).length≤60000:=by
  have:=za3 (x:=wv n a) (y:=(val e:Int)) (L:=30000) (M:=30000) (Yf (zbs n a) (by omega)) (Yf (zbs false e) (by omega));omega
 have l2:(ofN (wv m b*(val d:Int)).natAbs).length≤60000:=by
  have:=za3 (x:=wv m b) (y:=(val d:Int)) (L:=30000) (M:=30000) (Yf (zbs m b) (by omega)) (Yf (zbs false d) (by omega));omega
 have l3:(ofN (val d*val e)).length≤60000:=by
  have:=zax (x:=val d) (y:=val e) (L:=30000) (M:=30000) (Yf (zad d) (by omega)) (Yf (zad e) (by omega));omega
 have e1:fv x+fv x'=mkRat (wv n a*(val e:Int)+wv m b*(val d:Int)) (val d*val e):=by
  rw[←h2,←h2'];exact Ydi _ _ h1 h1'
 have hne:=Yc0 h1 h1';generalize wv n a*(val e:Int)=z1 at *
 generalize wv m b*(val d:Int)=z2 at *
 generalize val d*val e=D at *
 have c3:=zou (T:=T) z1 z2 (by omega) (by omega);have c5:=zbx (T:=T) (decide (z1+z2<0)) (ofN (z1+z2).natAbs) (ofN D) (by have:=zb3 l1 l2;omega) (by omega) (by rw[zae];exact hne);rw[zfw,zae,←e1]at c5;generalize fv x+fv x'=q at *
 generalize z1+z2=z at *
 rw[zab Zr.h215 rfl,b215];clear h1 h2 h3 h1' h2' h3' e1 l1 l2 l3 hne;simp -implicitDefEqProofs[hp,hp',c1,c2,c3,c4,c5]
theorem zqd(x x':Fz)(hx:fsz x≤1000)(hx':fsz x'≤1000):Zb T 215 [efz x,efz x']=some (efz (fz (fv x+fv x'))):=zvn (T:=T) x x' (Yf hx (by decide)) (Yf hx' (by decide))
theorem zvo(x x':Fz)(hx:fsz x≤30000)(hx':fsz x'≤30000):Zb T 216 [efz x,efz x']=some (efz (fz (fv x-fv x'))):=by
 obtain⟨⟨n,a,d⟩,h1,h2,h3,hp⟩:=za7 (T:=T) x (by omega);obtain⟨⟨m,b,e⟩,h1',h2',h3',hp'⟩:=za7 (T:=T) x' (by omega);simp only at h1 hp h1' hp';have la:=zcj (n,a,d);have ld:=zcv (n,a,d);have lb:=zcj (m,b,e);have le:=zcv (m,b,e);simp only at la ld lb le;have c1:=zbv (T:=T) n a e (by omega) (by omega);have c2:=zbv (T:=T) m b d (by omega) (by omega);have c4:=zek (T:=T) d e (by omega) (by omega);have l1:(ofN (wv n a*(val e:Int)).natAbs).length≤60000:=by
  have:=za3 (x:=wv n a) (y:=(val e:Int)) (L:=30000) (M:=30000) (Yf (zbs n a) (by omega)) (Yf (zbs false e) (by omega));omega
 have l2:(ofN (wv m b*(val d:Int)).natAbs).length≤60000:=by
  have:=za3 (x:=wv m b) (y:=(val d:Int)) (L:=30000) (M:=30000) (Yf (zbs m b) (by omega)) (Yf (zbs false d) (by omega));omega
 have l3:(ofN (val d*val e)).length≤60000:=by
  have:=zax (x:=val d) (y:=val e) (L:=30000) (M:=30000) (Yf (zad d) (by omega)) (Yf (zad e) (by omega));omega
 have e1:fv x-fv x'=mkRat (wv n a*(val e:Int)-wv m b*(val d:Int)) (val d*val e):=by
  rw[←h2,←h2',Ydq];unfold fv;rw[Yfm,Ydi _ _ h1 h1',Yfj]
  rfl
 have hne:=Yc0 h1 h1';generalize wv n a*(val e:Int)=z1 at *
 generalize wv m b*(val d:Int)=z2 at *
 generalize val d*val e=D at *
 have c3:=zov (T:=T) z1 z2 (by omega) (by omega);have c5:=zbx (T:=T) (decide (z1-z2<0)) (ofN (z1-z2).natAbs) (ofN D) (by
  have:=zb3 (x:=z1) (y:=-z2) (L:=60000) l1 (by rw[Yff];exact l2);rw[←Int.sub_eq_add_neg]at this;omega) (by omega) (by rw[zae];exact hne)
 rw[zfw,zae,←e1]at c5;generalize fv x-fv x'=q at *
 generalize z1-z2=z at *
 rw[zab Zr.h216 rfl,b216];clear h1 h2 h3 h1' h2' h3' e1 l1 l2 l3 hne;simp -implicitDefEqProofs[hp,hp',c1,c2,c3,c4,c5]
theorem zqe(x x':Fz)(hx:fsz x≤1000)(hx':fsz x'≤1000):Zb T 216 [efz x,efz x']=some (efz (fz (fv x-fv x'))):=zvo (T:=T) x x' (Yf hx (by decide)) (Yf hx' (by decide))
theorem zvp(x x':Fz)(hx:fsz x≤30000)(hx':fsz x'≤30000):Zb T 217 [efz x,efz x']=some (efz (fz (fv x*fv x'))):=by
 obtain⟨⟨n,a,d⟩,h1,h2,h3,hp⟩:=za7 (T:=T) x (by omega);obtain⟨⟨m,b,e⟩,h1',h2',h3',hp'⟩:=za7 (T:=T) x' (by omega);simp only at h1 hp h1' hp';have la:=zcj (n,a,d);have ld:=zcv (n,a,d);have lb:=zcj (m,b,e);have le:=zcv (m,b,e);simp only at la ld lb le;have c3:=zng (T:=T) n m a b (by omega) (by omega);have c4:=zek (T:=T) d e (by omega) (by omega);have l1:(ofN (wv n a*wv m b).natAbs).length≤60000:=by
  have:=za3 (x:=wv n a) (y:=wv m b) (L:=30000) (M:=30000) (Yf (zbs n a) (by omega)) (Yf (zbs m b) (by omega));omega
 have l3:(ofN (val d*val e)).length≤60000:=by
  have:=zax (x:=val d) (y:=val e) (L:=30000) (M:=30000) (Yf (zad d) (by omega)) (Yf (zad e) (by omega));omega
 have e1:fv x*fv x'=mkRat (wv n a*wv m b) (val d*val e):=by
  rw[←h2,←h2'];exact Rat.mkRat_mul_mkRat _ _ _ _
 have hne:=Yc0 h1 h1';generalize wv n a*wv m b=z at *
 generalize val d*val e=D at *
 have c5:=zbx (T:=T) (decide (z<0)) (ofN z.natAbs) (ofN D) (by omega) (by omega) (by rw[zae];exact hne);rw[zfw,zae,←e1]at c5;generalize fv x*fv x'=q at *
 rw[zab Zr.h217 rfl,b217];clear h1 h2 h3 h1' h2' h3' e1 l1 l3 hne;simp -implicitDefEqProofs[hp,hp',c3,c4,c5]
theorem zqf(x x':Fz)(hx:fsz x≤1000)(hx':fsz x'≤1000):Zb T 217 [efz x,efz x']=some (efz (fz (fv x*fv x'))):=zvp (T:=T) x x' (Yf hx (by decide)) (Yf hx' (by decide))
theorem z25{n m:Bool}{x y:Nat}{d e:Nat}(hy:y≠0) :
  mkRat (sg n x) d/mkRat (sg m y) e=mkRat (sg (decide (sg n x*(e:Int)<0) != m) (sg n x*(e:Int)).natAbs) (d*y):=by
 have h1:sg (decide (sg n x*(e:Int)<0) != m) (sg n x*(e:Int)).natAbs=sg n x*(e:Int)*sg m 1:=by
  have:=zno (decide (sg n x*(e:Int)<0)) m (sg n x*(e:Int)).natAbs 1;rw[Ycq]at this;rw[this];congr 1;generalize sg n x*(e:Int)=z;by_cases h:z<0
  ·simp only[h,decide_true,sg,if_true];omega
  ·simp only[h,decide_false,sg,Y8,if_false];omega
 rw[h1,Yeg,←Yb3,←Yb3,←Yb3,Rat.inv_divInt,Rat.divInt_mul_divInt];cases m
 ·simp only[sg,Y8,if_false,Int.mul_one,Yck,Ydr]
 ·simp only[sg,if_true,Ydr,Int.mul_neg,Int.mul_one,Yck];rw[←Rat.neg_divInt_neg,Int.neg_neg]
theorem zvq(x x':Fz)(hx:fsz x≤30000)(hx':fsz x'≤30000):Zb T 218 [efz x,efz x']=some (.tup [efz (fz (fv x/fv x')),.b (decide (fv x'≠0))]):=by
 obtain⟨⟨n,a,d⟩,h1,h2,h3,hp⟩:=za7 (T:=T) x (by omega);obtain⟨⟨m,b,e⟩,h1',h2',h3',hp'⟩:=za7 (T:=T) x' (by omega);simp only at h1 hp h1' hp';have la:=zcj (n,a,d);have ld:=zcv (n,a,d);have lb:=zcj (m,b,e);have le:=zcv (m,b,e);simp only at la ld lb le;have cs:=zgg (T:=T) m b (by omega);rw[show wv m b=sg m (val b) from rfl,z1g]at cs;by_cases hb:val b=0
 ·have e0:fv x'=0:=by
   rw[←h2'];unfold fv;rw[Yev h1'];show sg m (val b)=0;rw[hb];cases m<;>rfl
  have ho:=zdp (T:=T);rw[if_pos hb]at cs;rw[e0,Yeg,Rat.inv_zero,Rat.mul_zero,zab Zr.h218 rfl,b218];clear h1 h2 h3 h1' h2' h3' e0;generalize fz 0=R at *
  simp -implicitDefEqProofs[hp,hp',cs,ho]
 ·rw[if_neg hb]at cs;have c1:=zbv (T:=T) n a e (by omega) (by omega);have c4:=zek (T:=T) d b (by omega) (by omega);have l1:(ofN (wv n a*(val e:Int)).natAbs).length≤60000:=by
   have:=za3 (x:=wv n a) (y:=(val e:Int)) (L:=30000) (M:=30000) (Yf (zbs n a) (by omega)) (Yf (zbs false e) (by omega));omega
  have l3:(ofN (val d*val b)).length≤60000:=by
   have:=zax (x:=val d) (y:=val b) (L:=30000) (M:=30000) (Yf (zad d) (by omega)) (Yf (zad b) (by omega));omega
  have hne0:fv x'≠0:=by
   rw[←h2'];unfold fv;rw[Ne,Yev h1'];show ¬ sg m (val b)=0;cases m<;>simp[sg,hb]
  have e1:fv x/fv x'=mkRat (sg (decide (wv n a*(val e:Int)<0) != m) (wv n a*(val e:Int)).natAbs) (val d*val b):=by
   rw[←h2,←h2'];exact z25 hb
  have hne:=Yc0 h1 hb;generalize wv n a*(val e:Int)=z at *
  generalize val d*val b=D at *
  have c5:=zbx (T:=T) (decide (z<0) != m) (ofN z.natAbs) (ofN D) (by omega) (by omega) (by rw[zae];exact hne);rw[show wv (decide (z<0) != m) (ofN z.natAbs)=sg (decide (z<0) != m) z.natAbs by unfold wv;rw[zae],zae,←e1]at c5;have hdec:decide (fv x'≠0)=true:=by simpa using hne0
  have hs:((if m=true then (-1:Int) else 1) == 0)=false:=by cases m<;>rfl
  rw[hdec];generalize fv x/fv x'=q at *
  rw[zab Zr.h218 rfl,b218];clear h1 h2 h3 h1' h2' h3' e1 l1 l3 hne hne0 hdec;have hs2:¬ (if m=true then (-1:Int) else 1)=0:=by cases m<;>decide
  generalize (if m=true then (-1:Int) else 1)=sgn at *
  simp -implicitDefEqProofs[hp,hp',cs,c1,c4,c5,hs,hs2]
theorem zqg(x x':Fz)(hx:fsz x≤1000)(hx':fsz x'≤1000):Zb T 218 [efz x,efz x']=some (.tup [efz (fz (fv x/fv x')),.b (decide (fv x'≠0))]):=zvq (T:=T) x x' (Yf hx (by decide)) (Yf hx' (by decide))
end
def nrm(l:List Fz):List Fz:=l.map fun x=>fz (fv x)
def fzs(l:List Rat):List Fz:=l.map fz
theorem zfs{m:List Fz}{n:Nat}(h:m.length=n)(x:Fz):wkL (Zd (List.take n m)++[Zce x])=Zd (m++[x]):=by
 rw[Yb (by omega),zfy,zla]
theorem zft{α β:Type}(l:List α)(f:α→β){i:Nat}(h:i<l.length):(l.take (i+1)).map f=(l.take i).map f++[f (l[i]'h)]:=by
 rw[Ys h,Ybb];rfl
@[simp] theorem z9c:Zih []=[]:=rfl
def Zlx(q:Rat):List UInt8:=if q.den=1 then Zk4 q.num else Zk4 q.num++47::Zbd q.den
section
variable{T:Tbl}[Zp T][Z0 T][Z3 T][Zq T][Zu T][Zay T][Zl T][Zo T][Zr T][Zcc T][Zdq T]
def Zj8(n i:Nat):St:=⟨[(3,.bs (.loc 9) 1 3 0 n),(10,.i .i64 n),(11,.i .i64 i)],[(.loc 9,⟨1,.own,3,Zd (List.replicate i (fz 0))++List.replicate (n-i) [.b false,.sl [] .an,.sl [] .an]⟩)],3⟩
theorem zw6(n:Nat)(hn:n≤300):Ze T 0 0 (.norm false [3]) l263_0 (Zj8 n 0)=some (.n,⟨[(3,.bs (.loc 9) 1 3 0 n)],[(.loc 9,⟨1,.own,3,Zd (List.replicate n (fz 0))⟩)],3⟩):=by
 refine zan (Zj8 n) n _ (fun i hi=>?_) ?_
 ·have h0:=zdp (T:=T);have hw:=za8 hi (by omega);have e:(Zd (List.replicate i (fz 0))++List.replicate (n-i) [AV.b false,.sl [] .an,.sl [] .an]).set i (Zce (fz 0))=Zd (List.replicate (i+1) (fz 0))++List.replicate (n-(i+1)) [AV.b false,.sl [] .an,.sl [] .an]:=by
   rw[Yar _ _ (by simp),zin,Yb2,Ybn,show n-i=(n-(i+1))+1 by omega,Ycr (n:=n-(i+1)),Ycw,Yd7 (n:=i),←zfy,Y7]
   rfl
  have hl:(Zd (List.replicate i (fz 0))++List.replicate (n-i) [AV.b false,.sl [] .an,.sl [] .an]).length=n:=by simp;omega
  have hk:wkL ((Zd (List.replicate i (fz 0))++List.replicate (n-i) [AV.b false,.sl [] .an,.sl [] .an]).set i (Zce (fz 0)))=(Zd (List.replicate i (fz 0))++List.replicate (n-i) [AV.b false,.sl [] .an,.sl [] .an]).set i (Zce (fz 0)):=by
   rw[e,zb1,Ybb,←zb1,zla];simp[wkR,wkA]
  have hg:(Zd (List.replicate i (fz 0))++List.replicate (n-i) [AV.b false,.sl [] .an,.sl [] .an])[i]? = some [AV.b false,.sl [] .an,.sl [] .an]:=by
   rw[Yh (by simp),zin,Yb2,Ybn,Ydj,if_pos (by omega)]
  unfold Zj8;rw[←e];clear e;generalize Zd (List.replicate i (fz 0))++List.replicate (n-i) [AV.b false,.sl [] .an,.sl [] .an]=B at *
  obtain⟨hb,hgE⟩:=Ye.1 hg;generalize fz 0=z at *
  simp -implicitDefEqProofs[l263_0,hi,hw,h0,hl,hk,hg,hgE]
 ·have e:Zd (List.replicate n (fz 0))++List.replicate (n-n) [AV.b false,.sl [] .an,.sl [] .an]=Zd (List.replicate n (fz 0)):=by simp
  unfold Zj8;rw[e];constructor<;>simp -implicitDefEqProofs[l263_0]
theorem zz2(n:Nat)(hn:n≤300):Zb T 263 [.i .i64 n]=some (.sl (Zd (List.replicate n (fz 0))) .an):=by
 have h:=zw6 (T:=T) n hn;unfold Zj8 at h;simp only[Yeh,zbu,Ya8,Yeo,Yr]at h;have m1:¬ (n:Int)<0:=by omega
 have m2:¬ (300:Int)<n:=by omega
 have m3:(n:Int)≤4294967296:=by omega
 have hz:wkL (List.replicate n [AV.b false,.sl [] .nl,.sl [] .nl])=List.replicate n [AV.b false,.sl [] .an,.sl [] .an]:=by rw[zb1,List.map_replicate];simp[wkR,wkA]
 rw[zab Zdq.h263 rfl,b263];simp -implicitDefEqProofs[m1,m2,m3,h,mm2,hz]
def Zok(l:List Fz)(i:Nat):St:=⟨[(3,.bs (.loc 3) 1 3 0 i),(6,.sl (Zd l) .an),(7,.i .i64 l.length),(8,.i .i64 i)],[(.loc 3,⟨1,.own,3,Zd (nrm (l.take i))⟩)],3⟩
def scl(c:Rat)(l:List Fz):List Fz:=l.map fun x=>fz (c*fv x)
def Zol(c:Fz)(l:List Fz)(i:Nat):St:=⟨[(2,.ptr (.loc 2) 1 3 0 0),(5,.bs (.loc 5) 2 3 0 i),(8,.sl (Zd l) .an),(9,.i .i64 l.length),(10,.i .i64 i)],[(.loc 2,⟨1,.str,3,[Zce c]⟩),(.loc 5,⟨2,.own,3,Zd (scl (fv c) (l.take i))⟩)],4⟩
def Ziq:List Fz→List Fz→Rat
 | x::a,y::b=>fv x*fv y+Ziq a b
 | _,_=>0
def Zj9(a b:List Fz)(i:Nat):Rat:=Ziq (a.take i) (b.take i)
theorem znd:∀(a b:List Fz) (x y:Fz),a.length=b.length→Ziq (a++[x]) (b++[y])=Ziq a b+fv x*fv y
 | [],[],x,y,_=>by simp[Ziq,Rat.add_zero,Rat.zero_add]
 | u::a,v::b,x,y,h=>by
  have ih:=znd a b x y (by simpa using h);simp only[Yde,Ziq,ih,Rat.add_assoc]
theorem z9d{a b:List Fz}(hab:a.length=b.length){i:Nat}(hi:i<a.length):Zj9 a b (i+1)=Zj9 a b i+fv (a[i]'hi)*fv (b[i]'(by omega)):=by
 unfold Zj9;rw[Ys hi,Ys (show i<b.length by omega)];exact znd _ _ _ _ (by simp;omega)
abbrev Zfw:List AV:=[.b false,.sl [] .an,.sl [] .an]
def Zom(a b:List Fz)(i:Nat):St:=⟨[(1,.sl (Zd b) .an),(4,.ptr (.loc 4) 1 3 0 0),(6,.ptr (.loc 6) 2 3 0 0),(16,.sl (Zd a) .an),(17,.i .i64 a.length),(18,.i .i64 i)],
 [(.loc 4,⟨1,.str,3,[Zfw]⟩),(.loc 6,⟨2,.str,3,[Zce (fz (Zj9 a b i))]⟩)],4⟩
def Zjb(a b:List Fz)(i:Nat):St:=⟨[(0,.sl (Zd a) .an),(1,.sl (Zd b) .an),(12,.i .i64 a.length),(13,.i .i64 i)],[],2⟩
theorem zw7(a b:List Fz)(hab:a.length=b.length)(hl:a.length≤1000)(ha:∀x∈a,fsz x≤1000)(hb:∀x∈b,fsz x≤1000) :
  Ze T 0 0 (.norm false []) l265_0 (Zjb a b 0)=if (a.drop 0).map fv=(b.drop 0).map fv then some (.n,⟨[],[],2⟩) else some (.r,⟨[(4,.b false)],[],2⟩):=by
 refine za4 (Zjb a b) a.length (fun i=>if (a.drop i).map fv=(b.drop i).map fv then some (.n,⟨[],[],2⟩) else some (.r,⟨[(4,.b false)],[],2⟩)) (fun i hi=>?_) ?_
 ·have hga:a[i]? = some (a[i]'hi):=Ya hi;have hib:i<b.length:=by omega
  have hgb:b[i]? = some (b[i]'hib):=Ya hib;have hws:=za8 hi (by omega);have c:=zvl (T:=T) (a[i]'hi) (b[i]'hib) (ha _ (Y2 hi)) (hb _ (Y2 hib));have hib':(i:Int)<b.length:=by omega
  have key:((a.drop i).map fv=(b.drop i).map fv)↔(fv (a[i]'hi)=fv (b[i]'hib)∧(a.drop (i+1)).map fv=(b.drop (i+1)).map fv):=by
   rw[Yd hi,Yd hib,Y3,Y3,List.cons.injEq]
  by_cases he:fv (a[i]'hi)=fv (b[i]'hib)
  ·left;refine⟨?_,by simp only[key,he,true_and]⟩;unfold Zjb;simp -implicitDefEqProofs[l265_0,hi,hga,hgb,hws,c,he,hib,hib']
  ·right;rw[if_neg (fun h=>he (key.1 h).1)];unfold Zjb;constructor<;>simp -implicitDefEqProofs[l265_0,hi,hga,hgb,hws,c,he,hib,hib']
 ·rw[Y0,if_pos (by rw[hab,Y0])];unfold Zjb;constructor<;>simp -implicitDefEqProofs[l265_0]
theorem zz3(a b:List Fz)(hl:a.length≤1000)(ha:∀x∈a,fsz x≤1000)(hb:∀x∈b,fsz x≤1000) :
  Zb T 265 [.sl (Zd a) .an,.sl (Zd b) .an]=some (.b (decide (a.map fv=b.map fv))):=by
 rw[zab Zdq.h265 rfl,b265];by_cases hab:a.length=b.length
 ·have h:=zw7 (T:=T) a b hab hl ha hb;rw[Yae,Yae]at h;unfold Zjb at h;simp at h;have hab':(b.length:Int)=a.length:=by omega
  by_cases he:a.map fv=b.map fv
  ·rw[if_pos he]at h;simp -implicitDefEqProofs[hab',h,he]
  ·rw[if_neg he]at h;simp -implicitDefEqProofs[hab',h,he]
 ·have he:¬ a.map fv=b.map fv:=fun h=>hab (by simpa using congrArg List.length h);have hab':¬ (a.length:Int)=b.length:=by omega
  simp -implicitDefEqProofs[hab,hab',he]
def Zmv(l:List Fz):List (List UInt8):=l.map fun x=>Zlx (fv x)
def Zon(l:List Fz)(i:Nat):St:=⟨[(3,.bs (.loc 3) 1 1 0 i),(6,.sl (Zd l) .an),(7,.i .i64 l.length),(8,.i .i64 i)],[(.loc 3,⟨1,.own,1,Zih (Zmv (l.take i))⟩)],3⟩
end
theorem z32{l:List Rat}{i:Nat}{q:Rat}(h:l[i]? = some q):(fzs l)[i]? = some (fz q):=by
 unfold fzs;rw[Ybk,h]
 rfl
@[simp] theorem za2(l:List Rat):(fzs l).length=l.length:=by simp[fzs]
theorem zpe(l:List Fz):nrm l=fzs (l.map fv):=by unfold nrm fzs;rw[Ye8];rfl
def Zmw(c:Rat)(acc:List Rat)(r:List Fz):List Rat:=List.zipWith (fun q x=>q+c*fv x) acc r
def Zkr(acc:List Rat)(r:List Fz):List Rat:=List.zipWith (fun q x=>q+fv x) acc r
section
variable{T:Tbl}[Zp T][Z0 T][Z3 T][Zq T][Zu T][Zay T][Zl T][Zo T][Zr T][Zcc T][Zdq T]
def Zoo(k j n:Nat)(rest:List (List Fz))(r:List Fz)(L acc:List Rat)(i:Nat):St:=
 ⟨[(4,.bs (.fld (.loc 15) 3) 1 3 0 n),(17,.sl (Zbf rest) .an),(18,.i .i64 k),(19,.i .i64 j),(28,.sl (Zd r) .an),(29,.i .i64 n),(30,.i .i64 i)],
  [(.fld (.loc 15) 3,⟨1,.own,3,Zd (fzs (L.take i++acc.drop i))⟩)],3⟩
def Zop(n:Nat)(rest:List (List Fz))(acc:List Rat)(j:Nat):St:=
 ⟨[(4,.bs (.fld (.loc 15) 3) 1 3 0 n),(17,.sl (Zbf rest) .an),(18,.i .i64 rest.length),(19,.i .i64 j)],[(.fld (.loc 15) 3,⟨1,.own,3,Zd (fzs ((rest.take j).foldl Zkr acc))⟩)],3⟩
end
def Zmq(p:List (Fz×List Fz))(acc:List Rat):List Rat:=p.foldl (fun a q=>Zmw (fv q.1) a q.2) acc
section
variable{T:Tbl}[Zp T][Z0 T][Z3 T][Zq T][Zu T][Zay T][Zl T][Zo T][Zr T][Zcc T][Zdq T]
def Zod(C:List Fz)(k j n:Nat)(l:List (List Fz))(r:List Fz)(L acc:List Rat)(i:Nat):St:=
 ⟨[(0,.sl (Zd C) .an),(10,.bs (.fld (.loc 40) 9) 1 3 0 n),(11,.i .i64 k),(41,.sl (Zbf l) .an),(42,.i .i64 j),(43,.i .i64 k),(54,.sl (Zd r) .an),(55,.i .i64 n),(56,.i .i64 i)],
  [(.fld (.loc 40) 9,⟨1,.own,3,Zd (fzs (L.take i++acc.drop i))⟩)],3⟩
def Zoe(C:List Fz)(n:Nat)(l:List (List Fz))(acc:List Rat)(k:Nat):St:=
 ⟨[(0,.sl (Zd C) .an),(10,.bs (.fld (.loc 40) 9) 1 3 0 n),(41,.sl (Zbf l) .an),(42,.i .i64 l.length),(43,.i .i64 k)],[(.fld (.loc 40) 9,⟨1,.own,3,Zd (fzs (Zmq ((C.zip l).take k) acc))⟩)],3⟩
def Zof(C:List Fz)(l:List (List Fz))(n i:Nat):St:=⟨[(0,.sl (Zd C) .an),(1,.sl (Zbf l) .an),(2,.i .i64 n),(28,.sl (Zbf l) .an),(29,.i .i64 l.length),(30,.i .i64 i)],[],2⟩
end
abbrev agS(t h:Fz)(y0 y1 f0 f1:List Fz):AV:=
 .agg [.b t.1,.sl (Za t.2.1) .an,.sl (Za t.2.2) .an,.b h.1,.sl (Za h.2.1) .an,.sl (Za h.2.2) .an,.sl (Zd y0) .an,.sl (Zd y1) .an,.sl (Zd f0) .an,.sl (Zd f1) .an]
def Zlz(l:List Fz):Rat:=l.foldl (fun p x=>p*fv x) 1
section
variable{T:Tbl}[Zp T][Z0 T][Z3 T][Zq T][Zu T][Zay T][Zl T][Zo T][Zr T][Zcc T][Zdq T][Zlo T]
def Zov(l:List Fz)(i:Nat):St:=⟨[(2,.ptr (.loc 2) 1 3 0 0),(3,.ptr (.loc 3) 2 3 0 0),(7,.sl (Zd l) .an),(8,.i .i64 l.length),(9,.i .i64 i)],[(.loc 2,⟨1,.str,3,[Zfw]⟩),(.loc 3,⟨2,.str,3,[Zce (fz (Zlz (l.take i)))]⟩)],4⟩
def Zm1(h:Fz)(y0 y1 f0 f1:List Fz):Bool:=decide (0<fv h)&&decide (y0.length≤300)&&decide (y1.length=y0.length)&&decide (f0.length=y0.length)&&decide (f1.length=y0.length)
end
theorem zjm(a b:List AV):wkR (a++b)=wkR a++wkR b:=by rw[zkq,zkq,zkq,Ybb]
abbrev tyS:Ty:=.cons tyF (.cons tyF (.cons (.sl tyF) (.cons (.sl tyF) (.cons (.sl tyF) (.cons (.sl tyF) .nil)))))
class Zlm (T:Tbl):Prop where
end Go.Ab
section
namespace Go.Ab
end Go.Ab
end
namespace Go.Ab
section
variable{T:Tbl}
theorem zsj(m:Nat)(hm:m%2=1)(K:Nat)(hK:2^K*m<4294967296)(hK2:K≤32):∀v:Nat,v≤K →
  Ze T 0 0 (.norm false [3]) l224_0 ⟨[(0,u32 (2^v*m)),(3,.i .i64 (K-v:Nat))],[],2⟩=some (.n,⟨[(3,.i .i64 K)],[],2⟩):=by
 refine zaw (fun v:Nat=>⟨[(0,u32 (2^v*m)),(3,.i .i64 (K-v:Nat))],[],2⟩) _ (fun v=>v) _ ?_;intro v hv;cases v with
 | zero=>
  right;rw[Yc1,Yc2,Yeo];constructor<;>simp -implicitDefEqProofs[l224_0,hm]
 | succ v=>
  left;have hle:2^(v+1)*m≤2^K*m:=Yaf _ (Y4 (by decide) hv);have e:2^(v+1)*m=2^v*m*2:=by rw[Yy,Yz,Yai 2 m,Yz]
  have hw:IntKind.wrap .i64 (((K-(v+1):Nat):Int)+1)=((K-v:Nat):Int):=by rw[zac _ (by omega)];omega
  refine⟨v,by omega,Y6 v,?_,rfl⟩;rw[e]at hle ⊢;generalize 2^v*m=x at *
  have e1:x*2%2=0:=by omega
  have e2:x*2/2%4294967296=x:=by omega
  have e3:x<4294967296:=by omega
  simp -implicitDefEqProofs[l224_0,e1,e2,e3,hw]
end
section
variable{T:Tbl}[Z5 T]
theorem zo2(m K:Nat)(hm:m%2=1)(hK:2^K*m<4294967296):Zb T 224 [u32 (2^K*m)]=some (.i .i64 K):=by
 have hK2:K≤32:=by
  rcases Yp 32 K with h | h
  ·have h1:2^32≤2^K:=Y4 (by decide) (by omega);have h2:2^K≤2^K*m:=Ycm _ (by omega);have h3:(2:Nat)^32=4294967296:=rfl;omega
  ·exact h
 have h:=zsj (T:=T) m hm K hK hK2 K (Yg _);rw[Ybn]at h;simp only[Yr]at h;have h0:2^K*m≠0:=Yc0 (by have:=Ya4 (n:=K) (show 0<2 by decide);omega) (by omega);rw[zab Z5.h224 rfl,b224];generalize 2^K*m=x at *
 simp -implicitDefEqProofs[h,h0]
end
theorem zo3{P m a S:List UInt32}{i:Nat}(hm:m.length=i)(hi:i<a.length):(P++(m++(a.drop i++S)))[P.length+i]? = some (a[i]'hi):=by
 rw[Yh (by omega),Y9,Yh (by omega),hm,Ybn,Yd hi]
 rfl
theorem zzs{P m a S:List UInt32}{i:Nat}(hm:m.length=i)(hi:i+1<a.length):(P++(m++(a.drop i++S)))[P.length+(i+1)]? = some (a[i+1]'hi):=by
 rw[Yh (by omega),Y9,Yh (by omega),hm,Y9,Yd (show i<a.length by omega),Yd hi]
 rfl
theorem zo4{P m a S:List UInt32}{i:Nat}(hm:m.length=i)(hi:i<a.length)(w:UInt32):(P++(m++(a.drop i++S))).set (P.length+i) w=P++((m++[w])++(a.drop (i+1)++S)):=by
 rw[Yar _ _ (by omega),Y9,Yar _ _ (by omega),hm,Ybn,Yd hi,Yde,Ycw];simp
section
variable{T:Tbl}
def Zg5(Q:List UInt32)(o n s i:Nat):St:=⟨[(0,.bs (.bor 0) 0 1 o n),(1,.i .i64 s),(5,.i .i64 i)],[(.bor 0,⟨0,.own,1,Za Q⟩)],4⟩
theorem zzt(Q:List UInt32)(o n s i:Nat)(x y:UInt32)(hi:i+1<n)(hn:n≤1000000)(hs:s<32)(hx:Q[o+i]? = some x)(hy:Q[o+(i+1)]? = some y) :
  evX (orc T) T 1 l225_0 (Zg5 Q o n s i)=some (.n,Zg5 (Q.set (o+i) (w32 ((x.toNat+y.toNat*4294967296)/2^s%4294967296))) o n s (i+1)):=by
 have h1:(i:Int)<n:=by omega
 have h2:(i:Int)+1<n:=by omega
 have hw:IntKind.wrap .i64 ((i:Int)+1)=((i+1:Nat):Int):=zac _ (by omega);have lx:=zaj x;have ly:=zaj y;have m2:y.toNat*4294967296%18446744073709551616=y.toNat*4294967296:=Yi (by omega);have m3:(y.toNat*4294967296+x.toNat)%18446744073709551616=x.toNat+y.toNat*4294967296:=by rw[Ya6];exact Yi (by omega)
 have hmin:min s 64=s:=by omega
 obtain⟨b1,hgx⟩:=Ye.1 hx;have i1:i<n:=by omega
 unfold Zg5;simp -implicitDefEqProofs[l225_0,h1,h2,i1,hi,hw,hx,hy,m2,m3,hmin,b1,hgx,zeo]
theorem zzu(Q:List UInt32)(o n s i:Nat)(x:UInt32)(hi:i+1=n)(hn:n≤1000000)(hs:s<32)(hx:Q[o+i]? = some x) :
  evX (orc T) T 1 l225_0 (Zg5 Q o n s i)=some (.n,Zg5 (Q.set (o+i) (w32 (x.toNat/2^s%4294967296))) o n s (i+1)):=by
 have h1:(i:Int)<n:=by omega
 have h2:¬ (i:Int)+1<n:=by omega
 have hw:IntKind.wrap .i64 ((i:Int)+1)=((i+1:Nat):Int):=zac _ (by omega);have hmin:min s 64=s:=by omega
 obtain⟨b1,hgx⟩:=Ye.1 hx;have i1:i<n:=by omega
 have i2:¬ i+1<n:=by omega
 unfold Zg5;simp -implicitDefEqProofs[l225_0,h1,h2,i1,i2,hw,hx,hmin,b1,hgx,zeo]
theorem z3p(P a S:List UInt32)(s:Nat)(hs:s<32)(hl:a.length≤1000000):∀y:Nat×List UInt32,
  (y.1≤a.length∧y.2.length=y.1∧val y.2+4294967296^y.1*(val (a.drop y.1)/2^s)=val a/2^s) →
  ∃r,(∃m:List UInt32,r=(Ex.n,(⟨[(0,.bs (.bor 0) 0 1 P.length a.length)],[(.bor 0,⟨0,.own,1,Za (P++(m++S))⟩)],4⟩:St))∧m.length=a.length∧val m=val a/2^s) ∧
   Ze T 1 0 (.norm false [0]) l225_0 (Zg5 (P++(y.2++(a.drop y.1++S))) P.length a.length s y.1)=some r:=by
 refine zam (fun y:Nat×List UInt32=>Zg5 (P++(y.2++(a.drop y.1++S))) P.length a.length s y.1) _ (fun y=>a.length-y.1) _ ?_
 rintro⟨i,m⟩ ⟨hi,hm,hv⟩
 simp only at hi hm hv;by_cases h0:i<a.length
 ·left;have hx:=zaj (a[i]'h0);have hd:=Yd h0;have fin:∀y R:Nat,val (a.drop (i+1))=y+4294967296*R→val (m++[w32 (((a[i]'h0).toNat+y*4294967296)/2^s%4294967296)])+4294967296^(i+1)*(val (a.drop (i+1))/2^s)=val a/2^s:=by
   intro y R hR;have hmod:((a[i]'h0).toNat+y*4294967296)/2^s%4294967296<4294967296:=Ya5 _ (by decide);have hdw:=znk (x:=(a[i]'h0).toNat) (y:=y) (R:=R) hs hx;rw[hd,zai,hR,hdw,←hR]at hv;rw[zah,hm,Yy];rw[zai,za6,Yah,Yt,zag hmod];rw[Yu]at hv;rw[←hv,Yz,Yal]
  by_cases h1:i+1<a.length
  ·have hd1:=Yd h1;refine⟨(i+1,m++[w32 (((a[i]'h0).toNat+(a[i+1]'h1).toNat*4294967296)/2^s%4294967296)]),⟨h0,by simp[hm],fin _ (val (a.drop (i+1+1))) (by rw[hd1,zai])⟩,by simp only;omega,?_⟩;simp only;rw[zzt _ _ _ _ _ _ _ h1 hl hs (zo3 hm h0) (zzs hm h1),zo4 hm h0]
  ·have f0:=fin 0 0 (by rw[Yak (by omega),za6,Yah]);rw[Ycx,Yt]at f0;refine⟨(i+1,m++[w32 ((a[i]'h0).toNat/2^s%4294967296)]),⟨h0,by simp[hm],f0⟩,by simp only;omega,?_⟩;simp only;rw[zzu _ _ _ _ _ _ (by omega) hl hs (zo3 hm h0),zo4 hm h0]
 ·right;have:i=a.length:=by omega
  subst this;rw[Y0,za6,Nat.zero_div,Yah,Yt]at hv;refine⟨_,⟨m,rfl,hm,hv⟩,?_,?_⟩<;>simp -implicitDefEqProofs[l225_0,Zg5]
theorem zsk(P a S:List UInt32)(hl:a.length≤1000000){n:Nat}(hn:n≤a.length)(h0:∀(i:Nat) (x:UInt32),n≤i→a[i]? = some x→x.toNat=0)(h1:∀x:UInt32,0<n→a[n-1]? = some x→x.toNat≠0) :
  ∀k:Nat,(n≤k∧k≤a.length)→Ze T 1 2 (.norm false [0]) l225_1 ⟨[(0,.bs (.bor 0) 0 1 P.length k)],[(.bor 0,⟨0,.own,1,Za (P++(a++S))⟩)],4⟩ =
   some (.n,⟨[(0,.bs (.bor 0) 0 1 P.length n)],[(.bor 0,⟨0,.own,1,Za (P++(a++S))⟩)],4⟩):=by
 refine zaw (fun k:Nat=>⟨[(0,.bs (.bor 0) 0 1 P.length k)],[(.bor 0,⟨0,.own,1,Za (P++(a++S))⟩)],4⟩) _ (fun k=>k) _ ?_
 rintro k ⟨hk,hka⟩
 have hget:∀j,j<a.length→(P++(a++S))[P.length+j]? = a[j]? := by
  intro j hj;rw[Yh (by omega),Y9,Ym hj]
 by_cases h2:k=0
 ·right;have:n=0:=by omega
  subst this;subst h2;generalize P++(a++S)=Q at *
  constructor<;>simp -implicitDefEqProofs[l225_1]
 ·have hw:IntKind.wrap .i64 ((k:Int)-1)=((k-1:Nat):Int):=by rw[zac _ (by omega)];omega
  have hg:a[k-1]? = some (a[k-1]'(by omega)):=Ya _;have hq:=hget (k-1) (by omega);rw[hg]at hq;have hpos:0<k:=by omega
  have hlt:k-1<k:=by omega
  generalize P++(a++S)=Q at *
  by_cases h3:k=n
  ·right;subst h3;have hx:=h1 _ hpos hg;constructor<;>simp -implicitDefEqProofs[l225_1,hpos,hw,hq,hx,hlt]
  ·left;have hx:=h0 (k-1) _ (by omega) hg;refine⟨k-1,⟨by omega,by omega⟩,hlt,?_,rfl⟩;simp -implicitDefEqProofs[l225_1,hpos,hw,hq,hx,hlt]
end
section
variable{T:Tbl}[Z5 T]
theorem zsl(P a S:List UInt32)(s:Nat)(hs:s<32)(hl:a.length≤1000000) :
  ∃S',S'.length+(ofN (val a/2^s)).length=a.length+S.length ∧
   Z6 T 225 [.bs (.bor 0) 0 1 P.length a.length,.i .i64 s] [(.bor 0,⟨0,.own,1,Za (P++(a++S))⟩)] =
    some (.bs (.bor 0) 0 1 P.length (ofN (val a/2^s)).length,[(.bor 0,⟨0,.own,1,Za (P++(ofN (val a/2^s)++S'))⟩)]):=by
 obtain⟨_,⟨m,rfl,hm,hv⟩,hr⟩:=z3p (T:=T) P a S s hs hl (0,[]) ⟨Yq _,rfl,by simp⟩;obtain⟨n,h1,h2,h3,h4⟩:=zep m;have ht:=zsk (T:=T) P m S (by omega) h1 h3 h4 m.length ⟨h1,Yg _⟩;rw[hv]at h2;have hlen:(ofN (val a/2^s)).length=n:=by rw[←h2];simp;omega
 have e:P++(m++S)=P++(ofN (val a/2^s)++(m.drop n++S)):=by rw[←h2,←Y7 (m.take n),Yao]
 refine⟨m.drop n++S,by simp;omega,?_⟩;rw[hlen,←e];rw[hm]at ht;unfold Zg5 at hr;simp only[Ya8,Yae,Yr]at hr;rw[zao Z5.h225 rfl,b225];clear e h3 h4 h2;generalize P++(m++S)=Q at *
 generalize P++(a++S)=R at *
 simp -implicitDefEqProofs[hr,ht]
theorem zh6{P a S:List UInt32}{j:Nat}(hj:j<a.length):(P++(a++S))[P.length+j]? = a[j]? := by
 rw[Yh (by omega),Y9,Ym hj]
theorem zsm(Q:List UInt32)(o n j0:Nat)(hn:n≤1000000)(hj:j0<n)(hz:∀j,j<j0→∃x:UInt32,Q[o+j]? = some x∧x.toNat=0)(h1:∃x:UInt32,Q[o+j0]? = some x∧x.toNat≠0) :
  ∀j:Nat,j≤j0→Ze T 1 0 (.norm false [0,4]) l226_0 ⟨[(0,.bs (.bor 0) 0 1 (o+j) (n-j)),(4,.i .i64 (32*j:Nat))],[(.bor 0,⟨0,.own,1,Za Q⟩)],4⟩ =
   some (.n,⟨[(0,.bs (.bor 0) 0 1 (o+j0) (n-j0)),(4,.i .i64 (32*j0:Nat))],[(.bor 0,⟨0,.own,1,Za Q⟩)],4⟩):=by
 refine zaw (fun j:Nat=>⟨[(0,.bs (.bor 0) 0 1 (o+j) (n-j)),(4,.i .i64 (32*j:Nat))],[(.bor 0,⟨0,.own,1,Za Q⟩)],4⟩) _ (fun j=>j0-j) _ ?_;intro j hj2;have hpos:0<n-j:=by omega
 by_cases h:j=j0
 ·right;subst h;obtain⟨x,hx,hx0⟩:=h1;constructor<;>simp -implicitDefEqProofs[l226_0,hpos,hx,hx0]
 ·left;obtain⟨x,hx,hx0⟩:=hz j (by omega);have hw:IntKind.wrap .i64 (((32*j:Nat):Int)+32)=((32*(j+1):Nat):Int):=by rw[zac _ (by omega)];omega
  have e1:1<n-j:=by omega
  have e2:n-j-1=n-(j+1):=by omega
  have e3:(1:Int)≤((n-j:Nat):Int):=by omega
  refine⟨j+1,by omega,by show j0-(j+1)<j0-j;omega,?_,rfl⟩;generalize 32*j=c at *
  generalize 32*(j+1)=c' at *
  rw[←Yal,←e2];generalize n-j=k at *
  have e4:1≤k:=by omega
  simp -implicitDefEqProofs[l226_0,hpos,hx,hx0,hw,e1,e3,e4]
theorem zm6:∀(a:List UInt32),val a≠0→∃j,∃h:j<a.length,(∀i (hi:i<j),(a[i]'(by omega)).toNat=0)∧(a[j]'h).toNat≠0∧val a=4294967296^j*val (a.drop j)
 | [],h=>by simp at h
 | x::a,h=>by
  by_cases hx:x.toNat=0
  ·have h2:val a≠0:=by
    intro e;apply h;rw[zai,hx,e]
   obtain⟨j,hj,h3,h4,h5⟩:=zm6 a h2;refine⟨j+1,by simpa using hj,?_,by simpa using h4,?_⟩
   ·intro i hi;cases i with
    | zero=>simpa using hx
    | succ i=>simpa using h3 i (by omega)
   ·rw[zai,hx,h5,Ycs,Yy,Yax,Yai (4294967296^j) 4294967296,Yz]
  ·exact⟨0,by simp,fun i hi=>by omega,by simpa using hx,by simp⟩
theorem zfr(P a S:List UInt32)(hl:a.length≤100000)(h:val a≠0):∃(P' S':List UInt32) (m k:Nat),val a=2^k*m∧m%2=1∧k≤32*a.length∧(ofN m).length≤a.length∧P'.length+(ofN m).length+S'.length=P.length+a.length+S.length ∧
  Z6 T 226 [.bs (.bor 0) 0 1 P.length a.length] [(.bor 0,⟨0,.own,1,Za (P++(a++S))⟩)] =
   some (.tup [.bs (.bor 0) 0 1 P'.length (ofN m).length,.i .i64 k],[(.bor 0,⟨0,.own,1,Za (P'++(ofN m++S'))⟩)]):=by
 obtain⟨j,hj,hz,hne,hv⟩:=zm6 a h;obtain⟨s,c,hsc,hc⟩:=z0n hne;have hx:=zaj (a[j]'hj);have hs:s<32:=by
  rcases Yp s 32 with h1 | h1
  ·exact h1
  ·have h2:2^32≤2^s:=Y4 (by decide) h1;have h3:2^s≤2^s*c:=Ycm _ (by omega);have h4:(2:Nat)^32=4294967296:=rfl;omega
 have hd:=Yd hj
 -- the rest is odd
 have hm:∃m,val (a.drop j)=2^s*m∧m%2=1:=by
  refine⟨c+2^(32-s)*val (a.drop (j+1)),?_,?_⟩
  ·rw[hd,zai,hsc,Yu,←Yz,←Ybj,show s+(32-s)=32 by omega]
  ·have:2^(32-s)=2*2^(31-s):=by rw[←Nat.pow_succ'];congr 1;omega
   rw[this,Yz];omega
 obtain⟨m,hm1,hm2⟩:=hm;have hdiv:val (a.drop j)/2^s=m:=by rw[hm1,Ye0 _ (Ya4 (by decide))]
 have hlen:(a.drop j).length=a.length-j:=by simp
 obtain⟨S',hS',hdown⟩:=zsl (T:=T) (P++a.take j) (a.drop j) S s hs (by omega);rw[hdiv]at hS' hdown;have hPl:(P++a.take j).length=P.length+j:=by simp;omega
 have hbox:(P++a.take j)++(a.drop j++S)=P++(a++S):=by
  rw[Y7,←Y7 (a.take j),Yao]
 rw[hPl,hlen,hbox]at hdown;have hml:(ofN m).length≤a.length:=by
  have h1:m≤val (a.drop j):=by rw[hm1];exact Ydv _ (Ya4 (by decide))
  have h2:=zaq h1;have h3:=zad (a.drop j);omega
 refine⟨P++a.take j,S',m,32*j+s,?_,hm2,by omega,hml,by simp at hS' ⊢;omega,?_⟩
 ·rw[hv,hm1,znh,Ybj,Yz]
 ·have hst:=zsm (T:=T) (P++(a++S)) P.length a.length j (by omega) hj (fun i hi=>⟨_,by rw[zh6 (by omega)];exact Ya (by omega),hz i hi⟩) ⟨_,by rw[zh6 hj];exact Ya hj,hne⟩ 0 (Yq _);have hzr:=zo2 (T:=T) c s hc (by rw[←hsc];exact hx);rw[←hsc]at hzr;have hg:(P++(a++S))[P.length+j]? = some (a[j]'hj):=by rw[zh6 hj];exact Ya hj
  have hpos:0<a.length-j:=by omega
  have hw:IntKind.wrap .i64 (((32*j:Nat):Int)+s)=((32*j+s:Nat):Int):=by rw[zac _ (by omega)];omega
  simp only[Yah,Yt,Yeo,Yr]at hst;rw[hPl,zao Z5.h226 rfl,b226];generalize a[j]'hj=x at *
  clear hsc hv hm1 hd hz hne hbox hS' h hdiv hx;generalize 32*j=c1 at *
  generalize c1+s=c2 at *
  generalize P++(a++S)=Q at *
  generalize P++a.take j++(ofN m++S')=Q' at *
  simp -implicitDefEqProofs[hst,hzr,hg,hpos,hw,hdown]
end
theorem z1b{P m a S b:List UInt32}{i c s d:Nat}(hm:m.length=i)(h0:i<a.length)(hv:val m+val (b.take i)=val (a.take i)+4294967296^i*c)(hs:s<4294967296)(h:s+(atW b i+c)=(a[i]'h0).toNat+4294967296*d) :
  val (m++[w32 s])+val (b.take (i+1))=val (a.take (i+1))+4294967296^(i+1)*d:=by
 have e1:=zaf (Ya h0);have e2:=zbe b i;rw[zah,hm,e1,e2,Yy];simp only[zai,za6,Yah,Yt,zag hs];generalize 4294967296^i=p at *
 have e3:p*s+p*(atW b i+c)=p*(a[i]'h0).toNat+p*4294967296*d:=by rw[←Yu,h,Yu,Yz]
 rw[Yu]at e3;omega
section
variable{T:Tbl}[Zx T][Zab T][Zw T][Z9 T][Z5 T]
def Zio(Q R:List UInt32)(o n o2 n2 c i:Nat):St:=⟨[(0,.bs (.bor 0) 0 1 o n),(1,.bs (.bor 1) 1 1 o2 n2),(4,u64 c),(5,.i .i64 i)],[(.bor 0,⟨0,.own,1,Za Q⟩),(.bor 1,⟨1,.own,1,Za R⟩)],6⟩
theorem z3q(Q R b:List UInt32)(o n o2 n2 c i:Nat)(x:UInt32)(hi:i<n)(hn:n≤1000000)(hb:b.length≤1000000)(hc:c≤1)(hx:Q[o+i]? = some x)(hR:List.take n2 (List.drop o2 R)=b)(hR2:o2+n2≤R.length) :
  evX (orc T) T 2 l2097_0 (Zio Q R o n o2 n2 c i)=some (.n,Zio (Q.set (o+i) (w32 (if x.toNat<atW b i+c then x.toNat+4294967296-(atW b i+c) else x.toNat-(atW b i+c)))) R o n o2 n2 (if x.toNat<atW b i+c then 1 else 0) (i+1)):=by
 have h1:(i:Int)<n:=by omega
 have hw:IntKind.wrap .i64 ((i:Int)+1)=((i+1:Nat):Int):=zac _ (by omega);have cb:=zc0 (T:=T) b i hb;have lx:=zaj x;have lb:=zh4 b i;generalize atW b i=y at *
 have m2:y%18446744073709551616=y:=Yi (by omega);have m3:(y+c)%18446744073709551616=y+c:=Yi (by omega);have m4:(x.toNat+4294967296)%18446744073709551616=x.toNat+4294967296:=Yi (by omega);obtain⟨b1,hgx⟩:=Ye.1 hx;unfold Zio;by_cases hlt:x.toNat<y+c
 ·have hs:Zdd (x.toNat+4294967296) (y+c)=x.toNat+4294967296-(y+c):=zeh (by omega) (by omega);simp -implicitDefEqProofs[l2097_0,h1,hi,hw,cb,m2,m3,m4,hx,b1,hgx,hR,hR2,hlt,hs]
 ·have hs:Zdd x.toNat (y+c)=x.toNat-(y+c):=zeh (by omega) (by omega);simp -implicitDefEqProofs[l2097_0,h1,hi,hw,cb,m2,m3,m4,hx,b1,hgx,hR,hR2,hlt,hs]
theorem z3r(P a S R b:List UInt32)(o2 n2:Nat)(hl:a.length≤1000000)(hb:b.length≤1000000)(hR:List.take n2 (List.drop o2 R)=b)(hR2:o2+n2≤R.length):∀y:Nat×Nat×List UInt32,
  (y.1≤a.length∧y.2.1≤1∧y.2.2.length=y.1∧val y.2.2+val (b.take y.1)=val (a.take y.1)+4294967296^y.1*y.2.1) →
  ∃r,(∃(c:Nat) (m:List UInt32),r=(Ex.n,(⟨[],[(.bor 0,⟨0,.own,1,Za (P++(m++S))⟩),(.bor 1,⟨1,.own,1,Za R⟩)],6⟩:St)) ∧
   m.length=a.length∧c≤1∧val m+val (b.take a.length)=val a+4294967296^a.length*c) ∧
   Ze T 2 0 (.norm false []) l2097_0 (Zio (P++(y.2.2++(a.drop y.1++S))) R P.length a.length o2 n2 y.2.1 y.1)=some r:=by
 refine zam (fun y:Nat×Nat×List UInt32=>Zio (P++(y.2.2++(a.drop y.1++S))) R P.length a.length o2 n2 y.2.1 y.1) _ (fun y=>a.length-y.1) _ ?_
 rintro⟨i,c,m⟩ ⟨hi,hc,hm,hv⟩
 simp only at hi hc hm hv;by_cases h0:i<a.length
 ·left;have lx:=zaj (a[i]'h0);have lb:=zh4 b i;have hstep:=z3q (T:=T) (P++(m++(a.drop i++S))) R b P.length a.length o2 n2 c i (a[i]'h0) h0 hl hb hc (zo3 hm h0) hR hR2;rw[zo4 hm h0]at hstep;by_cases hlt:(a[i]'h0).toNat<atW b i+c
  ·rw[if_pos hlt,if_pos hlt]at hstep;exact⟨(i+1,1,m++[w32 ((a[i]'h0).toNat+4294967296-(atW b i+c))]),⟨h0,Yg _,by simp[hm],by simp only;exact z1b (P:=P) (S:=S) hm h0 hv (by omega) (by omega)⟩,by simp only;omega,hstep⟩
  ·rw[if_neg hlt,if_neg hlt]at hstep;exact⟨(i+1,0,m++[w32 ((a[i]'h0).toNat-(atW b i+c))]),⟨h0,Yq _,by simp[hm],by simp only;exact z1b (P:=P) (S:=S) hm h0 hv (by omega) (by omega)⟩,by simp only;omega,hstep⟩
 ·right;have:i=a.length:=by omega
  subst this;rw[Yb (Yg a.length)]at hv;refine⟨_,⟨c,m,rfl,hm,hc,hv⟩,?_,?_⟩<;>simp -implicitDefEqProofs[l2097_0,Zio]
theorem zh7(P a S P2 b S2:List UInt32)(hl:a.length≤1000000)(hb:b.length≤a.length)(hab:val b≤val a) :
  ∃m:List UInt32,m.length=a.length∧val m=val a-val b ∧
   Z6 T 2097 [.bs (.bor 0) 0 1 P.length a.length,.bs (.bor 1) 1 1 P2.length b.length] [(.bor 0,⟨0,.own,1,Za (P++(a++S))⟩),(.bor 1,⟨1,.own,1,Za (P2++(b++S2))⟩)] =
    some (.tup [],[(.bor 0,⟨0,.own,1,Za (P++(m++S))⟩),(.bor 1,⟨1,.own,1,Za (P2++(b++S2))⟩)]):=by
 obtain⟨_,⟨c,m,rfl,hm,hc,hv⟩,hr⟩:=z3r (T:=T) P a S (P2++(b++S2)) b P2.length b.length hl (by omega) (by simp) (by simp) (0,0,[]) ⟨Yq _,Yq _,rfl,by simp⟩;rw[Yb hb]at hv;have hlo:=za0 m;rw[hm]at hlo;have hval:val m=val a-val b:=by
  rcases Yat c with h1 | h1
  ·subst h1;omega
  ·have:c=1:=by omega
   subst this;omega
 refine⟨m,hm,hval,?_⟩;unfold Zio at hr;simp only[Ya8,Yae,Yr]at hr;rw[zao Z5.h2097 rfl,b2097];generalize P++(a++S)=Q at *
 generalize P++(m++S)=Q2 at *
 generalize P2++(b++S2)=R at *
 clear hv hlo hval;simp -implicitDefEqProofs[hr]
theorem zm7(a:List UInt32):Zb T 229 [.sl (Za (ofN (val a))) .an]=some (.b (decide (val a=1))):=by
 rw[zab Z5.h229 rfl,b229];generalize val a=n;by_cases h0:n=0
 ·subst h0;simp -implicitDefEqProofs
 ·rw[zgh h0];by_cases h1:n/4294967296=0
  ·have e:ofN (n/4294967296)=[]:=zau.2 h1;have e2:n%4294967296=n:=Yi (by omega);simp -implicitDefEqProofs[e,Za,zb0,e2]
  ·have h2:¬ ofN (n/4294967296)=[]:=fun e=>h1 (zau.1 e);have h3:¬ n=1:=by rintro rfl;simp at h1
   have h4:¬ ((ofN (n/4294967296)).length:Int)+1=1:=by
    have:=Ybi.2 h2;omega
   simp -implicitDefEqProofs[Za,h3,h4]
theorem zjv(a g:List UInt32)(ha:a.length≤10000)(hg:g.length≤10000)(h0:val g≠0):Zb T 230 [.sl (Za a) .an,.sl (Za (ofN (val g))) .an]=some (.sl (Za (ofN (val a/val g))) .an):=by
 have ho:=zm7 (T:=T) g;have hn:=zbc (T:=T) a (by omega);have hd:=zwh (T:=T) a (ofN (val g)) (by omega) (by have:=zad g;omega) (by rw[zae];omega);rw[zae]at hd;rw[zab Z5.h230 rfl,b230];by_cases h1:val g=1
 ·rw[h1]at ho hd ⊢;simp -implicitDefEqProofs[ho,hn]
 ·simp -implicitDefEqProofs[ho,h1,hd]
theorem zm8(a:List UInt32)(k:Nat)(ha:a.length≤10000)(hk:k≤1000000):Zb T 227 [.sl (Za a) .an,.i .i64 k]=some (.sl (Za (ofN (2^k*val a))) .an):=by
 have hq:(k:Int).tdiv 32=(k:Int)/32:=Yc9 (by omega);have hm2:(k:Int).tmod 32=(k:Int)%32:=Yda (by omega);have s0:¬ (k:Int)%32<0:=by omega
 have s1:((k:Int)%32).toNat=k%32:=by omega
 have s2:min (k%32) 32=k%32:=by omega
 have w1:IntKind.wrap .i64 ((k:Int)/32)=((k/32:Nat):Int):=by rw[zac (k/32) (by omega)];omega
 have h2:2^(k%32)<4294967296:=by
  have:=Nat.pow_lt_pow_right (show 1<2 by decide) (Ya5 k (show 0<32 by decide));have h4:(2:Nat)^32=4294967296:=rfl;omega
 have s3:2^(k%32)%4294967296=2^(k%32):=Yi h2;have hmul:=zcf (T:=T) (List.replicate (k/32) 0++a) [w32 (2^(k%32))] (by simp;omega) (by simp);have hv:val (List.replicate (k/32) 0++a)*val [w32 (2^(k%32))]=2^k*val a:=by
  rw[zah,zbg,Yb2,zai,za6,zag h2,Yah,Yt,Yax,znh,Yai,←Yz,←Ybj,show k%32+32*(k/32)=k by omega]
 rw[hv]at hmul;have b2:k/32+a.length≤4294967296:=by omega
 have b3:((k/32:Nat):Int)≤4294967296:=by omega
 have hu:Za [w32 (2^(k%32))]=[[u32 (2^(k%32))]]:=by simp[Za,zag h2]
 rw[hu]at hmul;have ht:List.take (k/32+a.length) (List.replicate (k/32) 0++a)=List.replicate (k/32) 0++a:=Yb (by simp);rw[zab Z5.h227 rfl,b227];generalize 2^k*val a=V at *
 clear hv hu;generalize k/32=q at *
 simp -implicitDefEqProofs[hq,hm2,w1,s0,s1,s2,s3,hmul,b2,b3,ht]
def nmX:BId:=.fld (.loc 12) 22
def nmY:BId:=.fld (.loc 14) 22
def nm2(f:Bool):BId×BId:=if f then (nmX,nmY) else (nmY,nmX)
def Zf7(f:Bool)(P a S P2 b S2:List UInt32)(m n:Nat):St:=
 ⟨[(5,.bs (nm2 f).1 1 1 P.length a.length),(6,.bs (nm2 f).2 2 1 P2.length b.length),(7,.i .i64 m),(8,.i .i64 n)],[((nm2 f).1,⟨1,.own,1,Za (P++(a++S))⟩),((nm2 f).2,⟨2,.own,1,Za (P2++(b++S2))⟩)],4⟩
theorem zahj(f:Bool)(P S P2 S2:List UInt32)(X Y m n:Nat)(hX:(ofN X).length≤10000)(hY:(ofN Y).length≤10000)(h:Y<X) :
  ∃(P' S':List UInt32) (k x:Nat),X-Y=2^k*x∧x%2=1 ∧
   evX (orc T) T 0 l228_0 (Zf7 f P (ofN X) S P2 (ofN Y) S2 m n)=some (.n,Zf7 f P' (ofN x) S' P2 (ofN Y) S2 m n):=by
 have hc:=zd8 (T:=T) (ofN X) (ofN Y) (by omega) (by omega);rw[zae,zae,show Zd4 X Y=1 by unfold Zd4;rw[if_neg (by omega),if_pos h]]at hc;obtain⟨d,hd,hv,hless⟩:=zh7 (T:=T) P (ofN X) S P2 (ofN Y) S2 (by omega) (zaq (Yb8 h)) (by rw[zae,zae];omega);rw[zae,zae]at hv;obtain⟨P',S',x,k,e1,e2,e3,e4,e5,hodd⟩:=zfr (T:=T) P d S (by omega) (by omega);refine⟨P',S',k,x,by omega,e2,?_⟩;have t1:List.take (ofN X).length (List.drop P.length (P++(ofN X++S)))=ofN X:=by simp
 have t2:List.take (ofN Y).length (List.drop P2.length (P2++(ofN Y++S2)))=ofN Y:=by simp
 have b1:P.length+(ofN X).length≤(P++(ofN X++S)).length:=by simp
 have b2:P2.length+(ofN Y).length≤(P2++(ofN Y++S2)).length:=by simp
 rw[hd]at hodd;unfold Zf7;clear hv e1 e3 e4 e5 hd hX hY;generalize P++(ofN X++S)=Q at *
 generalize P2++(ofN Y++S2)=R at *
 generalize P'++(ofN x++S')=Q' at *
 generalize P++(d++S)=Q2 at *
 generalize ofN X=A at *
 generalize ofN Y=B at *
 cases f<;>simp -implicitDefEqProofs[l228_0,nm2,nmX,nmY,hc,t1,t2,b1,b2,hless,hodd]
theorem zahk(f:Bool)(P S P2 S2:List UInt32)(X Y m n:Nat)(hX:(ofN X).length≤10000)(hY:(ofN Y).length≤10000)(h:X<Y) :
  ∃(P' S':List UInt32) (k x:Nat),Y-X=2^k*x∧x%2=1 ∧
   evX (orc T) T 0 l228_0 (Zf7 f P (ofN X) S P2 (ofN Y) S2 m n)=some (.n,Zf7 (!f) P' (ofN x) S' P (ofN X) S m n):=by
 have hc:=zd8 (T:=T) (ofN X) (ofN Y) (by omega) (by omega);rw[zae,zae,show Zd4 X Y=-1 by unfold Zd4;rw[if_pos h]]at hc;obtain⟨d,hd,hv,hless⟩:=zh7 (T:=T) P2 (ofN Y) S2 P (ofN X) S (by omega) (zaq (Yb8 h)) (by rw[zae,zae];omega);rw[zae,zae]at hv;obtain⟨P',S',x,k,e1,e2,e3,e4,e5,hodd⟩:=zfr (T:=T) P2 d S2 (by omega) (by omega);refine⟨P',S',k,x,by omega,e2,?_⟩;have t1:List.take (ofN X).length (List.drop P.length (P++(ofN X++S)))=ofN X:=by simp
 have t2:List.take (ofN Y).length (List.drop P2.length (P2++(ofN Y++S2)))=ofN Y:=by simp
 have b1:P.length+(ofN X).length≤(P++(ofN X++S)).length:=by simp
 have b2:P2.length+(ofN Y).length≤(P2++(ofN Y++S2)).length:=by simp
 rw[hd]at hodd;unfold Zf7;clear hv e1 e3 e4 e5 hd hX hY;generalize P++(ofN X++S)=Q at *
 generalize P2++(ofN Y++S2)=R at *
 generalize P'++(ofN x++S')=Q' at *
 generalize P2++(d++S2)=Q2 at *
 generalize ofN X=A at *
 generalize ofN Y=B at *
 cases f<;>simp -implicitDefEqProofs[l228_0,nm2,nmX,nmY,hc,t1,t2,b1,b2,hless,hodd]
theorem zahl(f:Bool)(P S P2 S2:List UInt32)(X m n:Nat)(hX:(ofN X).length≤10000){G:Option (Ex×St)}
  (hG:G=some (.n,⟨[(5,.bs (nm2 f).1 1 1 P.length (ofN X).length),(7,.i .i64 m),(8,.i .i64 n)],[((nm2 f).1,⟨1,.own,1,Za (P++(ofN X++S))⟩)],3⟩)) :
  Zbe (evX (orc T) T 0 l228_0 (Zf7 f P (ofN X) S P2 (ofN X) S2 m n))=true∧Za8 0 0 (Gh.norm false [5,7,8]) (evX (orc T) T 0 l228_0 (Zf7 f P (ofN X) S P2 (ofN X) S2 m n))=G:=by
 subst hG;have hc:=zd8 (T:=T) (ofN X) (ofN X) (by omega) (by omega);rw[zae,show Zd4 X X=0 by unfold Zd4;rw[if_neg (by omega),if_neg (by omega)]]at hc;have t1:List.take (ofN X).length (List.drop P.length (P++(ofN X++S)))=ofN X:=by simp
 have t2:List.take (ofN X).length (List.drop P2.length (P2++(ofN X++S2)))=ofN X:=by simp
 have b1:P.length+(ofN X).length≤(P++(ofN X++S)).length:=by simp
 have b2:P2.length+(ofN X).length≤(P2++(ofN X++S2)).length:=by simp
 unfold Zf7;generalize P++(ofN X++S)=Q at *
 generalize P2++(ofN X++S2)=R at *
 generalize ofN X=A at *
 cases f<;>constructor<;>simp -implicitDefEqProofs[l228_0,nm2,nmX,nmY,hc,t1,t2,b1,b2]
structure Gc where
 f:Bool
 P:List UInt32
 S:List UInt32
 P2:List UInt32
 S2:List UInt32
 X:Nat
 Y:Nat
theorem z3s(G m n:Nat):∀y:Gc,((ofN y.X).length≤10000∧(ofN y.Y).length≤10000∧y.X%2=1∧y.Y%2=1∧Nat.gcd y.X y.Y=G) →
  ∃r,(∃(f:Bool) (P S:List UInt32),r=(Ex.n,(⟨[(5,.bs (nm2 f).1 1 1 P.length (ofN G).length),(7,.i .i64 m),(8,.i .i64 n)],[((nm2 f).1,⟨1,.own,1,Za (P++(ofN G++S))⟩)],3⟩:St))) ∧
   Ze T 0 0 (.norm false [5,7,8]) l228_0 (Zf7 y.f y.P (ofN y.X) y.S y.P2 (ofN y.Y) y.S2 m n)=some r:=by
 refine zam (fun y:Gc=>Zf7 y.f y.P (ofN y.X) y.S y.P2 (ofN y.Y) y.S2 m n) _ (fun y=>y.X+y.Y) _ ?_
 rintro⟨f,P,S,P2,S2,X,Y⟩ ⟨hX,hY,oX,oY,hG⟩
 simp only at hX hY oX oY hG ⊢;rcases Yby X Y with h | h | h
 ·left;obtain⟨P',S',k,x,e1,e2,he⟩:=zahk (T:=T) f P S P2 S2 X Y m n hX hY h;have hle:x≤Y-X:=by rw[e1];exact Ydv _ (Ya4 (by decide))
  refine⟨⟨!f,P',S',P,S,x,X⟩,⟨?_,hX,e2,oX,?_⟩,by simp only;omega,he⟩
  ·have:=zaq (show x≤Y by omega);simp only;omega
  ·simp only;rw[zq0 oX (Yb8 h) e1,←hG,Yb7]
 ·right;subst h;rw[Nat.gcd_self]at hG;subst hG;obtain⟨h1,h2⟩:=zahl (T:=T) f P S P2 S2 X m n hX rfl;exact⟨_,⟨f,P,S,rfl⟩,h1,h2⟩
 ·left;obtain⟨P',S',k,x,e1,e2,he⟩:=zahj (T:=T) f P S P2 S2 X Y m n hX hY h;have hle:x≤X-Y:=by rw[e1];exact Ydv _ (Ya4 (by decide))
  refine⟨⟨f,P',S',P2,S2,x,Y⟩,⟨?_,hY,e2,oY,?_⟩,by simp only;omega,he⟩
  ·have:=zaq (show x≤X by omega);simp only;omega
  ·simp only;rw[zq0 oY (Yb8 h) e1,←hG]
theorem zwi(a b:List UInt32)(ha:a.length≤10000)(hb:b.length≤10000):Zb T 228 [.sl (Za a) .an,.sl (Za b) .an]=some (.sl (Za (ofN (Nat.gcd (val a) (val b)))) .an):=by
 have n1:=zcb (T:=T) a (by omega);have n2:=zcb (T:=T) b (by omega);have la:=zad a;have lb:=zad b;rw[zab Z5.h228 rfl,b228];generalize val a=X at *
 generalize val b=Y at *
 have tX:List.take (ofN X).length (ofN X)=ofN X:=Yb (Yg _);have tY:List.take (ofN Y).length (ofN Y)=ofN Y:=Yb (Yg _);by_cases hX:X=0
 ·subst hX;rw[Nat.gcd_zero_left];simp only[zds]at n1;generalize ofN Y=B at *
  simp -implicitDefEqProofs[n1,n2,tY]
 ·have eX:¬ ofN X=[]:=fun e=>hX (zau.1 e);by_cases hY:Y=0
  ·subst hY;rw[Yeq];simp only[zds]at n2;generalize ofN X=A at *
   simp -implicitDefEqProofs[n1,n2,eX,tX]
  ·have eY:¬ ofN Y=[]:=fun e=>hY (zau.1 e);obtain⟨P1,S1,x,m,e1,e2,e3,e4,e5,o1⟩:=zfr (T:=T) [] (ofN X) [] (by omega) (by rw[zae];exact hX);obtain⟨P2,S2,y,n,g1,g2,g3,g4,g5,o2⟩:=zfr (T:=T) [] (ofN Y) [] (by omega) (by rw[zae];exact hY);rw[zae]at e1 g1;obtain⟨_,⟨f,P,S,rfl⟩,hl⟩:=z3s (T:=T) (Nat.gcd x y) m n ⟨true,P1,S1,P2,S2,x,y⟩ ⟨by simp only;omega,by simp only;omega,e2,g2,rfl⟩;have hG:Nat.gcd X Y=2^(min m n)*Nat.gcd x y:=by rw[e1,g1];exact z4h e2 g2
   have hgl:(ofN (Nat.gcd x y)).length≤10000:=by
    have:=zaq (Nat.gcd_le_left y (show 0<x by omega));omega
   have hdb:=zm8 (T:=T) (ofN (Nat.gcd x y)) (min m n) hgl (by omega);rw[zae,←hG]at hdb;simp only[Ya8,Ya2,Yag]at o1 o2;unfold Zf7 at hl;have t1:List.take (ofN (Nat.gcd x y)).length (List.drop P.length (P++(ofN (Nat.gcd x y)++S)))=ofN (Nat.gcd x y):=by simp
   have b1:P.length+(ofN (Nat.gcd x y)).length≤(P++(ofN (Nat.gcd x y)++S)).length:=by simp
   have hmin:(if n<m then (n:Int) else (m:Int))=((min m n:Nat):Int):=by split<;>omega
   clear e1 e2 e3 e4 e5 g1 g2 g3 g4 g5 hG hgl;generalize min m n=K at *
   generalize P++(ofN (Nat.gcd x y)++S)=Q at *
   generalize P1++(ofN x++S1)=Q1 at *
   generalize P2++(ofN y++S2)=Q2 at *
   generalize ofN (Nat.gcd x y)=g at *
   generalize ofN (Nat.gcd X Y)=g' at *
   simp only[nm2,nmX,nmY,if_true]at hl;generalize ofN X=A at *
   generalize ofN Y=B at *
   cases f<;>simp only[Y8,if_false,if_true]at hl<;>simp -implicitDefEqProofs[n1,n2,eX,eY,o1,o2,hl,hdb,t1,b1,hmin,mm2]
end
section
variable{T:Tbl}[Za1 T]
theorem zso(n:Bool)(a:List UInt32)(ha:a.length≤1000000):Zb T 39 [wh n a]=some (ez (wv n a)):=by
 have h:=zbc (T:=T) a ha;have hl:(0<(ofN (val a)).length)=(val a≠0):=by
  rw[eq_iff_iff,Ybi];exact not_congr zau
 rw[zab Za1.h39 rfl,b39];unfold wv;rw[zxl];cases n<;>simp -implicitDefEqProofs[h,hl]
theorem zwk(n m:Bool)(a b:List UInt32)(ha:a.length≤10000)(hb:b.length≤10000):Zb T 24 [wh n a,wh m b]=some (ez (wv n a+wv m b)):=by
 have hc:=zd8 (T:=T) a b (by omega) (by omega);rw[zab Za1.h24 rfl,b24];have fin:∀(s:Bool) (k:Nat),sg s k=wv n a+wv m b→(ofN k).length≤1000000→Zb T 39 [wh s (ofN k)]=some (ez (wv n a+wv m b)):=by
  intro s k h1 h2;rw[zso (T:=T) s (ofN k) h2];have:wv s (ofN k)=sg s k:=by unfold wv;rw[zae]
  rw[this,h1]
 have hla:=zad a;have hlb:=zad b;obtain⟨z,hz⟩:∃z,z=wv n a+wv m b:=⟨_,rfl⟩;by_cases h:n=m
 ·subst h;have h1:=zm3 (T:=T) a b (by omega) (by omega);have h2:=fin n (val a+val b) (zik _ _ _) (by
   have:=zb3 (x:=(val a:Int)) (y:=val b) (L:=10000) (by simpa using Yf hla ha) (by simpa using Yf hlb hb);have e:((val a:Int)+val b).natAbs=val a+val b:=by omega
   rw[e]at this;omega)
  rw[←hz]at h2 ⊢;simp -implicitDefEqProofs[h1,h2]
 ·by_cases hlt:val a<val b
  ·have h1:=zm4 (T:=T) b a (by omega) (by omega) (by omega);have h2:=fin m (val b-val a) (znm h hlt) (by have:=zaq (Nat.sub_le (val b) (val a));omega);rw[←hz]at h2 ⊢;simp -implicitDefEqProofs[h,hc,zct,hlt,h1,h2]
  ·have h1:=zm4 (T:=T) a b (by omega) (by omega) (by omega);have h2:=fin n (val a-val b) (znn h hlt) (by have:=zaq (Nat.sub_le (val a) (val b));omega);rw[←hz]at h2 ⊢;simp -implicitDefEqProofs[h,hc,zct,hlt,h1,h2]
end
theorem zwl(n:Bool)(x y:Nat):sg n (x*y)=sg n x*(y:Int):=by cases n<;>simp[sg,Yfj]
theorem z1c(q:Rat):val (fz q).2.2≠0:=by
 unfold fz;rw[zae];exact q.den_nz
theorem zzx(n m:Bool)(x y d e:Nat):mkRat (sg n x) d/mkRat (sg m y) e=mkRat (sg (n != m) (x*e)) (d*y):=by
 rw[zno,Yeg,←Yb3,←Yb3,←Yb3,Rat.inv_divInt,Rat.divInt_mul_divInt];cases m
 ·simp only[sg,Y8,if_false,Yck]
 ·simp only[sg,if_true,Yck,Int.mul_neg];rw[←Rat.neg_divInt_neg,Int.neg_neg]
section
variable{T:Tbl}[Zx T][Zab T][Zw T][Z9 T][Z5 T][Za1 T][Zv T]
theorem zbp(x:Fz)(hx:fsz x≤10000):Zb T 231 [efz x]=some (efz (fz (fv x))):=by
 obtain⟨n,a,d⟩:=x;have la:=zcj (n,a,d);have ld:=zcv (n,a,d);simp only at la ld;have n1:=zbc (T:=T) a (by omega);have n2:=zbc (T:=T) d (by omega);have la2:=zad a;have ld2:=zad d;have ho:=zm7 (T:=T) d;have hg:=zwi (T:=T) (ofN (val a)) (ofN (val d)) (by omega) (by omega);rw[zae,zae]at hg;show _=some (efz (fz (mkRat (sg n (val a)) (val d))));by_cases hd:val d=0
 ·rw[hd,Yfe,zpg,zab Zv.h231 rfl,b231];rw[hd]at n2;simp only[zds]at n2;simp -implicitDefEqProofs[n1,n2,show Za [1]=[[u32 1]] from rfl]
 ·by_cases ha:val a=0
  ·have e0:mkRat (sg n (val a)) (val d)=0:=by rw[Yev hd,ha];cases n<;>rfl
   have ed:¬ ofN (val d)=[]:=fun e=>hd (zau.1 e);rw[e0,zpg,zab Zv.h231 rfl,b231];rw[ha]at n1;simp only[zds]at n1;simp -implicitDefEqProofs[n1,n2,ed,show Za [1]=[[u32 1]] from rfl]
  ·have ea:¬ ofN (val a)=[]:=fun e=>ha (zau.1 e);have ed:¬ ofN (val d)=[]:=fun e=>hd (zau.1 e);rw[z9n n (val a) hd,show decide (val a≠0)=true by simpa using ha,Ydo];have gpos:Nat.gcd (val a) (val d)≠0:=by
    have:=Yeu (val a) (Yan hd);omega
   have glen:(ofN (Nat.gcd (val a) (val d))).length≤10000:=by
    have:=zaq (Nat.gcd_le_right (val a) (Yan hd));omega
   have o1:=zjv (T:=T) (ofN (val a)) (ofN (Nat.gcd (val a) (val d))) (by omega) glen (by rw[zae];exact gpos);have o2:=zjv (T:=T) (ofN (val d)) (ofN (Nat.gcd (val a) (val d))) (by omega) glen (by rw[zae];exact gpos);rw[zae,zae]at o1 o2;rw[zab Zv.h231 rfl,b231];by_cases h1:val d=1
   ·rw[h1]at n2 ho ed ⊢;rw[Nat.gcd_one_right,Nat.div_one,Nat.div_one];generalize ofN (val a)=A at *
    generalize ofN 1=O at *
    simp -implicitDefEqProofs[n1,n2,ho,ea,ed]
   ·generalize ofN (val a/Nat.gcd (val a) (val d))=A' at *
    generalize ofN (val d/Nat.gcd (val a) (val d))=D' at *
    generalize ofN (Nat.gcd (val a) (val d))=G at *
    generalize ofN (val a)=A at *
    generalize ofN (val d)=D at *
    simp -implicitDefEqProofs[n1,n2,ho,ea,ed,h1,hg,o1,o2]
theorem zqp(n:Nat)(h:n<18446744073709551616):Zb T 353 [u64 n]=some (.sl (Za (ofN n)) .an):=by
 have e2:val [w32 n,w32 (n/4294967296)]=n:=by simp[zb0];omega
 have h2:=zbc (T:=T) [w32 n,w32 (n/4294967296)] (by simp);rw[e2]at h2;have h3:n/4294967296%4294967296=n/4294967296:=Yi (by omega);have h4:n/4294967296%18446744073709551616=n/4294967296:=Yi (by omega);rw[zab Zv.h353 rfl,b353];simp -implicitDefEqProofs[h3,h4,zba _ _ _ (show n/4294967296<4294967296 by omega),h2]
theorem zm9(k:Int)(h1:-9223372036854775808≤k)(h2:k<9223372036854775808):Zb T 232 [.i .i64 k]=some (efz (fz (k:Rat))):=by
 have hu:Za [1]=[[u32 1]]:=rfl;rw[zab Zv.h232 rfl,b232];by_cases hk:k<0
 ·have w1:IntKind.wrap .i64 (k+1)=k+1:=zac _ (by omega);have w2:IntKind.wrap .i64 (-(k+1))=-(k+1):=zac _ (by omega);have w3:(-(k+1)%18446744073709551616).toNat=k.natAbs-1:=by omega
  have c1:=zqp (T:=T) (k.natAbs-1) (by omega);have c2:=zm3 (T:=T) (ofN (k.natAbs-1)) [1] (by have:=zas (n:=k.natAbs-1) (k:=2) (by show _<18446744073709551616;omega);omega) (by decide);have e1:val (ofN (k.natAbs-1))+val [1]=k.natAbs:=by rw[zae];show _+(1+4294967296*0)=_;omega
  rw[e1,hu]at c2;have c3:=zbp (T:=T) (true,ofN k.natAbs,[1]) (by
   have:=zas (n:=k.natAbs) (k:=2) (by show _<18446744073709551616;omega);unfold fsz;simp only[Ybo];omega)
  have e2:fv (true,ofN k.natAbs,[1])=(k:Rat):=by
   unfold fv wv;simp only[zae];rw[show val [1]=1 from rfl,show sg true k.natAbs=k by unfold sg;rw[if_pos rfl];omega];rw[←Yb3];exact Rat.num_divInt_den (k:Rat)
  rw[e2]at c3
  change Zb T 231 [.agg [.b true,.sl (Za (ofN k.natAbs)) .an,.sl (Za [1]) .an]]=_ at c3
  rw[hu]at c3;generalize fz (k:Rat)=z at *
  simp -implicitDefEqProofs[hk,w1,w2,w3,c1,c2,c3]
 ·have w3:(k%18446744073709551616).toNat=k.natAbs:=by omega
  have c1:=zqp (T:=T) k.natAbs (by omega);have c3:=zbp (T:=T) (false,ofN k.natAbs,[1]) (by
   have:=zas (n:=k.natAbs) (k:=2) (by show _<18446744073709551616;omega);unfold fsz;simp only[Ybo];omega)
  have e2:fv (false,ofN k.natAbs,[1])=(k:Rat):=by
   unfold fv wv;simp only[zae];rw[show val [1]=1 from rfl,show sg false k.natAbs=k by unfold sg;simp;omega];rw[←Yb3];exact Rat.num_divInt_den (k:Rat)
  rw[e2]at c3
  change Zb T 231 [.agg [.b false,.sl (Za (ofN k.natAbs)) .an,.sl (Za [1]) .an]]=_ at c3
  rw[hu]at c3;generalize fz (k:Rat)=z at *
  simp -implicitDefEqProofs[hk,w3,c1,c3]
theorem zbq:Zb T 232 [.i .i64 0]=some (efz (fz 0)):=zm9 0 (by decide) (by decide)
theorem zsp:Zb T 232 [.i .i64 1]=some (efz (fz 1)):=zm9 1 (by decide) (by decide)
theorem zsq(x y:Fz)(hx:fsz x≤10000):Zb T 233 [efz x,efz y]=some (.b (decide (x=y))):=by
 obtain⟨n,a,d⟩:=x;obtain⟨m,b,e⟩:=y;have la:=zcj (n,a,d);have ld:=zcv (n,a,d);simp only at la ld;have c1:=zgb (T:=T) a b (by omega);have c2:=zgb (T:=T) d e (by omega);rw[zab Zv.h233 rfl,b233];by_cases h1:n=m
 ·subst h1;by_cases h2:a=b
  ·subst h2;by_cases h3:d=e
   ·subst h3;simp -implicitDefEqProofs[c1,c2]
   ·simp -implicitDefEqProofs[c1,c2,h3]
  ·simp -implicitDefEqProofs[c1,h2]
 ·simp -implicitDefEqProofs[c1,c2,h1]
theorem zgc(x:Fz)(k:Nat):Zb T 247 [efz x,.i .i64 k]=some (.b (decide (k<fsz x))):=by
 obtain⟨n,a,d⟩:=x;unfold fsz;rw[zab Zv.h247 rfl,b247];by_cases h1:k<a.length
 ·have h3:k<max a.length d.length:=by omega
  simp -implicitDefEqProofs[h1,h3]
 ·by_cases h2:k<d.length
  ·have h3:k<max a.length d.length:=by omega
   simp -implicitDefEqProofs[h1,h2,h3]
  ·have h3:¬ k<max a.length d.length:=by omega
   simp -implicitDefEqProofs[h1,h2,h3]
theorem zwm(x y:Fz)(hx:fsz x≤1000)(hy:fsz y≤1000):Zb T 241 [efz x,efz y]=some (efz (fz (fv x*fv y))):=by
 obtain⟨n,a,d⟩:=x;obtain⟨m,b,e⟩:=y;have la:=zcj (n,a,d);have ld:=zcv (n,a,d);have lb:=zcj (m,b,e);have le:=zcv (m,b,e);simp only at la ld lb le;have c1:=zcf (T:=T) a b (by omega) (by omega);have c2:=zcf (T:=T) d e (by omega) (by omega);have l1:(ofN (val a*val b)).length≤2000:=by
  have:=zax (x:=val a) (y:=val b) (L:=1000) (M:=1000) (Yf (zad a) (by omega)) (Yf (zad b) (by omega));omega
 have l2:(ofN (val d*val e)).length≤2000:=by
  have:=zax (x:=val d) (y:=val e) (L:=1000) (M:=1000) (Yf (zad d) (by omega)) (Yf (zad e) (by omega));omega
 have c3:=zbp (T:=T) (n != m,ofN (val a*val b),ofN (val d*val e)) (by unfold fsz;simp only;omega);have e1:fv (n != m,ofN (val a*val b),ofN (val d*val e))=fv (n,a,d)*fv (m,b,e):=by
  unfold fv wv;simp only[zae];rw[zno,Rat.mkRat_mul_mkRat]
 rw[e1]at c3;rw[zab Zv.h241 rfl,b241];clear e1 l1 l2;generalize fz (fv (n,a,d)*fv (m,b,e))=z at *
 generalize ofN (val a*val b)=A at *
 generalize ofN (val d*val e)=D at *
 simp -implicitDefEqProofs[c1,c2,c3,ze2]
theorem zna(x y:Fz)(hx:fsz x≤1000)(hy:fsz y≤1000):Zb T 242 [efz x,efz y]=some (efz (fz (fv x/fv y))):=by
 obtain⟨n,a,d⟩:=x;obtain⟨m,b,e⟩:=y;have la:=zcj (n,a,d);have ld:=zcv (n,a,d);have lb:=zcj (m,b,e);have le:=zcv (m,b,e);simp only at la ld lb le;have c1:=zcf (T:=T) a e (by omega) (by omega);have c2:=zcf (T:=T) d b (by omega) (by omega);have l1:(ofN (val a*val e)).length≤2000:=by
  have:=zax (x:=val a) (y:=val e) (L:=1000) (M:=1000) (Yf (zad a) (by omega)) (Yf (zad e) (by omega));omega
 have l2:(ofN (val d*val b)).length≤2000:=by
  have:=zax (x:=val d) (y:=val b) (L:=1000) (M:=1000) (Yf (zad d) (by omega)) (Yf (zad b) (by omega));omega
 have c3:=zbp (T:=T) (n != m,ofN (val a*val e),ofN (val d*val b)) (by unfold fsz;simp only;omega);have e1:fv (n != m,ofN (val a*val e),ofN (val d*val b))=fv (n,a,d)/fv (m,b,e):=by
  unfold fv wv;simp only[zae];rw[zzx]
 rw[e1]at c3;rw[zab Zv.h242 rfl,b242];clear e1 l1 l2;generalize fz (fv (n,a,d)/fv (m,b,e))=z at *
 generalize ofN (val a*val e)=A at *
 generalize ofN (val d*val b)=D at *
 simp -implicitDefEqProofs[c1,c2,c3,ze2]
theorem znb(x:Fz)(hx:fsz x≤10000):Zb T 237 [efz x]=some (efz (fz (-fv x))):=by
 obtain⟨n,a,d⟩:=x;have c3:=zbp (T:=T) (!n,a,d) hx;have e1:fv (!n,a,d)=-fv (n,a,d):=by
  unfold fv wv;simp only;rw[z1f,Yfm]
 rw[e1]at c3;rw[zab Zv.h237 rfl,b237];generalize fz (-fv (n,a,d))=z at *
 simp -implicitDefEqProofs[c3]
theorem zwn(x y:Fz)(hx:fsz x≤1000)(hy:fsz y≤1000)(h1:val x.2.2≠0)(h2:val y.2.2≠0):Zb T 239 [efz x,efz y]=some (efz (fz (fv x+fv y))):=by
 obtain⟨n,a,d⟩:=x;obtain⟨m,b,e⟩:=y;have la:=zcj (n,a,d);have ld:=zcv (n,a,d);have lb:=zcj (m,b,e);have le:=zcv (m,b,e);simp only at la ld lb le h1 h2;have c1:=zcf (T:=T) a e (by omega) (by omega);have c2:=zcf (T:=T) b d (by omega) (by omega);have c4:=zcf (T:=T) d e (by omega) (by omega);have l1:(ofN (val a*val e)).length≤2000:=by
  have:=zax (x:=val a) (y:=val e) (L:=1000) (M:=1000) (Yf (zad a) (by omega)) (Yf (zad e) (by omega));omega
 have l2:(ofN (val b*val d)).length≤2000:=by
  have:=zax (x:=val b) (y:=val d) (L:=1000) (M:=1000) (Yf (zad b) (by omega)) (Yf (zad d) (by omega));omega
 have l4:(ofN (val d*val e)).length≤2000:=by
  have:=zax (x:=val d) (y:=val e) (L:=1000) (M:=1000) (Yf (zad d) (by omega)) (Yf (zad e) (by omega));omega
 have c3:=zwk (T:=T) n m (ofN (val a*val e)) (ofN (val b*val d)) (by omega) (by omega);have e3:wv n (ofN (val a*val e))+wv m (ofN (val b*val d))=sg n (val a)*(val e:Int)+sg m (val b)*(val d:Int):=by
  unfold wv;rw[zae,zae,zwl,zwl]
 have l3:(ofN (sg n (val a)*(val e:Int)+sg m (val b)*(val d:Int)).natAbs).length≤3000:=by
  rw[←e3];have:=zb3 (x:=wv n (ofN (val a*val e))) (y:=wv m (ofN (val b*val d))) (L:=2000) (Yf (zbs _ _) l1) (Yf (zbs _ _) l2);omega
 rw[e3]at c3;obtain⟨z,hz⟩:∃z,z=sg n (val a)*(val e:Int)+sg m (val b)*(val d:Int):=⟨_,rfl⟩;rw[←hz]at c3 l3;have c5:=zbp (T:=T) (decide (z<0),ofN z.natAbs,ofN (val d*val e)) (by unfold fsz;simp only;omega);have e1:fv (decide (z<0),ofN z.natAbs,ofN (val d*val e))=fv (n,a,d)+fv (m,b,e):=by
  unfold fv;simp only[zae,zfw];rw[hz];exact(Ydi _ _ h1 h2).symm
 rw[e1]at c5;rw[zab Zv.h239 rfl,b239];clear e1 e3 hz l1 l2 l3 l4 h1 h2;generalize fz (fv (n,a,d)+fv (m,b,e))=R at *
 generalize ofN (val a*val e)=A at *
 generalize ofN (val b*val d)=B at *
 generalize ofN (val d*val e)=D at *
 simp -implicitDefEqProofs[c1,c2,c3,c4,c5,ze2]
theorem zjw(p q:Rat)(hp:sz p≤1000)(hq:sz q≤1000):Zb T 239 [efz (fz p),efz (fz q)]=some (efz (fz (p+q))):=by
 have:=zwn (T:=T) (fz p) (fz q) hp hq (z1c p) (z1c q)
 rwa [zeq,zeq]at this
theorem zjx(p q:Rat)(hp:sz p≤1000)(hq:sz q≤1000):Zb T 241 [efz (fz p),efz (fz q)]=some (efz (fz (p*q))):=by
 have:=zwm (T:=T) (fz p) (fz q) hp hq
 rwa [zeq,zeq]at this
end
section
variable{T:Tbl}[Zx T][Zab T][Zw T][Z9 T][Z5 T][Za1 T][Zv T][Zas T]
def Zoh(n i:Nat):St:=⟨[(0,.i .i64 n),(3,.bs (.loc 3) 1 3 0 i),(4,.i .i64 i)],[(.loc 3,⟨1,.own,3,Zd (List.replicate i (fz 0))⟩)],3⟩
def Zj3(l:List Fz)(i:Nat):St:=⟨[(0,.sl (Zd l) .an),(3,.bs (.loc 3) 1 3 0 i),(4,.i .i64 i)],[(.loc 3,⟨1,.own,3,Zd (nrm (l.take i))⟩)],3⟩
theorem zsr(l:List Fz)(hl:l.length≤1000)(hw:∀x∈l,fsz x≤1000) :
  Ze T 0 0 (.norm false [3]) l278_0 (Zj3 l 0)=some (.n,⟨[(3,.bs (.loc 3) 1 3 0 l.length)],[(.loc 3,⟨1,.own,3,Zd (nrm l)⟩)],3⟩):=by
 refine zan (Zj3 l) l.length _ (fun i hi=>?_) ?_
 ·have hg:l[i]? = some (l[i]'hi):=Ya hi;have hws:=za8 hi (by omega);have hn:=zbp (T:=T) (l[i]'hi) (Yf (hw _ (Y2 hi)) (by decide));have e:nrm (l.take (i+1))=nrm (l.take i)++[fz (fv (l[i]'hi))]:=zft l _ hi;have hml:(nrm (l.take i)).length=i:=by simp[nrm];omega
  have hp:=zfs hml (fz (fv (l[i]'hi)));unfold Zj3;rw[e];clear e;generalize nrm (l.take i)=M at *
  generalize fz (fv (l[i]'hi))=z at *
  have hb:i≤4294967295:=by omega
  simp -implicitDefEqProofs[l278_0,hi,hg,hws,hn,hp,hml,hb]
 ·unfold Zj3;rw[Yb (Yg _)];generalize nrm l=M;constructor<;>simp -implicitDefEqProofs[l278_0]
theorem zh8(l:List Fz)(hl:l.length≤1000)(hw:∀x∈l,fsz x≤1000):Zb T 278 [.sl (Zd l) .an]=some (.sl (Zd (nrm l)) .an):=by
 have h:=zsr (T:=T) l hl hw;unfold Zj3 at h;have e:nrm (l.take 0)=[]:=rfl;rw[e]at h;simp only[zbu,Yr]at h;have hl2:(nrm l).length=l.length:=by simp[nrm]
 have ht:List.take l.length (nrm l)=nrm l:=Yb (by omega);rw[zab Zas.h278 rfl,b278];simp -implicitDefEqProofs[h,ht,hl2]
def Zja(a b:List Fz)(i:Nat):St:=⟨[(0,.sl (Zd a) .an),(1,.sl (Zd b) .an),(5,.i .i64 i)],[],2⟩
theorem zss(a b:List Fz)(hab:a.length=b.length)(hl:a.length≤1000)(ha:∀x∈a,fsz x≤10000) :
  Ze T 0 0 (.norm false []) l279_0 (Zja a b 0)=if a.drop 0=b.drop 0 then some (.n,⟨[],[],2⟩) else some (.r,⟨[(4,.b false)],[],2⟩):=by
 refine za4 (Zja a b) a.length (fun i=>if a.drop i=b.drop i then some (.n,⟨[],[],2⟩) else some (.r,⟨[(4,.b false)],[],2⟩)) (fun i hi=>?_) ?_
 ·have hga:a[i]? = some (a[i]'hi):=Ya hi;have hib:i<b.length:=by omega
  have hgb:b[i]? = some (b[i]'hib):=Ya hib;have hws:=za8 hi (by omega);have c:=zsq (T:=T) (a[i]'hi) (b[i]'hib) (ha _ (Y2 hi));have hib':(i:Int)<b.length:=by omega
  have key:(a.drop i=b.drop i)↔((a[i]'hi)=(b[i]'hib)∧a.drop (i+1)=b.drop (i+1)):=by
   rw[Yd hi,Yd hib,List.cons.injEq]
  by_cases he:(a[i]'hi)=(b[i]'hib)
  ·left;refine⟨?_,by simp only[key,he,true_and]⟩;unfold Zja;rw[decide_eq_true he]at c;clear he;simp -implicitDefEqProofs[l279_0,hi,hga,hgb,hws,c,hib,hib']
  ·right;rw[if_neg (fun h=>he (key.1 h).1)];unfold Zja;rw[decide_eq_false he]at c;clear he;constructor<;>simp -implicitDefEqProofs[l279_0,hi,hga,hgb,hws,c,hib,hib']
 ·rw[Y0,if_pos (by rw[hab,Y0])];unfold Zja;constructor<;>simp -implicitDefEqProofs[l279_0]
theorem zst(a b:List Fz)(hl:a.length≤1000)(ha:∀x∈a,fsz x≤10000):Zb T 279 [.sl (Zd a) .an,.sl (Zd b) .an]=some (.b (decide (a=b))):=by
 rw[zab Zas.h279 rfl,b279];by_cases hab:a.length=b.length
 ·have h:=zss (T:=T) a b hab hl ha;rw[Yae,Yae]at h;unfold Zja at h;simp only[Yr]at h;have hab':(b.length:Int)=a.length:=by omega
  by_cases he:a=b
  ·subst he;rw[if_pos rfl]at h;simp -implicitDefEqProofs[h]
  ·rw[if_neg he]at h;simp -implicitDefEqProofs[hab',h,he]
 ·have he:¬ a=b:=fun h=>hab (by rw[h]);have hab':¬ (a.length:Int)=b.length:=by omega
  simp -implicitDefEqProofs[hab,hab',he]
def Zoi(p q:List Rat)(i:Nat):St:=⟨[(0,.sl (Zd (fzs p)) .an),(1,.sl (Zd (fzs q)) .an),(5,.bs (.loc 5) 1 3 0 i),(6,.i .i64 i)],[(.loc 5,⟨1,.own,3,Zd (fzs ((Zkr p (fzs q)).take i))⟩)],3⟩
def Zoj(p q:List Rat)(i:Nat):St:=⟨[(0,.sl (Zd (fzs p)) .an),(1,.sl (Zd (fzs q)) .an),(4,.ptr (.loc 4) 1 3 0 0),(5,.ptr (.loc 5) 2 3 0 0),(6,.i .i64 i)],
 [(.loc 4,⟨1,.str,3,[Zfw]⟩),(.loc 5,⟨2,.str,3,[Zce (fz (Zj9 (fzs p) (fzs q) i))]⟩)],4⟩
def Zeq(l:List Fz)(many words:Nat):Bool:=decide (many<l.length) || l.any fun x=>decide (words<fsz x)
def Zf8(l:List Fz)(many words:Nat)(i:Nat):St:=⟨[(0,.sl (Zd l) .an),(1,.i .i64 many),(2,.i .i64 words),(7,.i .i64 i)],[],2⟩
theorem zsu(l:List Fz)(many words:Nat)(hl:l.length≤many)(hm:many≤1000) :
  Ze T 0 0 (.norm false [0,1]) l286_0 (Zf8 l many words 0)=if (l.drop 0).any (fun x=>decide (words<fsz x))=true then some (.r,⟨[(6,.b true)],[],2⟩) else some (.n,⟨[(0,.sl (Zd l) .an),(1,.i .i64 many)],[],2⟩):=by
 refine za4 (Zf8 l many words) l.length (fun i=>if (l.drop i).any (fun x=>decide (words<fsz x))=true then some (.r,⟨[(6,.b true)],[],2⟩) else some (.n,⟨[(0,.sl (Zd l) .an),(1,.i .i64 many)],[],2⟩)) (fun i hi=>?_) ?_
 ·have hga:l[i]? = some (l[i]'hi):=Ya hi;have hws:=za8 hi (by omega);have c:=zgc (T:=T) (l[i]'hi) words;have h3:(i:Int)<many:=by omega
  have h4:i<many:=by omega
  have key:(l.drop i).any (fun x=>decide (words<fsz x))=(decide (words<fsz (l[i]'hi)) || (l.drop (i+1)).any fun x=>decide (words<fsz x)):=by
   rw[Yd hi,Yec]
  by_cases he:words<fsz (l[i]'hi)
  ·right;rw[if_pos (by rw[key,decide_eq_true he,Bool.true_or])];rw[decide_eq_true he]at c;unfold Zf8;clear key he;constructor<;>simp -implicitDefEqProofs[l286_0,hi,h3,h4,hga,hws,c]
  ·left;refine⟨?_,by simp only[key,decide_eq_false he,Yfo]⟩;rw[decide_eq_false he]at c;unfold Zf8;clear key he;simp -implicitDefEqProofs[l286_0,hi,h3,h4,hga,hws,c]
 ·rw[Y0,if_neg (by simp)];unfold Zf8;constructor<;>simp -implicitDefEqProofs[l286_0]
theorem zsv(l:List Fz)(many words:Nat)(hl:l.length≤many)(hm:many≤1000):Zb T 286 [.sl (Zd l) .an,.i .i64 many,.i .i64 words]=some (.b (Zeq l many words)):=by
 have h:=zsu (T:=T) l many words hl hm;rw[Yae]at h;unfold Zf8 at h;simp only[Yr]at h;have h1:¬ (many:Int)<l.length:=by omega
 have h2:¬ many<l.length:=by omega
 unfold Zeq;rw[zab Zas.h286 rfl,b286];cases hc:l.any fun x=>decide (words<fsz x) with
 | true=>
  rw[hc,if_pos rfl]at h;simp -implicitDefEqProofs[h,h2]
 | false=>
  rw[hc,if_neg (by decide)]at h;simp -implicitDefEqProofs[h,h1,h2]
theorem zsw(l:List Fz)(many words:Nat)(hl:many<l.length)(hm:many≤1000) :
  ∃r,(r=some (.r,(⟨[(6,.b true)],[],2⟩:St))∨r=some (.n,⟨[(0,.sl (Zd l) .an),(1,.i .i64 many)],[],2⟩))∧Ze T 0 0 (.norm false [0,1]) l286_0 (Zf8 l many words 0)=r:=by
 obtain⟨G,hG⟩:∃G:Nat→Option (Ex×St),G=fun i=>if ((l.take many).drop i).any (fun x=>decide (words<fsz x))=true then some (.r,⟨[(6,.b true)],[],2⟩) else some (.n,⟨[(0,.sl (Zd l) .an),(1,.i .i64 many)],[],2⟩):=⟨_,rfl⟩
 refine⟨G 0,?_,za4 (Zf8 l many words) many G (fun i hi=>?_) ?_⟩
 ·rw[hG];simp only;split
  ·exact .inl rfl
  ·exact .inr rfl
 ·have hil:i<l.length:=by omega
  have hil':(i:Int)<l.length:=by omega
  have hga:l[i]? = some (l[i]'hil):=Ya hil;have hws:=za8 hi (by omega);have c:=zgc (T:=T) (l[i]'hil) words;have key:((l.take many).drop i).any (fun x=>decide (words<fsz x))=(decide (words<fsz (l[i]'hil)) || ((l.take many).drop (i+1)).any fun x=>decide (words<fsz x)):=by
   rw[Yd (show i<(l.take many).length by simp;omega),Yec,List.getElem_take]
  by_cases he:words<fsz (l[i]'hil)
  ·right;rw[hG];simp only;rw[if_pos (by rw[key,decide_eq_true he,Bool.true_or])];rw[decide_eq_true he]at c;unfold Zf8;clear key he hG;constructor<;>simp -implicitDefEqProofs[l286_0,hi,hil,hil',hga,hws,c]
  ·left;refine⟨?_,by rw[hG];simp only[key,decide_eq_false he,Yfo]⟩;rw[decide_eq_false he]at c;unfold Zf8;clear key he hG;simp -implicitDefEqProofs[l286_0,hi,hil,hil',hga,hws,c]
 ·rw[hG];simp only;rw[Yak (by simp;omega),if_neg (by simp)];have h1:(many:Int)<l.length:=by omega
  unfold Zf8;constructor<;>simp -implicitDefEqProofs[l286_0,h1,hl]
theorem zo5(l:List Fz)(many words:Nat)(hl:many<l.length)(hm:many≤1000):Zb T 286 [.sl (Zd l) .an,.i .i64 many,.i .i64 words]=some (.b true):=by
 obtain⟨r,hr,h⟩:=zsw (T:=T) l many words hl hm;unfold Zf8 at h;simp only[Yr]at h;have h1:(many:Int)<l.length:=by omega
 rw[zab Zas.h286 rfl,b286];rcases hr with rfl | rfl
 ·simp -implicitDefEqProofs[h]
 ·simp -implicitDefEqProofs[h,hl]
theorem zh9(l:List Fz)(many words:Nat)(hm:many≤1000):Zb T 286 [.sl (Zd l) .an,.i .i64 many,.i .i64 words]=some (.b (Zeq l many words)):=by
 by_cases h:many<l.length
 ·rw[zo5 l many words h hm];unfold Zeq;rw[decide_eq_true h,Bool.true_or]
 ·exact zsv l many words (by omega) hm
theorem zia{l:List Fz}{many words:Nat}(h:Zeq l many words=false):l.length≤many∧∀x∈l,fsz x≤words:=by
 unfold Zeq at h;simp only[Ybs,decide_eq_false_iff_not,Yew,decide_eq_true_eq]at h;exact⟨by omega,fun x hx=>by have:=h.2 x hx;omega⟩
end
theorem z33{x j:Nat}(h1:2^j≤x)(h2:x<2^(j+1)):Zao x=j+1:=by
 have hx:x≠0:=by
  have:=Ya4 (n:=j) (show 0<2 by decide);omega
 unfold Zao;rw[if_neg hx,(Nat.log2_eq_iff hx).2 ⟨h1,h2⟩]
def Zir(n:Int):Nat:=(min (max n 0) 300).toNat
section
variable{T:Tbl}[Zw T]
theorem zz4(a:List UInt32)(hl:a.length≤1000000):∀y:Nat,(y≤32*a.length∧val a<2^y)→Ze T 0 0 (.norm false [3]) l95_0 (Zgx a y)=some (.n,⟨[(3,.i .i64 (Zao (val a)))],[],2⟩):=by
 refine zaw (Zgx a) (fun y=>y≤32*a.length∧val a<2^y) (fun y=>y) (fun _=>_) ?_
 rintro k ⟨hk,hv⟩
 by_cases h0:k=0
 ·right;subst h0;have hz:val a=0:=by
   rw[Yc1]at hv;omega
  have hb:Zao (val a)=0:=by rw[hz];rfl
  rw[hb];constructor<;>simp -implicitDefEqProofs[l95_0,Zgx]
 ·obtain⟨j,rfl⟩:∃j,k=j+1:=⟨k-1,by omega⟩;have hw:IntKind.wrap .i64 (j:Int)=(j:Int):=zac _ (by omega);have hh:=zm5 (T:=T) a j hl (by omega);have hp:(0:Int)<(j:Int)+1:=by omega
  by_cases h1:val a/2^j%2=1
  ·right;have hge:2^j≤val a:=by
    rcases Yp (val a) (2^j) with h | h
    ·rw[Ybc h]at h1;omega
    ·exact h
   rw[z33 hge hv];clear hge hv;constructor<;>simp -implicitDefEqProofs[l95_0,Zgx,hw,hh,hp,h1]
  ·left;refine⟨j,⟨by omega,znj hv (by generalize val a/2^j=q at *;omega)⟩,by omega,?_,rfl⟩;clear hv;simp -implicitDefEqProofs[l95_0,Zgx,hw,hh,hp,h1]
theorem zj3(a:List UInt32)(hl:a.length≤1000000):Zb T 95 [.sl (Za a) .an]=some (.i .i64 (Zao (val a))):=by
 have hr:=zz4 (T:=T) a hl (32*a.length) ⟨Yg _,by rw[←znh];exact za0 a⟩;unfold Zgx at hr;simp at hr;have hw:IntKind.wrap .i64 (32*(a.length:Int))=32*(a.length:Int):=by
  have:=zac (32*a.length) (by omega);simpa using this
 rw[zab Zw.h95 rfl,b95];simp -implicitDefEqProofs[hr,hw]
end
section
variable{T:Tbl}[Zp T][Z0 T][Z3 T][Zq T][Zu T][Zay T][Zl T][Zo T][Zr T][Zcc T][Zdq T]
def Zny(n i:Int):List Rat:=if 0≤i∧i<Zir n then (List.replicate (Zir n) 0).set i.toNat 1 else List.replicate (Zir n) 0
end
section
variable{T:Tbl}[Zx T][Zab T][Zw T][Z9 T][Z5 T][Za1 T][Zv T][Zas T]
def Znz(n:Int)(i:Nat):St:=⟨[(0,.i .i64 n),(3,.bs (.loc 3) 1 3 0 i),(4,.i .i64 i)],[(.loc 3,⟨1,.own,3,Zd (List.replicate i (fz 0))⟩)],3⟩
end
class Zjt (T:Tbl):Prop where
theorem zmr{α:Type}(l:List α){i:Nat}(h:i<l.length):l.take (i+1)=l.take i++[l[i]'h]:=Ys h
section
variable{T:Tbl}[Zx T][Zab T][Zw T][Z9 T][Z5 T][Za1 T][Zv T][Zas T][Zcy T][Zch T]
theorem zqi(x:Fz):Zb T 248 [efz x]=some (efz x):=by
 rw[zab Zcy.h248 rfl,b248];simp -implicitDefEqProofs
theorem zy2(x:Fz):Zb T 249 [efz x]=some (efz x):=by
 rw[zab Zcy.h249 rfl,b249];simp -implicitDefEqProofs
def Zgu(l:List Fz)(i:Nat):St:=⟨[(0,.sl (Zd l) .an),(3,.bs (.loc 3) 1 3 0 i),(4,.i .i64 i)],[((.loc 3),⟨1,.own,3,Zd (l.take i)⟩)],3⟩
theorem zvu(l:List Fz)(hl:l.length≤4294967296) :
  Ze T 0 0 (.norm false [3]) l287_0 (Zgu l 0)=some (.n,⟨[(3,.bs (.loc 3) 1 3 0 (l.length))],[((.loc 3),⟨1,.own,3,Zd (l.take (l.length))⟩)],3⟩):=by
 refine zan (Zgu l) (l.length) _ (fun i hi=>?_) ?_
 ·have hws:=za8 hi (by omega);have hb:i≤4294967295:=by omega
  have hg:l[i]? = some (l[i]'hi):=Ya hi;have hn:=zqi (T:=T) (l[i]'hi);have e:=zmr l hi;have hml:(l.take i).length=i:=by simp;omega
  have hp:=zfs hml (l[i]'hi);unfold Zgu;rw[e];clear e;generalize l.take i=M at *
  simp -implicitDefEqProofs[l287_0,hi,hws,hb,hp,hml,hg,hn]
 ·unfold Zgu;rw[Yb (Yg _)];constructor<;>simp -implicitDefEqProofs[l287_0]
theorem zqj(l:List Fz)(hl:l.length≤4294967296):Zb T 287 [.sl (Zd l) .an]=some (.sl (Zd l) .an):=by
 have h:=zvu (T:=T) l hl;unfold Zgu at h;rw[Ydz,Yb (Yg _)]at h;simp only[zbu,Yr]at h;have ht:List.take l.length l=l:=Yb (Yg _);rw[zab Zch.h287 rfl,b287];simp -implicitDefEqProofs[h,ht]
def Zgv(l:List Fz)(i:Nat):St:=⟨[(0,.sl (Zd l) .an),(3,.bs (.loc 3) 1 3 0 i),(4,.i .i64 i)],[((.loc 3),⟨1,.own,3,Zd (l.take i)⟩)],3⟩
theorem zvv(l:List Fz)(hl:l.length≤4294967296) :
  Ze T 0 0 (.norm false [3]) l288_0 (Zgv l 0)=some (.n,⟨[(3,.bs (.loc 3) 1 3 0 (l.length))],[((.loc 3),⟨1,.own,3,Zd (l.take (l.length))⟩)],3⟩):=by
 refine zan (Zgv l) (l.length) _ (fun i hi=>?_) ?_
 ·have hws:=za8 hi (by omega);have hb:i≤4294967295:=by omega
  have hg:l[i]? = some (l[i]'hi):=Ya hi;have hn:=zy2 (T:=T) (l[i]'hi);have e:=zmr l hi;have hml:(l.take i).length=i:=by simp;omega
  have hp:=zfs hml (l[i]'hi);unfold Zgv;rw[e];clear e;generalize l.take i=M at *
  simp -implicitDefEqProofs[l288_0,hi,hws,hb,hp,hml,hg,hn]
 ·unfold Zgv;rw[Yb (Yg _)];constructor<;>simp -implicitDefEqProofs[l288_0]
theorem zy3(l:List Fz)(hl:l.length≤4294967296):Zb T 288 [.sl (Zd l) .an]=some (.sl (Zd l) .an):=by
 have h:=zvv (T:=T) l hl;unfold Zgv at h;rw[Ydz,Yb (Yg _)]at h;simp only[zbu,Yr]at h;have ht:List.take l.length l=l:=Yb (Yg _);rw[zab Zch.h288 rfl,b288];simp -implicitDefEqProofs[h,ht]
theorem zy4(a b:List Fz)(hl:a.length≤1000)(ha:∀x∈a,fsz x≤10000):Zb T 289 [.sl (Zd a) .an,.sl (Zd b) .an]=some (.b (decide (a=b))):=by
 have h1:=zy3 (T:=T) a (by omega);have h2:=zst (T:=T) a b hl ha;rw[zab Zch.h289 rfl,b289];simp -implicitDefEqProofs[h1,h2]
end
def Zlb:List (List Fz)→Nat
 | []=>0
 | r::_=>r.length
def Zmk(m:List (List Fz)):Bool:=m.all fun r=>decide (r.length=Zlb m)
def Zls(m:List (List Fz))(j:Nat):List Fz:=m.map fun r=>r.getD j (false,[],[])
def Zlt(m:List (List Fz))(k:Nat):List (List Fz):=(List.range k).map fun j=>nrm (Zls m j)
def scM(r:List Fz)(m:List (List Fz)):List (List Fz):=List.zipWith (fun x row=>scl (fv x) row) r m
def Zml:List (List Fz)→List Rat
 | []=>[]
 | r::m=>m.foldl Zkr (r.map fv)
def Zlu(r:List Fz)(m:List (List Fz)):List Rat:=Zml (scM r m)
def Zlc(m:List (List Fz))(c:List Fz):List Rat:=m.map fun r=>Ziq r c
section
variable{T:Tbl}[Zp T][Z0 T][Z3 T][Zq T][Zu T][Zay T][Zl T][Zo T][Zr T][Zcc T][Zdq T][Zjt T]
def Znc(m:List (List Fz))(i:Nat):St:=⟨[(0,.sl (Zbf m) .an),(5,.sl (Zbf m) .an),(6,.i .i64 m.length),(7,.i .i64 i)],[],2⟩
def Znd(a b:List (List Fz))(i:Nat):St:=⟨[(1,.sl (Zbf b) .an),(12,.sl (Zbf a) .an),(13,.i .i64 a.length),(14,.i .i64 i)],[],2⟩
def idQ(k:Nat)(i:Nat):List (List Fz):=(List.range i).map fun j=>fzs ((List.replicate k 0).set j 1)
def Zne(k:Nat)(i:Nat):St:=⟨[(0,.i .i64 k),(3,.bs (.loc 3) 1 1 0 i),(8,.i .i64 k),(9,.i .i64 i)],[((.loc 3),⟨1,.own,1,Zbf (idQ k i)⟩)],3⟩
def Znf(m R:List (List Fz))(k j:Nat)(i:Nat):St:=⟨[(0,.sl (Zbf m) .an),(3,.bs (.loc 3) 1 1 0 j),(4,.i .i64 j),(5,.bs (.loc 5) 2 3 0 i),(12,.i .i64 k),(13,.i .i64 j),(16,.sl (Zbf m) .an),(17,.i .i64 m.length),(18,.i .i64 i)],[(.loc 3,⟨1,.own,1,Zbf R⟩),((.loc 5),⟨2,.own,3,Zd (nrm (Zls (m.take i) j))⟩)],4⟩
def Zma(m:List (List Fz))(k:Nat)(i:Nat):St:=⟨[(0,.sl (Zbf m) .an),(3,.bs (.loc 3) 1 1 0 i),(12,.i .i64 k),(13,.i .i64 i)],[((.loc 3),⟨1,.own,1,Zbf (Zlt m i)⟩)],3⟩
end
section
variable{T:Tbl}[Zp T][Z0 T][Z3 T][Zq T][Zu T][Zay T][Zl T][Zo T][Zr T][Zcc T][Zdq T][Zjt T]
def Zng(r:List Fz)(m:List (List Fz))(i:Nat):St:=⟨[(0,.sl (Zd r) .an),(6,.bs (.loc 6) 1 1 0 i),(19,.sl (Zbf m) .an),(20,.i .i64 m.length),(21,.i .i64 i)],[((.loc 6),⟨1,.own,1,Zbf (scM (r.take i) (m.take i))⟩)],3⟩
def Znh(m:List (List Fz))(c:List Fz)(i:Nat):St:=⟨[(1,.sl (Zd c) .an),(6,.bs (.loc 6) 1 3 0 i),(21,.sl (Zbf m) .an),(22,.i .i64 m.length),(23,.i .i64 i)],[((.loc 6),⟨1,.own,3,Zd (fzs (Zlc (m.take i) c))⟩)],3⟩
def Zmm(a b:List (List Fz)):List (List Fz):=a.map fun r=>fzs (Zlu r b)
def Zni(a m:List (List Fz))(i:Nat):St:=⟨[(1,.sl (Zbf m) .an),(6,.bs (.loc 6) 1 1 0 i),(26,.sl (Zbf a) .an),(27,.i .i64 a.length),(28,.i .i64 i)],[((.loc 6),⟨1,.own,1,Zbf (Zmm (a.take i) m)⟩)],3⟩
def Zmn(a b:List (List Fz)):List (List Fz):=List.zipWith (fun r s=>fzs (Zkr (r.map fv) s)) a b
def Znj(a m:List (List Fz))(i:Nat):St:=⟨[(1,.sl (Zbf m) .an),(6,.bs (.loc 6) 1 1 0 i),(33,.sl (Zbf a) .an),(34,.i .i64 a.length),(35,.i .i64 i)],[((.loc 6),⟨1,.own,1,Zbf (Zmn (a.take i) (m.take i))⟩)],3⟩
end
def Zl3:List Rat→List Rat→Rat
 | x::a,y::b=>x*y+Zl3 a b
 | _,_=>0
def Zm6(m:List (List Fz)):List (List Rat):=m.map fun r=>r.map fv
def fzM(L:List (List Rat)):List (List Fz):=L.map fzs
def Zkg:List (List Rat)→Nat
 | []=>0
 | r::_=>r.length
def Zm7(L:List (List Rat)):Bool:=L.all fun r=>decide (r.length=Zkg L)
def Zld(L:List (List Rat))(j:Nat):List Rat:=L.map fun p=>p.getD j 0
def Zl4(L:List (List Rat)):List (List Rat):=(List.range (Zkg L)).map (Zld L)
def Zkh(L:List (List Rat))(c:List Rat):List Rat:=L.map fun p=>Zl3 p c
def Zn2(r:List Rat)(L:List (List Rat)):List Rat:=Zkh (Zl4 L) r
def Zlr(q:Rat):Rat:=if q<0 then -q else q
def Zl6(c:Rat)(l:List Rat):List Rat:=l.map fun x=>c*x
def Zm8(a b:List Rat):List Rat:=List.zipWith (· + ·) a b
def Zkt(b x:Rat):Rat:=if b<Zlr x then Zlr x else b
def Zk6(l:List Rat):Rat:=l.foldl Zkt 0
def Zm9:List (Rat×List Rat)→List Rat→List Rat
 | [],acc=>acc
 | p::l,acc=>Zm9 l (Zm8 acc (Zl6 p.1 p.2))
def sqC:List UInt32→Nat
 | []=>0
 | x::r=>4294967296*(x.toNat*val r)+4294967296*4294967296*sqC r
def sqD:List UInt32→Nat
 | []=>0
 | x::r=>x.toNat*x.toNat+4294967296*4294967296*sqD r
section
variable{T:Tbl}[Zad T][Zp T][Z0 T][Z3 T][Zcz T]
theorem zqn(a:List UInt32)(ha:a.length≤1000000):Zb T 356 [.sl (Za a) .an]=some (.i .i64 (Zao (val a))):=by
 have h1:=zbj (T:=T) a (by omega);have hl:=zad a;have hv:val (ofN (val a))=val a:=zae _;rw[zab Zcz.h356 rfl,b356];by_cases h0:val a=0
 ·have e:ofN (val a)=[]:=zau.2 h0;have eb:Zao (val a)=0:=by rw[h0];rfl
  rw[e]at h1;rw[eb];simp -implicitDefEqProofs[h1]
 ·have hne:ofN (val a)≠[]:=fun h=>h0 (zau.1 h);obtain⟨B,x,hB⟩:∃B x,ofN (val a)=B++[x]:=⟨_,_,(List.dropLast_concat_getLast hne).symm⟩;have hx0:x.toNat≠0:=by
   intro hx;have e1:val (ofN (val a))=val B:=by
    rw[hB,zah];simp[hx]
   have e2:ofN (val B)=ofN (val a):=by rw[←e1,zae]
   have e3:=zad B;rw[e2,hB]at e3;simp at e3;omega
  have hlog:Zao (val a)=32*B.length+Zao x.toNat:=by
   have hdiv:val a/2^(32*B.length)=x.toNat:=by
    have e1:val a=val B+4294967296^B.length*x.toNat:=by
     rw[←hv,hB,zah];simp
    have e2:2^(32*B.length)=4294967296^B.length:=by
     rw[Yei]
    have e3:=za0 B;rw[e2,e1,Yb6 _ _ (by omega),Ybc e3,Yax]
   have:=zju (n:=val a) (s:=32*B.length) (by rw[hdiv];exact hx0);rw[hdiv]at this;exact this
  have hbl:B.length+1≤1000000:=by
   have:=congrArg List.length hB;simp at this;omega
  have hL:=zqm (T:=T) x;have hb32:Zao x.toNat≤32:=by
   have hx:=zaj x;unfold Zao;split
   ·omega
   ·have:=(Ye1 (n:=x.toNat) (k:=32) (by assumption)).2 (by omega);omega
  rw[hB]at h1;rw[hlog];have w1:IntKind.wrap .i64 ((B.length:Int)+1-1)=(B.length:Int):=by
   rw[Int.add_sub_cancel];exact zac _ (by omega)
  have w2:IntKind.wrap .i64 (32*(B.length:Int))=32*(B.length:Int):=zac _ (by omega);have w3:IntKind.wrap .i64 (32*(B.length:Int)+(Zao x.toNat:Int))=32*(B.length:Int)+(Zao x.toNat:Int):=zac _ (by omega);have w4:IntKind.wrap .i64 (B.length:Int)=B.length:=zac _ (by omega);have n1:¬ (B.length:Int)+1=0:=by omega
  have n2:(B.length:Int)<(B.length:Int)+1:=by omega
  clear hlog hB hne hb32;simp -implicitDefEqProofs[h1,hL,w1,w2,w3,w4,n1,n2]
def Zno(a X:List UInt32)(i:Nat):St:=
 ⟨[(0,.sl (Za a) .an),(3,.bs (.loc 14) 1 1 0 (2*a.length+1)),(15,.sl (Za a) .an),(16,.i .i64 a.length),(17,.i .i64 i)],[(.loc 14,⟨1,.own,1,Za (X++List.replicate (a.length+1-i) 0)⟩)],3⟩
def Znp(a X:List UInt32)(U:List (List AV))(i:Nat):St:=
 ⟨[(6,.sl U .an),(7,.bs (.loc 38) 1 1 0 (2*a.length)),(39,.sl (Za a) .an),(40,.i .i64 a.length),(41,.i .i64 i)],[(.loc 38,⟨1,.own,1,Za (X++List.replicate (2*a.length-2*i) 0)⟩)],3⟩
end
class Zla (T:Tbl):Prop where
class Zju (T:Tbl):Prop where
section
variable{T:Tbl}[Zx T][Zab T][Zw T][Z9 T][Z5 T][Za1 T][Zv T][Zas T][Zju T]
def Znq(m:List (List Fz))(i:Nat):St:=⟨[(0,.sl (Zbf m) .an),(3,.i .i64 i)],[],2⟩
def Znr(m:List (List Fz))(i:Nat):St:=⟨[(0,.sl (Zbf m) .an),(3,.bs (.loc 3) 1 1 0 i),(4,.i .i64 i)],[((.loc 3),⟨1,.own,1,Zbf (fzM (Zm6 (m.take i)))⟩)],3⟩
def Zns(a b:List (List Fz))(i:Nat):St:=⟨[(0,.sl (Zbf a) .an),(1,.sl (Zbf b) .an),(5,.i .i64 i)],[],2⟩
def Znt(n:Int)(k:Nat)(i:Nat):St:=⟨[(0,.i .i64 n),(3,.bs (.loc 3) 1 1 0 i),(4,.i .i64 i)],[((.loc 3),⟨1,.own,1,Zbf (idQ k i)⟩)],3⟩
def Zms(L:List (List Rat))(R:List (List Fz))(j:Nat)(i:Nat):St:=⟨[(0,.sl (Zbf (fzM L)) .an),(3,.bs (.loc 3) 1 1 0 j),(4,.i .i64 j),(5,.bs (.loc 5) 2 3 0 i),(6,.i .i64 i)],[(.loc 3,⟨1,.own,1,Zbf R⟩),((.loc 5),⟨2,.own,3,Zd (fzs (Zld (L.take i) j))⟩)],4⟩
def Zmt(L:List (List Rat))(i:Nat):St:=⟨[(0,.sl (Zbf (fzM L)) .an),(3,.bs (.loc 3) 1 1 0 i),(4,.i .i64 i)],[((.loc 3),⟨1,.own,1,Zbf (fzM ((List.range i).map (Zld L)))⟩)],3⟩
def Znu(L:List (List Rat))(c:List Rat)(i:Nat):St:=⟨[(0,.sl (Zbf (fzM L)) .an),(1,.sl (Zd (fzs c)) .an),(5,.bs (.loc 5) 1 3 0 i),(6,.i .i64 i)],[((.loc 5),⟨1,.own,3,Zd (fzs (Zkh (L.take i) c))⟩)],3⟩
def Znv(m:List (List Fz))(many words:Nat):Bool:=decide (many<m.length) || m.any fun r=>Zeq r many words
def Znw(m:List (List Fz))(many words:Nat)(i:Nat):St:=⟨[(0,.sl (Zbf m) .an),(1,.i .i64 many),(2,.i .i64 words),(7,.i .i64 i)],[],2⟩
end
theorem z8x{l:List Rat}{B:Nat}(h:∀q∈l,sz q≤B):∀x∈fzs l,fsz x≤B:=by
 intro x hx;obtain⟨q,hq,rfl⟩:=Yam.1 hx;exact h q hq
section
variable{T:Tbl}[Zp T][Z0 T][Z3 T][Zq T][Zu T][Zay T][Zl T][Zo T][Zr T][Zcc T][Zdq T][Zjt T][Zx T][Zab T][Zw T][Z9 T][Z5 T][Za1 T][Zv T][Zas T][Zju T][Zcy T][Zch T][Zla T]
def Zmo(m:List (List Fz))(i:Nat):St:=⟨[(0,.sl (Zbf m) .an),(3,.bs (.loc 3) 1 1 0 i),(4,.i .i64 i)],[((.loc 3),⟨1,.own,1,Zbf (m.take i)⟩)],3⟩
def Zmp(a b:List (List Fz))(i:Nat):St:=⟨[(0,.sl (Zbf a) .an),(1,.sl (Zbf b) .an),(5,.i .i64 i)],[],2⟩
end
class Zlk (T:Tbl):Prop where
def Zlw(l:List Rat):Nat→Nat
 | 0=>0
 | n+1=>if l.getD n 0=0 then Zlw l n else n+1
def Znn(l:List Rat):List Rat:=l.take (Zlw l l.length)
section
variable{T:Tbl}[Zp T][Z0 T][Z3 T][Zq T][Zu T][Zay T][Zl T][Zo T][Zr T][Zcc T][Zdq T][Zlk T]
def Zmr:List Rat→Rat→Rat
 | [],_=>0
 | a::l,x=>Zmr l x*x+a
def dif(l:List Rat):List Rat:=(List.range (l.length-1)).map fun(i:Nat)=>(((i:Int)+1:Int):Rat)*l.getD (i+1) 0
def Zog(l:List Fz)(i:Nat):St:=⟨[(0,.sl (Zd l) .an),(3,.bs (.loc 3) 1 3 0 i),(4,.i .i64 ((i:Int)+1))],[((.loc 3),⟨1,.own,3,Zd (fzs ((dif (l.map fv)).take i))⟩)],3⟩
end
def Zcv(x:Fz):Nat:=Zao (val x.2.1)+Zao (val x.2.2)
def Zmx(l:List Fz):Nat:=l.foldl (fun n x=>max n (Zcv x)) 0
theorem zg0{x k:Nat}(h:(ofN x).length≤k):Zao x≤32*k:=by
 unfold Zao;split
 ·omega
 ·next h0=>
  have h1:=za0 (ofN x);rw[zae]at h1;have h2:4294967296^(ofN x).length≤4294967296^k:=Y4 (by decide) h;have h3:(4294967296:Nat)^k=2^(32*k):=by rw[Yei]
  have:=(Ye1 (n:=x) (k:=32*k) h0).2 (by omega);omega
section
variable{T:Tbl}[Zad T][Zp T][Z0 T][Z3 T][Zq T][Zu T][Zay T][Zl T][Zo T][Zr T][Zbj T][Za6 T][Zcz T][Zcc T][Zdq T][Zlm T]
def Zly(b c:Rat)(i:Nat):Rat:=if i=0 then 0 else if i=1 then b else (if b<c then c else b)
def Zoq(b c:Rat)(i:Nat):St:=⟨[(2,.ptr (.loc 2) 1 3 0 0),(3,.ptr (.loc 3) 2 3 0 0),(7,.sl [Zce (fz b),Zce (fz c)] .an),(8,.i .i64 2),(9,.i .i64 i)],
 [(.loc 2,⟨1,.str,3,[Zfw]⟩),(.loc 3,⟨2,.str,3,[Zce (fz (Zly b c i))]⟩)],4⟩
def Zor(l:List Fz)(i:Nat):St:=⟨[(2,.ptr (.loc 2) 1 3 0 0),(3,.ptr (.loc 3) 2 3 0 0),(7,.sl (Zd l) .an),(8,.i .i64 l.length),(9,.i .i64 i)],
 [(.loc 2,⟨1,.str,3,[Zfw]⟩),(.loc 3,⟨2,.str,3,[Zce (fz (Zk6 ((l.map fv).take i)))]⟩)],4⟩
def Zos(l:List Fz)(i:Nat):St:=⟨[(3,.i .i64 (Zmx (l.take i))),(6,.sl (Zd l) .an),(7,.i .i64 l.length),(8,.i .i64 i)],[],2⟩
end
section
variable{T:Tbl}[Zx T][Zab T][Zw T][Z9 T][Z5 T][Za1 T][Zv T][Zas T][Zd6 T]
theorem zahm(p q:Rat)(hp:sz p≤1000)(hq:sz q≤1000):Zb T 240 [efz (fz p),efz (fz q)]=some (efz (fz (p-q))):=by
 have c1:=znb (T:=T) (fz q) (by rw[zcg];omega);rw[zeq]at c1;have c2:=zjw (T:=T) p (-q) hp (by rw[zxu];exact hq);rw[←Ydq]at c2;rw[zab Zv.h240 rfl,b240];generalize fz (p-q)=R at *
 generalize fz (-q)=N at *
 generalize fz p=X at *
 generalize fz q=Y at *
 simp -implicitDefEqProofs[c1,c2]
theorem zs6(x:Fz)(hx:fsz x≤10000):Zb T 245 [efz x]=some (.i .i64 (Zcv x)):=by
 have h1:=zcj x;have h2:=zcv x;have c1:=zj3 (T:=T) x.2.1 (by omega);have c2:=zj3 (T:=T) x.2.2 (by omega);have b1:=zg0 (x:=val x.2.1) (k:=10000) (Yf (zad x.2.1) (by omega));have b2:=zg0 (x:=val x.2.2) (k:=10000) (Yf (zad x.2.2) (by omega));have w:IntKind.wrap .i64 ((Zao (val x.2.1):Int)+(Zao (val x.2.2):Int))=((Zcv x:Nat):Int):=by
  have e:((Zcv x:Nat):Int)=(Zao (val x.2.1):Int)+(Zao (val x.2.2):Int):=by unfold Zcv;omega
  rw[e];exact zac _ (by omega)
 rw[zab Zd6.h245 rfl,b245];generalize Zcv x=S at *
 generalize Zao (val x.2.1)=B1 at *
 generalize Zao (val x.2.2)=B2 at *
 simp -implicitDefEqProofs[c1,c2,w]
def Zot(c:Rat)(p:List Rat)(i:Nat):St:=⟨[(1,.sl (Zd (fzs p)) .an),(2,.ptr (.loc 2) 1 3 0 0),(5,.bs (.loc 5) 2 3 0 i),(6,.i .i64 i)],
 [(.loc 2,⟨1,.str,3,[Zce (fz c)]⟩),(.loc 5,⟨2,.own,3,Zd (fzs ((Zl6 c p).take i))⟩)],4⟩
def Zou(p:List Rat)(i:Nat):St:=⟨[(0,.sl (Zd (fzs p)) .an),(2,.ptr (.loc 2) 1 3 0 0),(3,.ptr (.loc 3) 2 3 0 0),(4,.i .i64 i)],
 [(.loc 2,⟨1,.str,3,[Zfw]⟩),(.loc 3,⟨2,.str,3,[Zce (fz (Zk6 (p.take i)))]⟩)],4⟩
end
structure Ins where
 op:Int
 a:Int
 b:Int
 n:Fz
abbrev Zl7(i:Ins):List AV:=[.i .i64 i.op,.i .i64 i.a,.i .i64 i.b,.b i.n.1,.sl (Za i.n.2.1) .an,.sl (Za i.n.2.2) .an]
def Zjc(l:List Ins):List (List AV):=l.map Zl7
@[simp] theorem zacu:Zjc []=[]:=rfl
structure Tp where
 code:List Ins
 outs:List Int
 dim:Int
 par:Int
abbrev etp(t:Tp):AV:=.agg [.sl (Zjc t.code) .an,.sl (ints t.outs) .an,.i .i64 t.dim,.i .i64 t.par]
def Zle(x:Fz):Bool:=decide (x=fz (fv x))
def Zlf(x:Fz):Bool:=!x.1&&x.2.1.isEmpty&&x.2.2.isEmpty
def Zhy(i:Ins):List Int:=if i.op=6∨i.op=11 then [i.a] else if 7≤i.op∧i.op≤10 then [i.a,i.b] else []
def Zfx(i m:Int):Bool:=decide (0≤i)&&decide (i<m)
def Zl8(dim par p:Int)(i:Ins):Bool:=
 if i.op=1 then decide (i.a=0)&&decide (i.b=0)&&Zle i.n
 else Zlf i.n&&(Zhy i).all (fun r=>Zfx r p) &&
  (if i.op=2 then decide (i.a=0)&&decide (i.b=0)
   else if i.op=3 then Zfx i.a dim&&decide (i.b=0)
   else if i.op=4 then Zfx i.a par&&decide (i.b=0)
   else if i.op=6 then decide (i.b=0)
   else if i.op=11 then decide (-8≤i.b)&&decide (i.b≤8)
   else decide ((Zhy i).length=2))
def Zix(dim par:Int):Nat→List Ins→Int
 | _,[]=>-1
 | p,i::r=>if Zl8 dim par p i then Zix dim par (p+1) r else p
def Zlg(t:Tp):Bool:=Zfx (t.dim-1) 6&&Zfx t.par 7&&decide ((t.outs.length:Int)=t.dim)&&decide (t.code.length≤300)
def Zlh(t:Tp):Int:=
 if Zlg t=false then -2 else if Zix t.dim t.par 0 t.code≠-1 then Zix t.dim t.par 0 t.code
 else if (t.outs.all fun o=>Zfx o t.code.length)=false then t.code.length else -1
def okT(t:Tp):Bool:=decide (Zlh t=-1)
structure OkTp (t:Tp):Prop where
 d1:1≤t.dim
 d2:t.dim≤6
 p1:0≤t.par
 p2:t.par≤6
 ol:(t.outs.length:Int)=t.dim
 cl:t.code.length≤300
 may:∀(k:Nat) (i:Ins),t.code[k]? = some i→Zl8 t.dim t.par k i=true
 outs:∀o∈t.outs,0≤o∧o<t.code.length
structure Po where
 t:Rat
 y:List Rat
 p:List Rat
structure PoF where
 t:Fz
 y:List Fz
 p:List Fz
def PoF.v(x:PoF):Po:=⟨fv x.t,x.y.map fv,x.p.map fv⟩
def Po.f(x:Po):PoF:=⟨fz x.t,fzs x.y,fzs x.p⟩
abbrev ept(x:PoF):AV:=.agg [.b x.t.1,.sl (Za x.t.2.1) .an,.sl (Za x.t.2.2) .an,.sl (Zd x.y) .an,.sl (Zd x.p) .an]
def gI(l:List Rat)(i:Int):Rat:=l.getD i.toNat 0
def Zg0(x:Rat)(e:Int):Rat:=x^e
def Zii(P:Po)(D:List Rat)(i:Ins):Rat×Bool:=
 if i.op=1 then (fv i.n,true)
 else if i.op=3 then (gI P.y i.a,true)
 else if i.op=4 then (gI P.p i.a,true)
 else if i.op=6 then (-gI D i.a,true)
 else if i.op=7 then (gI D i.a+gI D i.b,true)
 else if i.op=8 then (gI D i.a-gI D i.b,true)
 else if i.op=9 then (gI D i.a*gI D i.b,true)
 else if i.op=10 then (gI D i.a/gI D i.b,decide (gI D i.b≠0))
 else if i.op=11 then (if i.b<0∧gI D i.a=0 then (0,false) else (Zg0 (gI D i.a) i.b,true))
 else (P.t,true)
def Zdt(q:Rat):Nat:=Zcv (fz q)
def Zki(lim:Nat)(P:Po):List Ins→List Rat→List Rat×Nat×Nat
 | [],D=>(D,0,0)
 | i::r,D=>if (Zii P D i).2=false then ([],3,D.length) else if lim<Zdt (Zii P D i).1 then ([],6,D.length) else Zki lim P r (D++[(Zii P D i).1])
abbrev tyI:Ty:=.cons (.int .i64) (.cons (.int .i64) (.cons (.int .i64) (.cons tyF .nil)))
abbrev tyT:Ty:=.cons (.sl tyI) (.cons (.sl (.int .i64)) (.cons (.int .i64) (.cons (.int .i64) .nil)))
abbrev tyP:Ty:=.cons tyF (.cons (.sl tyF) (.cons (.sl tyF) .nil))
theorem zu8{x:AV}(h:Zhj (true,tyP) x):∃t:PoF,wkA x=ept t:=by
 obtain⟨cs,rfl,c1,c1',rfl,h1,c2,c2',rfl,h2,c3,c3',rfl,h3,rfl⟩:=h;obtain⟨t,e1⟩:=z06 h1;obtain⟨y,e2⟩:=zmj h2;obtain⟨p,e3⟩:=zmj h3;refine⟨⟨t,y,p⟩,?_⟩;rw[wkA];simp only[zjm,e1,e2,e3]
 rfl
structure Nd where
 op:Int
 i:Int
 n:List UInt32
 deriving DecidableEq
abbrev Zcl(x:Nd):List AV:=[.i .i64 x.op,.i .i64 x.i,.sl (Za x.n) .an]
def Zt(l:List Nd):List (List AV):=l.map Zcl
@[simp] theorem z4i(l:List Nd):(Zt l).length=l.length:=by simp[Zt]
@[simp] theorem z4j(l:List Nd):wkL (Zt l)=Zt l:=by rw[zb1];simp[Zt,wkR,wkA]
@[simp] theorem zacv(l:List Nd)(i:Nat)(h:i<(Zt l).length):(Zt l)[i]=Zcl (l[i]'(by simpa using h)):=by simp[Zt]
theorem zx0(l:List Nd)(x:Nd):Zt l++[Zcl x]=Zt (l++[x]):=by simp[Zt]
@[simp] theorem z9s(l:List Nd)(n:Nat):(Zt l).take n=Zt (l.take n):=by simp[Zt]
@[simp] theorem zacw:Zt []=[]:=rfl
theorem znu{m:List Nd}{n:Nat}(h:m.length=n)(x:Nd):wkL (Zt (List.take n m)++[Zcl x])=Zt (m++[x]):=by
 rw[Yb (by omega),zx0,z4j]
@[simp] theorem z9t(l:List Nd):Option.all (fun r:List AV=>decide (r.length=3)) (Zt l).head? = true:=by cases l<;>rfl
@[simp] theorem z9u(l:List Nd):Zhz 3 (Zt l)=true:=by cases l<;>rfl
@[simp] theorem z1p(l:List Nd):(Zt l).isEmpty=l.isEmpty:=by cases l<;>rfl
def Z4(l:List (List Nd)):List (List AV):=l.map fun c=>[.sl (Zt c) .an]
@[simp] theorem zir(l:List (List Nd)):(Z4 l).length=l.length:=by simp[Z4]
@[simp] theorem zph(l:List (List Nd)):wkL (Z4 l)=Z4 l:=by rw[zb1];simp[Z4,wkR,wkA]
@[simp] theorem zacx(l:List (List Nd))(i:Nat)(h:i<(Z4 l).length):(Z4 l)[i]=[.sl (Zt (l[i]'(by simpa using h))) .an]:=by simp[Z4]
theorem znv(l:List (List Nd))(x:List Nd):Z4 l++[[.sl (Zt x) .an]]=Z4 (l++[x]):=by simp[Z4]
@[simp] theorem z0p:Z4 []=[]:=rfl
def arN(op:Int):Int:=if 1≤op∧op≤5 then 0 else if op=6∨op=11 then 1 else if 7≤op∧op≤10 then 2 else -1
theorem zay(op:Int):(arN op=0∧1≤op∧op≤5)∨(arN op=1∧(op=6∨op=11))∨(arN op=2∧7≤op∧op≤10)∨(arN op=-1∧(op<1∨11<op)):=by
 unfold arN;split
 ·left;omega
 ·split
  ·right;left;omega
  ·split
   ·right;right;left;omega
   ·right;right;right;omega
def Zs:Nat→Int→List Nd→Int
 | i,o,[]=>if o=1 then -1 else i
 | i,o,x::r=>if arN x.op<0∨o<arN x.op then i else Zs (i+1) (o+1-arN x.op) r
def Z2(l:List Nd):Int:=Zs 0 0 l
def Zn3(o:Int)(l:List Nd):Int:=l.foldl (fun o x=>o+1-arN x.op) o
def goL:Nat→Int→List Nd→Option Nat×Int
 | _,o,[]=>(none,o)
 | i,o,x::r=>if arN x.op<0∨o<arN x.op then (some i,o) else goL (i+1) (o+1-arN x.op) r
theorem zis:∀(l:List Nd) (i:Nat) (o:Int),Zs i o l=match goL i o l with
  | (some k,_)=>(k:Int)
  | (none,p)=>if p=1 then -1 else i+l.length
 | [],i,o=>by simp[Zs,goL]
 | x::r,i,o=>by
  unfold Zs goL;by_cases h:arN x.op<0∨o<arN x.op
  ·rw[if_pos h,if_pos h]
  ·rw[if_neg h,if_neg h,zis r (i+1) (o+1-arN x.op)];generalize goL (i+1) (o+1-arN x.op) r=G;obtain⟨_ | k,p⟩:=G
   ·dsimp only;by_cases hp:p=1
    ·rw[if_pos hp,if_pos hp]
    ·rw[if_neg hp,if_neg hp,Yc];omega
   ·rfl
def Zg1(n:List UInt32):Bool:=decide (n=ofN (val n))&&decide ((Zbd (val n)).length≤60)
def Zg8(i m:Int):Bool:=decide (0≤i)&&decide (i<m)
def okN(dim pars lets:Int)(x:Nd):Bool:=
 if x.op=1 then decide (x.i=0)&&Zg1 x.n
 else if x.n≠[]∨x.op<1∨11<x.op then false
 else if x.op=3 then Zg8 x.i dim else if x.op=4 then Zg8 x.i pars else if x.op=5 then Zg8 x.i lets
 else if x.op=11 then decide (-8≤x.i)&&decide (x.i≤8)
 else decide (x.i=0)
def Zdg(dim pars lets w:Int):Nat→List Nd→Int
 | _,[]=>w
 | i,x::r=>if (i:Int)=w∨okN dim pars lets x=false then i else Zdg dim pars lets w (i+1) r
def Zdu(dim pars lets w:Int):Nat→List Nd→Option Nat
 | _,[]=>none
 | i,x::r=>if (i:Int)=w∨okN dim pars lets x=false then some i else Zdu dim pars lets w (i+1) r
theorem ze8(dim pars lets w:Int):∀(l:List Nd) (i:Nat),Zdg dim pars lets w i l=match Zdu dim pars lets w i l with
  | some k=>(k:Int)
  | none=>w
 | [],i=>rfl
 | x::r,i=>by
  unfold Zdg Zdu;by_cases h:(i:Int)=w∨okN dim pars lets x=false
  ·rw[if_pos h,if_pos h]
  ·rw[if_neg h,if_neg h,ze8 dim pars lets w r (i+1)]
def Za7(dim pars lets:Int)(l:List Nd):Int:=Zdg dim pars lets (Z2 l) 0 l
inductive Tre where
 | leaf (x:Nd)
 | un (x:Nd) (a:Tre)
 | bin (x:Nd) (a b:Tre)
def Tre.flat:Tre→List Nd
 | .leaf x=>[x]
 | .un x a=>a.flat++[x]
 | .bin x a b=>a.flat++(b.flat++[x])
def Tre.ok:Tre→Prop
 | .leaf x=>arN x.op=0
 | .un x a=>arN x.op=1∧a.ok
 | .bin x a b=>arN x.op=2∧a.ok∧b.ok
def Tre.deep:Tre→Nat
 | .leaf _=>1
 | .un _ a=>a.deep+1
 | .bin _ a b=>max a.deep b.deep+1
theorem Tre.flat_ne(t:Tre):t.flat≠[]:=by cases t<;>simp[Tre.flat]
theorem Tre.flat_pos(t:Tre):0<t.flat.length:=Ybi.2 t.flat_ne
theorem Tre.deep_le:∀t:Tre,t.deep≤t.flat.length
 | .leaf _=>Yg _
 | .un x a=>by
  have:=a.deep_le;simp only[Tre.deep,Tre.flat,Yk,Yc,Yag];omega
 | .bin x a b=>by
  have:=a.deep_le;have:=b.deep_le;simp only[Tre.deep,Tre.flat,Yk,Yc,Yag];omega
def Zhm(s:List Tre):List Nd:=s.flatMap Tre.flat
theorem zdt:∀(l:List Nd) (i:Nat) (s:List Tre),(∀t∈s,t.ok)→Zs i s.length l=-1→∃t:Tre,t.ok∧t.flat=Zhm s++l
 | [],i,s,hs,h=>by
  unfold Zs at h;by_cases h1:(s.length:Int)=1
  ·obtain⟨t,rfl⟩:=Ybv.1 (show s.length=1 by omega);exact⟨t,hs t (by simp),by simp[Zhm]⟩
  ·rw[if_neg h1]at h;omega
 | x::r,i,s,hs,h=>by
  unfold Zs at h;by_cases h1:arN x.op<0∨(s.length:Int)<arN x.op
  ·rw[if_pos h1]at h;omega
  ·rw[if_neg h1]at h;rcases zay x.op with ⟨e,_⟩ | ⟨e,_⟩ | ⟨e,_⟩ | ⟨e,_⟩
   ·rw[e]at h;obtain⟨t,h2,h3⟩:=zdt r (i+1) (s++[.leaf x]) (by
     intro t ht;rcases Y5.1 ht with ht | ht
     ·exact hs t ht
     ·rw[Yaq.1 ht];exact e) (by rw[←h];congr 1;simp)
    exact⟨t,h2,by rw[h3];simp[Zhm,Tre.flat]⟩
   ·rw[e]at h h1;obtain⟨s',a,rfl⟩:=Yc4 s |>.resolve_left (by rintro rfl;simp at h1);rw[Yc5]at *
    obtain⟨t,h2,h3⟩:=zdt r (i+1) (s'++[.un x a]) (by
     intro t ht;rcases Y5.1 ht with ht | ht
     ·exact hs t (by simp[ht])
     ·rw[Yaq.1 ht];exact⟨e,hs a (by simp)⟩) (by rw[←h];congr 1;simp)
    exact⟨t,h2,by rw[h3];simp[Zhm,Tre.flat]⟩
   ·rw[e]at h h1;obtain⟨s1,b,rfl⟩:=Yc4 s |>.resolve_left (by rintro rfl;simp at h1);rw[Yc5]at *
    obtain⟨s2,a,rfl⟩:=Yc4 s1 |>.resolve_left (by rintro rfl;simp at h1);rw[Yc5]at *
    obtain⟨t,h2,h3⟩:=zdt r (i+1) (s2++[.bin x a b]) (by
     intro t ht;rcases Y5.1 ht with ht | ht
     ·exact hs t (by simp[ht])
     ·rw[Yaq.1 ht];exact⟨e,hs a (by simp),hs b (by simp)⟩) (by rw[←h];congr 1;simp;omega)
    exact⟨t,h2,by rw[h3];simp[Zhm,Tre.flat]⟩
   ·omega
theorem zit{l:List Nd}(h:Z2 l=-1):∃t:Tre,t.ok∧t.flat=l:=by
 obtain⟨t,h1,h2⟩:=zdt l 0 [] (by simp) h;exact⟨t,h1,by simpa[Zhm]using h2⟩
theorem zdu:∀(t:Tre),t.ok→∀(i:Nat) (o:Int) (r:List Nd),0≤o→Zs i o (t.flat++r)=Zs (i+t.flat.length) (o+1) r
 | .leaf x,h,i,o,r,ho=>by
  have e:arN x.op=0:=h;show Zs i o (x::r)=_;rw[Zs,if_neg (by omega),e];simp[Tre.flat]
 | .un x a,h,i,o,r,ho=>by
  have e:arN x.op=1:=h.1;rw[Tre.flat,Y7,zdu a h.2 i o _ ho];show Zs _ _ (x::r)=_;rw[Zs,if_neg (by omega),e];congr 1
  ·simp;omega
  ·omega
 | .bin x a b,h,i,o,r,ho=>by
  have e:arN x.op=2:=h.1;rw[Tre.flat,Y7,zdu a h.2.1 i o _ ho,Y7,zdu b h.2.2 _ _ _ (by omega)];show Zs _ _ (x::r)=_;rw[Zs,if_neg (by omega),e];congr 1
  ·simp;omega
  ·omega
theorem zb4{t:Tre}(h:t.ok):Z2 t.flat=-1:=by
 have:=zdu t h 0 0 [] (by decide);rw[Ya2]at this;unfold Z2;rw[this];rfl
theorem zda:∀(l:List Nd) (i:Nat) (o:Int),Zs i o l=-1∨(i≤Zs i o l∧Zs i o l≤i+l.length)
 | [],i,o=>by
  unfold Zs;split
  ·left;rfl
  ·right;simp
 | x::r,i,o=>by
  unfold Zs;split
  ·right;simp;omega
  ·rcases zda r (i+1) (o+1-arN x.op) with h | h
   ·left;exact h
   ·right;simp only[Yc];omega
theorem ziu(dim pars lets w:Int):∀(l:List Nd) (i:Nat),Zdg dim pars lets w i l<0→w<0∧∀x∈l,okN dim pars lets x=true
 | [],i,h=>⟨h,by simp⟩
 | x::r,i,h=>by
  unfold Zdg at h;split at h
  ·omega
  ·next h1=>
   obtain⟨h2,h3⟩:=ziu dim pars lets w r (i+1) h;refine⟨h2,fun y hy=>?_⟩;rcases Yaa.1 hy with rfl | hy
   ·cases hk:okN dim pars lets y with
    | true=>rfl
    | false=>exact absurd (.inr hk) h1
   ·exact h3 y hy
theorem znw(dim pars lets w:Int):∀(l:List Nd) (i:Nat),Zdg dim pars lets w i l=w∨(i≤Zdg dim pars lets w i l∧Zdg dim pars lets w i l<i+l.length)
 | [],i=>.inl rfl
 | x::r,i=>by
  unfold Zdg;split
  ·right;simp only[Yc];omega
  ·rcases znw dim pars lets w r (i+1) with h | h
   ·left;exact h
   ·right;simp only[Yc];omega
theorem zb5{dim pars lets:Int}{l:List Nd}(h:Za7 dim pars lets l<0):∃t:Tre,t.ok∧t.flat=l∧∀x∈l,okN dim pars lets x=true:=by
 obtain⟨h1,h2⟩:=ziu dim pars lets _ l 0 h;have h3:Z2 l=-1:=by
  rcases zda l 0 0 with h | h
  ·exact h
  ·unfold Z2 at h1;omega
 obtain⟨t,h4,h5⟩:=zit h3;exact⟨t,h4,h5,h2⟩
theorem znx(dim pars lets:Int)(l:List Nd):Za7 dim pars lets l=-1∨(0≤Za7 dim pars lets l∧Za7 dim pars lets l≤l.length):=by
 unfold Za7;rcases znw dim pars lets (Z2 l) l 0 with h | h
 ·rw[h];unfold Z2;rcases zda l 0 0 with h | h<;>omega
 ·right;omega
theorem zkd{a:List UInt32}:(ofN (val a)).length=a.length↔a=ofN (val a):=by
 constructor
 ·intro h;obtain⟨n,h1,h2,_⟩:=zep a;have h3:n=a.length:=by
   have:=congrArg List.length h2;rw[Yx,h]at this;omega
  rw[h3,Ya7]at h2;exact h2
 ·intro h;exact(congrArg List.length h).symm
structure Lt where
 name:List UInt8
 code:List Nd
abbrev Zig(x:Lt):List AV:=[.s x.name,.sl (Zt x.code) .an]
def Z7(l:List Lt):List (List AV):=l.map Zig
@[simp] theorem zgr(l:List Lt):(Z7 l).length=l.length:=by simp[Z7]
@[simp] theorem z0m(l:List Lt):wkL (Z7 l)=Z7 l:=by rw[zb1];simp[Z7,wkR,wkA]
@[simp] theorem z9l(l:List Lt)(i:Nat)(h:i<(Z7 l).length):(Z7 l)[i]=Zig (l[i]'(by simpa using h)):=by simp[Z7]
theorem ztf(l:List Lt)(x:Lt):Z7 l++[Zig x]=Z7 (l++[x]):=by simp[Z7]
@[simp] theorem zxr:Z7 []=[]:=rfl
structure Fd where
 lets:List Lt
 outs:List (List Nd)
abbrev efd(f:Fd):AV:=.agg [.sl (Z7 f.lets) .an,.sl (Z4 f.outs) .an]
def codesD(f:Fd):List (List Nd):=f.lets.map (·.code)++f.outs
abbrev tyN:Ty:=.cons (.int .i64) (.cons (.int .i64) (.cons (.sl (.int .u32)) .nil))
abbrev tyL:Ty:=.cons .str (.cons (.sl tyN) .nil)
abbrev tyD:Ty:=.cons (.sl tyL) (.cons (.sl (.sl tyN)) .nil)
theorem z8t{cs:List AV}(h:Ok tyN cs):∃x:Nd,wkR cs=Zcl x:=by
 obtain⟨c1,c1',rfl,⟨a,rfl,_⟩,c2,c2',rfl,⟨b,rfl,_⟩,c3,c3',rfl,⟨els,f,rfl,_,_,he⟩,rfl⟩:=h;obtain⟨l,rfl⟩:=zgz els he;exact⟨⟨a,b,l⟩,by simp[wkA,wkR]⟩
theorem zmk:∀(els:List (List AV)),(∀r∈els,Ok tyN r)→∃l:List Nd,wkL els=Zt l
 | [],_=>⟨[],rfl⟩
 | r::els,h=>by
  obtain⟨l,hl⟩:=zmk els fun r hr=>h r (Yw _ hr);obtain⟨x,hx⟩:=z8t (h r Yaj);refine⟨x::l,?_⟩;simp only[wkL,hx,hl]
  rfl
theorem zjn{cs:List AV}(h:Ok (.sl tyN) cs):∃l:List Nd,wkR cs=[.sl (Zt l) .an]:=by
 obtain⟨els,f,rfl,_,_,he⟩:=h;obtain⟨l,hl⟩:=zmk els he;exact⟨l,by simp[wkR,wkA,hl]⟩
theorem zjo:∀(els:List (List AV)),(∀r∈els,Ok (.sl tyN) r)→∃l:List (List Nd),wkL els=Z4 l
 | [],_=>⟨[],rfl⟩
 | r::els,h=>by
  obtain⟨l,hl⟩:=zjo els fun r hr=>h r (Yw _ hr);obtain⟨x,hx⟩:=zjn (h r Yaj);refine⟨x::l,?_⟩;simp only[wkL,hx,hl]
  rfl
theorem zml:∀(els:List (List AV)),(∀r∈els,Ok tyL r)→∃l:List Lt,wkL els=Z7 l
 | [],_=>⟨[],rfl⟩
 | r::els,h=>by
  obtain⟨l,hl⟩:=zml els fun r hr=>h r (Yw _ hr);obtain⟨c1,c1',hr,⟨s,rfl,_⟩,c2,c2',rfl,h2,rfl⟩:=h r Yaj;obtain⟨x,hx⟩:=zjn h2;refine⟨⟨s,x⟩::l,?_⟩;subst hr;simp only[wkL,zjm,hx,hl]
  rfl
theorem zu9{x:AV}(h:Zhj (true,tyD) x):∃f:Fd,wkA x=efd f:=by
 obtain⟨cs,rfl,c1,c1',rfl,⟨els,f,rfl,_,_,he⟩,c2,c2',rfl,⟨els2,f2,rfl,_,_,he2⟩,rfl⟩:=h;obtain⟨l,hl⟩:=zml els he;obtain⟨m,hm⟩:=zjo els2 he2;refine⟨⟨l,m⟩,?_⟩;simp[wkA,wkR,hl,hm]
abbrev Zn5:Ty:=.cons (.sl tyF) (.cons (.int .i64) .nil)
end Go.Ab
section
namespace Go.Proofs.YtjhilbodpmnbmaaGreatDoor
open Go Go.Ab Go.ChangeShapes Go.WideShapes Go.ChangeAt Go.RowKit
theorem Tryz.own:ownKnob Tryz.prog.godebug=none:=by kernel_rfl
theorem Tryz.laidOut:laidOutB Tryz.prog=true:=by kernel_rfl
theorem Tryz.mixed:Tryz.prog.follows .mixedOrders=true:=by kernel_rfl
theorem Tryz.rowed:mapsRowed Tryz.prog=true:=by kernel_rfl
theorem Tryz.heard:Tryz.prog.stopsHeard=true:=by kernel_rfl
theorem Tryz.enters:Tryz.prog.mayEnter=true:=by kernel_rfl
theorem Tryz.keys:Tryz.prog.plainKeys=Rows.evalFieldsRow.plainKeys:=by kernel_rfl
theorem Tryz.lifts:Tryz.prog.liftsFinal=Rows.evalFieldsRow.lifted:=by kernel_rfl
theorem Tryz.makes:Tryz.prog.make=some Rows.evalFieldsRow.make:=by kernel_rfl
def laid2:List (String×DataW Unit):=[("unicode/utf8.acceptRanges",Rows.laid_unicode_utf8_acceptRanges),("unicode/utf8.first",Rows.laid_unicode_utf8_first)]
noncomputable def laidWorld(os:Os):World:=
 let put (h:Array Obj) (g:Nat) (cs:Array Value):Array Obj:=h.modify g fun
  | .cells _ t frozen=>.cells cs t frozen
  | o=>o
 let w0:=World.holding Tryz.prog os ⟨#[],#[],[]⟩
 let h1:=put w0.heap 1 (Lib.firstTab.map fun z=>Value.int .u8 z).toArray
 let h2:=put h1 2 ((List.range 16).flatMap fun i=>[Value.int .u8 (Lib.accLo i),Value.int .u8 (Lib.accHi i)]).toArray
 { w0 with heap:=h2 }
theorem laid_met(os:Os)(args:Array Value):laidMetH Tryz.prog laid2 ((laidWorld os).forCall (fun _ _=>0) ⟨#[],args,[]⟩).memory:=
 laidMetH_of_parts3 (fuel:=8) (laidMet_of_run' 8 (by kernel_rfl) (by kernel_rfl)) (by kernel_rfl) (by kernel_rfl)
theorem laid_shaped(os:Os):(laidWorld os).Shaped Tryz.prog:=World.shaped_of_RefB (by kernel_rfl) (by kernel_rfl)
theorem tab_all:TOk Tryz.prog nu (fun u=>lTab.lookup u):=lTab_ok (text_ok Tryz.mixed) (sign_ok)
end Go.Proofs.YtjhilbodpmnbmaaGreatDoor
end
namespace Go.Ab
section
variable{T:Tbl}[Zaq T]
theorem zbr(op:Int):Zb T 76 [.i .i64 op]=some (.i .i64 (arN op)):=by
 rw[zab Zaq.h76 rfl,b76];by_cases h:1≤op∧op≤11
 ·rcases(show op=1∨op=2∨op=3∨op=4∨op=5∨op=6∨op=7∨op=8∨op=9∨op=10∨op=11 by omega) with rfl | rfl | rfl | rfl | rfl | rfl | rfl | rfl | rfl | rfl | rfl<;>simp -implicitDefEqProofs[arN]
 ·have e:arN op=-1:=by rcases zay op with h1 | h1 | h1 | h1<;>omega
  have h1:op≠1:=by omega
  have h2:op≠2:=by omega
  have h3:op≠3:=by omega
  have h4:op≠4:=by omega
  have h5:op≠5:=by omega
  have h6:op≠6:=by omega
  have h7:op≠7:=by omega
  have h8:op≠8:=by omega
  have h9:op≠9:=by omega
  have h10:op≠10:=by omega
  have h11:op≠11:=by omega
  rw[e];simp -implicitDefEqProofs[h1,h2,h3,h4,h5,h6,h7,h8,h9,h10,h11]
def Zg7(l:List Nd)(p:Nat×Int):St:=⟨[(0,.sl (Zt l) .an),(3,.i .i64 p.2),(7,.sl (Zt l) .an),(8,.i .i64 l.length),(9,.i .i64 p.1)],[],2⟩
theorem zie(l:List Nd)(hl:l.length≤4294967296):∀p:Nat×Int,(p.1≤l.length∧0≤p.2∧p.2≤p.1)→Ze T 0 0 (.norm false [0,3]) l74_0 (Zg7 l p) =
  match goL p.1 p.2 (l.drop p.1) with
  | (some k,_)=>some (.r,⟨[(2,.i .i64 (k:Nat))],[],2⟩)
  | (none,o)=>some (.n,⟨[(0,.sl (Zt l) .an),(3,.i .i64 o)],[],2⟩):=by
 refine zaw (Zg7 l) _ (fun p=>l.length-p.1) _ ?_
 rintro⟨i,o⟩ ⟨hi,ho,ho2⟩
 dsimp only at *
 by_cases h:i<l.length
 ·have hg:l[i]? = some (l[i]'h):=Ya h;have hd:l.drop i=l[i]'h::l.drop (i+1):=Yd h;have ca:=zbr (T:=T) (l[i]'h).op;have h':(i:Int)<l.length:=by omega
  have hws:=za8 h (by omega);rw[hd,goL];generalize hx:l[i]'h=x at *
  clear hd;rcases zay x.op with ⟨e,_⟩ | ⟨e,_⟩ | ⟨e,_⟩ | ⟨e,_⟩
  ·left;rw[e]at ca ⊢;have hw:IntKind.wrap .i64 (o+1)=o+1:=zac _ (by omega);refine⟨(i+1,o+1),⟨by omega,by omega,by dsimp only;omega⟩,by dsimp only;omega,?_,?_⟩
   ·unfold Zg7;simp -implicitDefEqProofs[l74_0,h,h',hg,hx,hws,ca,hw,ho]
   ·rw[if_neg (by omega)];simp
  ·rw[e]at ca ⊢;by_cases hc:o<1
   ·right;rw[if_pos (by omega)];unfold Zg7;constructor<;>simp -implicitDefEqProofs[l74_0,h,h',hg,hx,ca,hc]
   ·left;have hw:IntKind.wrap .i64 o=o:=zac _ (by omega);refine⟨(i+1,o),⟨by omega,by omega,by dsimp only;omega⟩,by dsimp only;omega,?_,?_⟩
    ·unfold Zg7;simp -implicitDefEqProofs[l74_0,h,h',hg,hx,hws,ca,hw,hc]
    ·rw[if_neg (by omega)];simp
  ·rw[e]at ca ⊢;by_cases hc:o<2
   ·right;rw[if_pos (by omega)];unfold Zg7;constructor<;>simp -implicitDefEqProofs[l74_0,h,h',hg,hx,ca,hc]
   ·left;have hw:IntKind.wrap .i64 (o + -1)=o-1:=zac _ (by omega);refine⟨(i+1,o-1),⟨by omega,by omega,by dsimp only;omega⟩,by dsimp only;omega,?_,?_⟩
    ·unfold Zg7;simp -implicitDefEqProofs[l74_0,h,h',hg,hx,hws,ca,hw,hc]
    ·rw[if_neg (by omega)];dsimp only;rw[show o+1-2=o-1 by omega]
  ·right;rw[e]at ca ⊢;rw[if_pos (by omega)];unfold Zg7;constructor<;>simp -implicitDefEqProofs[l74_0,h,h',hg,hx,ca]
 ·have:i=l.length:=by omega
  subst this;right;rw[Y0,goL];unfold Zg7;constructor<;>simp -implicitDefEqProofs[l74_0]
theorem zj4(l:List Nd)(hl:l.length≤4294967296):Zb T 74 [.sl (Zt l) .an]=some (.i .i64 (Z2 l)):=by
 have hlo:=zie (T:=T) l hl (0,0) ⟨Yq _,by decide,by decide⟩;have hw:=zis l 0 0;unfold Z2;rw[hw];unfold Zg7 at hlo;simp only[Yae,Yr]at hlo;rw[zab Zaq.h74 rfl,b74];generalize goL 0 0 l=G at *
 obtain⟨_ | k,o⟩:=G
 ·dsimp only at hlo ⊢;by_cases h:o=1
  ·subst h;simp -implicitDefEqProofs[hlo]
  ·simp -implicitDefEqProofs[hlo,h]
 ·dsimp only at hlo ⊢;simp -implicitDefEqProofs[hlo]
theorem zs7(l:List Nd)(hl:l.length≤4294967296):Zb T 44 [.sl (Zt l) .an]=some (.b (decide (Z2 l=-1))):=by
 have c:=zj4 (T:=T) l hl;have e:decide (Z2 l<0)=decide (Z2 l=-1):=by
  rcases zda l 0 0 with h | h
  ·unfold Z2;rw[h];rfl
  ·have:¬ Z2 l<0:=by unfold Z2;omega
   have h2:¬ Z2 l=-1:=by omega
   rw[decide_eq_false this,decide_eq_false h2]
 rw[zab Zaq.h44 rfl,b44,←e];generalize Z2 l=w at *
 simp -implicitDefEqProofs[c]
theorem ze4(i m:Int):Zb T 108 [.i .i64 i,.i .i64 m]=some (.b (Zg8 i m)):=by
 rw[zab Zaq.h108 rfl,b108];unfold Zg8;by_cases h:0≤i
 ·by_cases h2:i<m<;>simp -implicitDefEqProofs[h,h2]
 ·simp -implicitDefEqProofs[h]
variable[Zad T][Zp T][Zay T][Zb7 T]
theorem lenD(n:Nat)(h:(ofN n).length≤1000):Zb T 129 [.sl (Za (ofN n)) .an]=some (.i .i64 (Zbd n).length):=by
 have c:Zb T 68 [.sl (Za (ofN n)) .an]=some (.s (Zbd n)):=by
  rw[p68,zxk _ (by omega),zae]
 rw[zab Zb7.h129 rfl,b129];generalize ofN n=N at *
 simp -implicitDefEqProofs[c]
theorem zne(n:List UInt32)(hn:n.length≤1000):Zb T 107 [.sl (Za n) .an]=some (.b (Zg1 n)):=by
 have c1:=zbj (T:=T) n (by omega);unfold Zg1;by_cases h:n=ofN (val n)
 ·have c2:=lenD (T:=T) (val n) (by rw[←h];exact hn);rw[←h]at c1 c2;rw[decide_eq_true h];rw[zab Zaq.h107 rfl,b107];generalize (Zbd (val n)).length=L at *
  by_cases h2:L≤60
  ·have h2':(L:Int)≤60:=by omega
   simp -implicitDefEqProofs[c1,c2,h2,h2']
  ·have h2':¬ (L:Int)≤60:=by omega
   simp -implicitDefEqProofs[c1,c2,h2,h2']
 ·have h2:¬ ((ofN (val n)).length:Int)=n.length:=fun hh=>h (zkd.1 (by omega));have h3:¬ (ofN (val n)).length=n.length:=fun hh=>h (zkd.1 hh);rw[decide_eq_false h];rw[zab Zaq.h107 rfl,b107];generalize ofN (val n)=N at *
  simp -implicitDefEqProofs[c1,h2,h3]
theorem zs8(x:Nd)(dim pars lets:Int)(hn:x.n.length≤1000):Zb T 75 [.agg (Zcl x),.i .i64 dim,.i .i64 pars,.i .i64 lets]=some (.b (okN dim pars lets x)):=by
 have c1:=zne (T:=T) x.n hn;have c3:=ze4 (T:=T) x.i dim;have c4:=ze4 (T:=T) x.i pars;have c5:=ze4 (T:=T) x.i lets;have ca:=zbr (T:=T) x.op;obtain⟨op,i,n⟩:=x;dsimp only at *
 rw[zab Zaq.h75 rfl,b75];unfold okN;dsimp only;generalize Zg1 n=W at *
 generalize Zg8 i dim=B3 at *
 generalize Zg8 i pars=B4 at *
 generalize Zg8 i lets=B5 at *
 by_cases h1:op=1
 ·subst h1;by_cases hi:i=0
  ·subst hi;simp -implicitDefEqProofs[c1]
  ·simp -implicitDefEqProofs[hi]
 rw[if_neg h1];by_cases hne:n=[]
 ·subst hne;by_cases h3:op=3
  ·subst h3;simp -implicitDefEqProofs[c3]
  by_cases h4:op=4
  ·subst h4;simp -implicitDefEqProofs[c4]
  by_cases h5:op=5
  ·subst h5;simp -implicitDefEqProofs[c5]
  by_cases h11:op=11
  ·subst h11;by_cases ha:-8≤i
   ·by_cases hb:i≤8<;>simp -implicitDefEqProofs[ha,hb]
   ·simp -implicitDefEqProofs[ha]
  by_cases hi:i=0
  ·subst hi;rcases zay op with ⟨e,h⟩ | ⟨e,h⟩ | ⟨e,h⟩ | ⟨e,h⟩
   ·rw[e]at ca;have g1:¬ op<1:=by omega
    have g2:¬ 11<op:=by omega
    simp -implicitDefEqProofs[h1,h3,h4,h5,h11,ca,g1,g2]
   ·rw[e]at ca;have g1:¬ op<1:=by omega
    have g2:¬ 11<op:=by omega
    simp -implicitDefEqProofs[h1,h3,h4,h5,h11,ca,g1,g2]
   ·rw[e]at ca;have g1:¬ op<1:=by omega
    have g2:¬ 11<op:=by omega
    simp -implicitDefEqProofs[h1,h3,h4,h5,h11,ca,g1,g2]
   ·rw[e]at ca;simp -implicitDefEqProofs[h1,h3,h4,h5,h11,ca,h]
  ·have hb:(if (([]:List UInt32)≠[]∨op<1∨11<op) then false else if op=3 then B3 else if op=4 then B4 else if op=5 then B5 else if op=11 then decide (-8≤i)&&decide (i≤8) else decide (i=0))=false:=by
    split
    ·rfl
    ·exact decide_eq_false hi
   rw[hb];simp -implicitDefEqProofs[h1,h3,h4,h5,h11,hi]
 ·have hp:0<n.length:=Ybi.2 hne;rw[if_pos (.inl hne)];simp -implicitDefEqProofs[h1,hp,hne]
def Zit(l:List Nd)(dim pars lets w:Int)(i:Nat):St:=⟨[(1,.i .i64 dim),(2,.i .i64 pars),(3,.i .i64 lets),(9,.i .i64 w),(14,.sl (Zt l) .an),(15,.i .i64 l.length),(16,.i .i64 i)],[],2⟩
theorem zgu(l:List Nd)(dim pars lets w:Int)(hl:l.length≤4294967296)(hn:∀x∈l,x.n.length≤1000)(hw:w<0∨(w:Int)≤l.length):Ze T 0 0 (.norm false [9]) l46_0 (Zit l dim pars lets w 0) =
  match Zdu dim pars lets w 0 l with
  | some k=>some (.r,⟨[(8,.i .i64 (k:Nat))],[],2⟩)
  | none=>some (.n,⟨[(9,.i .i64 w)],[],2⟩):=by
 have e0:l.drop 0=l:=rfl;rw[←e0];refine za4 (Zit l dim pars lets w) l.length (fun i=>match Zdu dim pars lets w i (l.drop i) with
  | some k=>some (.r,⟨[(8,.i .i64 (k:Nat))],[],2⟩)
  | none=>some (.n,⟨[(9,.i .i64 w)],[],2⟩)) (fun i hi=>?_) ?_
 ·have hg:l[i]? = some (l[i]'hi):=Ya hi;have hd:l.drop i=l[i]'hi::l.drop (i+1):=Yd hi;have cn:=zs8 (T:=T) (l[i]'hi) dim pars lets (hn _ (Y2 hi));have hi':(i:Int)<l.length:=by omega
  have hws:=za8 hi (by omega);generalize hx:l[i]'hi=x at *
  rw[hd,Zdu];clear hd;by_cases h1:(i:Int)=w
  ·right;rw[if_pos (.inl h1)];subst h1;unfold Zit;constructor<;>simp -implicitDefEqProofs[l46_0,hi,hi',hg,hx]
  ·generalize okN dim pars lets x=B at *
   cases B with
   | false=>
    right;rw[if_pos (.inr rfl)];unfold Zit;constructor<;>simp -implicitDefEqProofs[l46_0,hi,hi',hg,hx,h1,cn]
   | true=>
    left;refine⟨?_,by rw[if_neg (by simp[h1])]⟩;unfold Zit;simp -implicitDefEqProofs[l46_0,hi,hi',hg,hx,h1,cn,hws]
 ·rw[Y0,Zdu];unfold Zit;constructor<;>simp -implicitDefEqProofs[l46_0]
theorem zif(l:List Nd)(dim pars lets:Int)(hl:l.length≤4294967296)(hn:∀x∈l,x.n.length≤1000):Zb T 46 [.sl (Zt l) .an,.i .i64 dim,.i .i64 pars,.i .i64 lets]=some (.i .i64 (Za7 dim pars lets l)):=by
 have cw:=zj4 (T:=T) l hl;have hlo:=zgu (T:=T) l dim pars lets (Z2 l) hl hn (by
  rcases zda l 0 0 with h | h
  ·left;unfold Z2;omega
  ·right;unfold Z2;omega)
 unfold Zit at hlo;simp only[Yr]at hlo;have hf:=ze8 dim pars lets (Z2 l) l 0;unfold Za7;rw[hf];rw[zab Zaq.h46 rfl,b46];generalize Z2 l=w at *
 generalize Zdu dim pars lets w 0 l=F at *
 cases F with
 | none=>
  dsimp only at hlo ⊢;simp -implicitDefEqProofs[cw,hlo]
 | some k=>
  dsimp only at hlo ⊢;simp -implicitDefEqProofs[cw,hlo]
end
def Zds(op:Int)(l:List (List Nd)):List Nd:=l.flatten++[⟨op,0,[]⟩]
def kNd(n:Int):List Nd:=[⟨1,0,if n=0 then [] else [w32 n.toNat]⟩]
def Zl1(a:List Nd)(e:Int):List Nd:=a++[⟨11,e,[]⟩]
def Zgy(op:Int)(d o:List Nd)(first:Bool):List Nd:=if d=[] then [] else if first then Zds op [d,o] else Zds op [o,d]
def Zkf(op:Int)(a b:List Nd):List Nd:=if b=[] then a else if a≠[] then Zds op [a,b] else if op=8 then Zds 6 [b] else b
def Zm3(x:Nd)(a da:List Nd):List Nd:=
 if da=[]∨(x.op=11∧x.i=0) then [] else if x.op=6 then Zds 6 [da]
 else if 0<x.i then Zds 9 [Zds 9 [kNd x.i,Zl1 a (x.i-1)],da]
 else Zds 6 [Zds 10 [Zds 9 [Zds 9 [kNd (-x.i),Zl1 a x.i],da],a]]
def Zm4(d b o:List Nd):List Nd:=if Zgy 9 d o false=[] then [] else Zds 10 [Zgy 9 d o false,Zds 9 [b,b]]
def Zm5(op:Int)(a da b db:List Nd):List Nd:=
 if op=9 then Zkf 7 (Zgy 9 da b true) (Zgy 9 db a false)
 else if op=10 then Zkf 8 (Zgy 10 da b true) (Zm4 db b a)
 else Zkf op da db
def Tre.der(u:Nd):Tre→List Nd
 | .leaf x=>if x.op=u.op∧x.i=u.i then kNd 1 else []
 | .un x a=>Zm3 x a.flat (a.der u)
 | .bin x a b=>Zm5 x.op a.flat (a.der u) b.flat (b.der u)
def Zo0(a b:List Nd)(op i:Int):List Nd:=a++b++[⟨op,i,[]⟩]
def thin(w:Nat)(l:List Nd):Prop:=∀x∈l,x.n.length≤w
def Zn1(s:List Tre)(x:Nd):List Tre:=
 if arN x.op=0 then .leaf x::s else
  match s with
  | []=>[]
  | a::s1=>if arN x.op=1 then .un x a::s1 else
   match s1 with
   | []=>[]
   | b::s2=>.bin x b a::s2
abbrev Pc:=List Nd×List Nd
def pcs(u:Nd)(s:List Tre):List Pc:=s.reverse.map fun t=>(t.flat,t.der u)
def Zo1(l:List Pc):Nat:=(l.map fun p=>p.1.length).sum
def dps(l:List Nat):List (List AV):=l.map fun n=>[.i .i64 (n:Nat)]
@[simp] theorem z57(l:List Nat):(dps l).length=l.length:=by simp[dps]
@[simp] theorem z9e(l:List Nat):wkL (dps l)=dps l:=by rw[zb1];simp[dps,wkR,wkA]
@[simp] theorem zahn(l:List Nat)(i:Nat)(h:i<(dps l).length):(dps l)[i]=[.i .i64 (l[i]'(by simpa using h):Nat)]:=by simp[dps]
@[simp] theorem zacr(l:List Nat)(n:Nat):(dps l).take n=dps (l.take n):=by simp[dps]
@[simp] theorem z37:dps []=[]:=rfl
theorem zz5{m:List Nat}{n:Nat}(x:Nat):wkL (dps (List.take n m)++[[.i .i64 (x:Nat)]])=dps (List.take n m++[x]):=by
 have:dps (List.take n m)++[[.i .i64 (x:Nat)]]=dps (List.take n m++[x]):=by simp[dps]
 rw[this,z9e]
def Zeb(s:List Nat)(x:Nd):List Nat:=if arN x.op=0 then 1::s else if arN x.op=1 then (s.headD 0+1)::s.tail else (max (s.headD 0) (s.tail.headD 0)+1)::s.tail.tail
def Zes:List Nat→List Nd→List Nat
 | s,[]=>s
 | s,x::r=>Zes (Zeb s x) r
def Zd3(l:List Nd):Nat:=if Z2 l=-1 then (Zes [] l).headD 0 else 0
theorem zfv:∀(t:Tre),t.ok→∀(s:List Nat) (r:List Nd),Zes s (t.flat++r)=Zes (t.deep::s) r
 | .leaf x,h,s,r=>by
  have e:arN x.op=0:=h;show Zes (Zeb s x) r=_;unfold Zeb;rw[if_pos e];rfl
 | .un x a,h,s,r=>by
  have e:arN x.op=1:=h.1;rw[Tre.flat,Y7,zfv a h.2];show Zes (Zeb _ x) r=_;unfold Zeb;rw[if_neg (by omega),if_pos e];rfl
 | .bin x a b,h,s,r=>by
  have e:arN x.op=2:=h.1;rw[Tre.flat,Y7,zfv a h.2.1,Y7,zfv b h.2.2];show Zes (Zeb _ x) r=_;unfold Zeb;rw[if_neg (by omega),if_neg (by omega)];show Zes ((max b.deep a.deep+1)::s) r=Zes ((max a.deep b.deep+1)::s) r;rw[Nat.max_comm]
theorem zw8{t:Tre}(h:t.ok):Zd3 t.flat=t.deep:=by
 unfold Zd3;rw[if_pos (zb4 h)];have:=zfv t h [] [];rw[Ya2]at this;rw[this];rfl
theorem zig{m:List (List Nd)}{n:Nat}(h:m.length=n)(x:List Nd):wkL (Z4 (List.take n m)++[[.sl (Zt x) .an]])=Z4 (m++[x]):=by
 rw[Yb (by omega),znv,zph]
@[simp] theorem z9f(l:List (List Nd))(n:Nat):(Z4 l).take n=Z4 (l.take n):=by simp[Z4]
section
variable{T:Tbl}[Zaq T][Zbo T]
theorem zih(l:List Nd)(hl:l.length≤4294967295)(hn:thin 1000 l):Zb T 483 [.sl (Zt l) .an]=some (.sl (Zt l) .an):=by
 have hlo:Ze T 0 0 (.norm false [3]) l483_0 ⟨[(3,.bs (.loc 3) 1 3 0 0),(6,.sl (Zt l) .an),(7,.i .i64 l.length),(8,.i .i64 0)],[(.loc 3,⟨1,.own,3,[]⟩)],3⟩ =
   some (.n,⟨[(3,.bs (.loc 3) 1 3 0 l.length)],[(.loc 3,⟨1,.own,3,Zt l⟩)],3⟩):=by
  have:=zan (T:=T) (k:=0) (id:=0) (g2:=.norm false [3]) (c:=l483_0) (fun i=>⟨[(3,.bs (.loc 3) 1 3 0 i),(6,.sl (Zt l) .an),(7,.i .i64 l.length),(8,.i .i64 (i:Int))],[(.loc 3,⟨1,.own,3,Zt (l.take i)⟩)],3⟩) l.length
   (some (.n,⟨[(3,.bs (.loc 3) 1 3 0 l.length)],[(.loc 3,⟨1,.own,3,Zt l⟩)],3⟩)) (fun i hi=>?_) ?_
  ·simpa using this
  ·have hg:l[i]? = some (l[i]'hi):=Ya hi;have hi':(i:Int)<l.length:=by omega
   have hws:=za8 hi (by omega);have hs:l.take (i+1)=l.take i++[l[i]'hi]:=by rw[Ys hi]
   have hp:=znu (n:=i) (show (l.take i).length=i by rw[Yx];omega) (l[i]'hi);have hle:i≤(l.take i).length:=by rw[Yx];omega
   have h32:i+1≤4294967296:=by omega
   have hth:=hn _ (Y2 hi);rw[hs];generalize hx:l[i]'hi=x at *
   generalize l.take i=m at *
   obtain⟨op,j,n⟩:=x;dsimp only at hth;have hn32:n.length≤4294967296:=by omega
   clear hs hn;simp -implicitDefEqProofs[l483_0,hi,hi',hg,hx,hws,hp,hle,h32,hn32]
  ·constructor<;>simp -implicitDefEqProofs[l483_0]
 rw[zab Zbo.h483 rfl,b483];simp -implicitDefEqProofs[hlo]
def Zb4(w n:Nat)(f:Fd):Prop:=∀c∈codesD f,c.length≤n∧thin w c
theorem zs9(f:Fd)(h1:f.lets.length≤100000)(h2:f.outs.length≤100000)(hn:Zb4 1000 4294967295 f):Zb T 493 [efd f]=some (.sl (Z4 (codesD f)) .an):=by
 obtain⟨L,O⟩:=f;dsimp only at h1 h2;have hL:Ze T 0 0 (.norm false [1,3]) l493_0 ⟨[(1,.ptr (.loc 1) 1 2 0 0),(3,.bs (.loc 3) 2 1 0 0),(9,.sl (Z7 L) .an),(10,.i .i64 L.length),(11,.i .i64 0)],[(.loc 1,⟨1,.str,2,[[.sl (Z7 L) .an,.sl (Z4 O) .an]]⟩),(.loc 3,⟨2,.own,1,[]⟩)],4⟩ =
   some (.n,⟨[(1,.ptr (.loc 1) 1 2 0 0),(3,.bs (.loc 3) 2 1 0 L.length)],[(.loc 1,⟨1,.str,2,[[.sl (Z7 L) .an,.sl (Z4 O) .an]]⟩),(.loc 3,⟨2,.own,1,Z4 (L.map (·.code))⟩)],4⟩):=by
  have:=zan (T:=T) (k:=0) (id:=0) (g2:=.norm false [1,3]) (c:=l493_0) (fun i=>⟨[(1,.ptr (.loc 1) 1 2 0 0),(3,.bs (.loc 3) 2 1 0 i),(9,.sl (Z7 L) .an),(10,.i .i64 L.length),(11,.i .i64 (i:Int))],[(.loc 1,⟨1,.str,2,[[.sl (Z7 L) .an,.sl (Z4 O) .an]]⟩),(.loc 3,⟨2,.own,1,Z4 ((L.take i).map (·.code))⟩)],4⟩) L.length
   (some (.n,⟨[(1,.ptr (.loc 1) 1 2 0 0),(3,.bs (.loc 3) 2 1 0 L.length)],[(.loc 1,⟨1,.str,2,[[.sl (Z7 L) .an,.sl (Z4 O) .an]]⟩),(.loc 3,⟨2,.own,1,Z4 (L.map (·.code))⟩)],4⟩)) (fun i hi=>?_) ?_
  ·simpa using this
  ·have hg:L[i]? = some (L[i]'hi):=Ya hi;have hi':(i:Int)<L.length:=by omega
   have hws:=za8 hi (by omega);have hs:(L.take (i+1)).map (·.code)=(L.take i).map (·.code)++[(L[i]'hi).code]:=by rw[Ys hi,Ybb];rfl
   have hml:((L.take i).map (·.code)).length=i:=by rw[Yaz,Yx];omega
   have hp:=zig (n:=i) hml (L[i]'hi).code;have hle:i≤((L.take i).map (·.code)).length:=by omega
   have h32:i+1≤4294967296:=by omega
   obtain⟨hc1,hc2⟩:=hn (L[i]'hi).code (Y5.2 (.inl (Yam.2 ⟨_,Y2 hi,rfl⟩)));have cc:=zih (T:=T) (L[i]'hi).code hc1 hc2;rw[hs];generalize hx:L[i]'hi=x at *
   generalize (L.take i).map (·.code)=m at *
   obtain⟨nm,code⟩:=x;dsimp only at *
   clear hs hn;simp -implicitDefEqProofs[l493_0,hi,hi',hg,hx,hws,hp,hle,h32,cc]
  ·constructor<;>simp -implicitDefEqProofs[l493_0]
 have hO:Ze T 0 2 (.norm false [3]) l493_1 ⟨[(3,.bs (.loc 3) 1 1 0 L.length),(23,.sl (Z4 O) .an),(24,.i .i64 O.length),(25,.i .i64 0)],[(.loc 3,⟨1,.own,1,Z4 (L.map (·.code))⟩)],3⟩ =
   some (.n,⟨[(3,.bs (.loc 3) 1 1 0 (L.length+O.length:Nat))],[(.loc 3,⟨1,.own,1,Z4 (L.map (·.code)++O)⟩)],3⟩):=by
  have:=zan (T:=T) (k:=0) (id:=2) (g2:=.norm false [3]) (c:=l493_1) (fun i=>⟨[(3,.bs (.loc 3) 1 1 0 (L.length+i:Nat)),(23,.sl (Z4 O) .an),(24,.i .i64 O.length),(25,.i .i64 (i:Int))],[(.loc 3,⟨1,.own,1,Z4 (L.map (·.code)++O.take i)⟩)],3⟩) O.length
   (some (.n,⟨[(3,.bs (.loc 3) 1 1 0 (L.length+O.length:Nat))],[(.loc 3,⟨1,.own,1,Z4 (L.map (·.code)++O)⟩)],3⟩)) (fun i hi=>?_) ?_
  ·simpa using this
  ·have hg:O[i]? = some (O[i]'hi):=Ya hi;have hi':(i:Int)<O.length:=by omega
   have hws:=za8 hi (by omega);have hs:L.map (·.code)++O.take (i+1)=(L.map (·.code)++O.take i)++[O[i]'hi]:=by rw[Ys hi,Y7]
   have hml:(L.map (·.code)++O.take i).length=L.length+i:=by rw[Yk,Yaz,Yx];omega
   have hp:=zig hml (O[i]'hi);have hle:L.length+i≤(L.map (·.code)++O.take i).length:=by omega
   have h32:L.length+i+1≤4294967296:=by omega
   obtain⟨hc1,hc2⟩:=hn (O[i]'hi) (Y5.2 (.inr (Y2 hi)));have cc:=zih (T:=T) (O[i]'hi) hc1 hc2;have hw2:L.length+(i+1)=L.length+i+1:=by omega
   rw[hs,hw2];generalize hx:O[i]'hi=x at *
   generalize L.map (·.code)++O.take i=m at *
   generalize L.length+i=k at *
   clear hs hn hL;simp -implicitDefEqProofs[l493_1,hi,hi',hg,hx,hws,hp,hle,h32,cc]
  ·constructor<;>simp -implicitDefEqProofs[l493_1]
 unfold codesD;dsimp only;have hM:(L.map (·.code)).length=L.length:=Yaz _;generalize L.map (·.code)=M at *
 rw[zab Zbo.h493 rfl,b493];simp -implicitDefEqProofs[hL,hO];exact⟨by omega,by rw[Yb (by rw[Yk];omega)]⟩
theorem zj5{l:List (List Nd)}(i:Nat):((l.take i).map List.length).sum≤(l.map List.length).sum:=by
 conv=>rhs;rw[←Yao i l]
 rw[Ybb,Ycb];omega
def Zau(f:Fd):Nat:=((codesD f).map List.length).sum
theorem zw9(f:Fd)(h1:f.lets.length≤100000)(h2:f.outs.length≤100000)(hn:Zb4 1000 4294967295 f)(hs:Zau f≤4294967295):Zb T 491 [efd f]=some (.i .i64 (Zau f)):=by
 have c:=zs9 (T:=T) f h1 h2 hn;have hlen:(codesD f).length≤200000:=by unfold codesD;rw[Yk,Yaz];omega
 unfold Zau at *
 obtain⟨L,O⟩:=f;generalize codesD ⟨L,O⟩=M at *
 have hlo:Ze T 0 0 (.norm false [3]) l491_0 ⟨[(3,.i .i64 0),(7,.sl (Z4 M) .an),(8,.i .i64 M.length),(9,.i .i64 0)],[],2⟩ =
   some (.n,⟨[(3,.i .i64 ((M.map List.length).sum:Nat))],[],2⟩):=by
  have:=zan (T:=T) (k:=0) (id:=0) (g2:=.norm false [3]) (c:=l491_0) (fun i=>⟨[(3,.i .i64 (((M.take i).map List.length).sum:Nat)),(7,.sl (Z4 M) .an),(8,.i .i64 M.length),(9,.i .i64 (i:Int))],[],2⟩) M.length
   (some (.n,⟨[(3,.i .i64 ((M.map List.length).sum:Nat))],[],2⟩)) (fun i hi=>?_) ?_
  ·simpa using this
  ·have hg:M[i]? = some (M[i]'hi):=Ya hi;have hi':(i:Int)<M.length:=by omega
   have hws:=za8 hi (by omega);have hs1:((M.take (i+1)).map List.length).sum=((M.take i).map List.length).sum+(M[i]'hi).length:=by rw[Ys hi,Ybb,Ycb];simp
   have hle:=zj5 (l:=M) (i+1);have hw:IntKind.wrap .i64 ((((M.take i).map List.length).sum:Nat)+(M[i]'hi).length)=((((M.take i).map List.length).sum+(M[i]'hi).length:Nat):Int):=by rw[zac _ (by omega)];omega
   rw[hs1];generalize hx:M[i]'hi=x at *
   generalize ((M.take i).map List.length).sum=k at *
   clear hs1 hn c hs hle;simp -implicitDefEqProofs[l491_0,hi,hi',hg,hx,hws,hw]
  ·rw[Ya7];constructor<;>simp -implicitDefEqProofs[l491_0]
 generalize (M.map List.length).sum=S at *
 rw[zab Zbo.h491 rfl,b491];simp -implicitDefEqProofs[c,hlo]
def mxT(F:List Nat)(k:Nat):Nat→Nat
 | 0=>0
 | j+1=>max (mxT F k j) (F.getD (k-j-1) 0)
def Zkb(l:List Nd)(F:List Nat)(i k a j:Nat):St:=⟨[(3,.bs (.loc 3) 1 1 0 (k-j)),(6,.i .i64 (mxT F k j:Nat)),(10,.sl (Zt l) .an),(11,.i .i64 l.length),(12,.i .i64 i),(18,.i .i64 a),(19,.i .i64 j)],[(.loc 3,⟨1,.own,1,dps F⟩)],3⟩
theorem zxa(F:List Nat)(k w:Nat)(h:∀n∈F,n≤w):∀j,mxT F k j≤w
 | 0=>Yq _
 | j+1=>by
  have h1:=zxa F k w h j;have h2:F.getD (k-j-1) 0≤w:=by
   rw[Ybt];cases hg:F[k-j-1]? with
   | none=>exact Yq _
   | some x=>exact h x (Yj hg)
  exact Yfc.2 ⟨h1,h2⟩
theorem z9g(l:List Nd)(F:List Nat)(i k a:Nat)(ha:a≤k)(hk:k≤F.length)(hF:∀n∈F,n≤100000)(hkk:k≤100000) :
  Ze T 0 2 (.norm false [3,6,10,11,12]) l492_0 (Zkb l F i k a 0) =
   some (.n,⟨[(3,.bs (.loc 3) 1 1 0 (k-a)),(6,.i .i64 (mxT F k a:Nat)),(10,.sl (Zt l) .an),(11,.i .i64 l.length),(12,.i .i64 i)],[(.loc 3,⟨1,.own,1,dps F⟩)],3⟩):=by
 refine zan (T:=T) (Zkb l F i k a) a _ (fun j hj=>?_) ?_
 ·have hq:k-j=(k-j-1)+1:=by omega
  have hq2:k-(j+1)=k-j-1:=by omega
  have hlt:k-j-1<F.length:=by omega
  have hg:F[k-j-1]? = some (F.getD (k-j-1) 0):=by rw[Ybt,Ya hlt];rfl
  have hge:F[k-j-1]'hlt=F.getD (k-j-1) 0:=by rw[Ybt,Ya hlt];rfl
  have hmx:=zxa F k 100000 hF j;have hws:=za8 hj (by omega);have hj':(j:Int)<a:=by omega
  have hmm:mxT F k (j+1)=max (mxT F k j) (F.getD (k-j-1) 0):=rfl;unfold Zkb;rw[hq2,hq,hmm];generalize F.getD (k-j-1) 0=v at *
  generalize mxT F k j=m at *
  clear hF;generalize k-j-1=q at *
  have hw:IntKind.wrap .i64 (q:Int)=q:=zac _ (by omega);have h1:(q:Int)<(q:Int)+1:=by omega
  have h2:(q:Int)≤(q:Int)+1:=by omega
  clear hq hq2 hmm;simp -implicitDefEqProofs[l492_0,hj,hj',hg,hge,hlt,hws,hw,h1,h2];split<;>omega
 ·unfold Zkb;constructor<;>simp -implicitDefEqProofs[l492_0]
theorem zg1{F:List Nat}{a:Nat}{r:List Nat}(h:F.take (a::r).length=(a::r).reverse):F.take r.length=r.reverse∧F.getD r.length 0=a∧r.length<F.length:=by
 rw[Yc7,Yc]at h;have hl:=congrArg List.length h;rw[Yx,Yk,Ycn]at hl;have hlt:r.length<F.length:=by simp at hl;omega
 rw[Ys hlt]at h;have h2:=List.append_inj' h rfl;refine⟨h2.1,?_,hlt⟩;have h3:=h2.2;rw[Ybt,Ya hlt];simpa using h3
def Ziu(l:List Nd)(F:List Nat)(k i:Nat):St:=⟨[(3,.bs (.loc 3) 1 1 0 k),(10,.sl (Zt l) .an),(11,.i .i64 l.length),(12,.i .i64 i)],[(.loc 3,⟨1,.own,1,dps F⟩)],3⟩
theorem zxb(l:List Nd)(hl:l.length≤50000)(F s:List Nat)(i:Nat)(hi:i<l.length)(h1:F.take s.length=s.reverse)(h2:s.length≤F.length)(h3:s.length≤i)(h4:∀n∈F,n≤i)(ha0:0≤arN (l[i]'hi).op)(ha:arN (l[i]'hi).op≤s.length) :
  ∃F':List Nat,(F'.take (Zeb s (l[i]'hi)).length=(Zeb s (l[i]'hi)).reverse∧(Zeb s (l[i]'hi)).length≤F'.length∧∀n∈F',n≤i+1)∧evX (orc T) T 0 l492_1 (Ziu l F s.length i)=some (.n,Ziu l F' (Zeb s (l[i]'hi)).length (i+1)):=by
 have ca:=zbr (T:=T) (l[i]'hi).op;have hg:l[i]? = some (l[i]'hi):=Ya hi;have hi':(i:Int)<l.length:=by omega
 have hws:=za8 hi (by omega);generalize hx:l[i]'hi=x at *
 obtain⟨a,hea⟩:∃a:Nat,arN x.op=a:=⟨(arN x.op).toNat,by omega⟩;have hak:a≤s.length:=by omega
 have hin:=z9g (T:=T) l F i s.length a hak h2 (fun n hn=>Yf (h4 n hn) (by omega)) (by omega);have hm1:mxT F s.length a≤i:=zxa F s.length i h4 a
 -- the stack behind the node
 obtain⟨s',hs',hde⟩:∃s':List Nat,(F.take s'.length=s'.reverse∧s'.length=s.length-a)∧Zeb s x=(mxT F s.length a+1)::s':=by
  unfold Zeb;rcases zay x.op with ⟨e,_⟩ | ⟨e,_⟩ | ⟨e,_⟩ | ⟨e,_⟩
  ·have:a=0:=by omega
   subst this;rw[if_pos e];exact⟨s,⟨h1,rfl⟩,rfl⟩
  ·have:a=1:=by omega
   subst this;rw[if_neg (by omega),if_pos e];cases s with
   | nil=>simp at hak
   | cons u r=>
    obtain⟨t1,t2,t3⟩:=zg1 h1;refine⟨r,⟨t1,by simp⟩,?_⟩;show (u+1)::r=(max 0 (F.getD (r.length+1-0-1) 0)+1)::r;rw[show r.length+1-0-1=r.length by omega,t2,Nat.zero_max]
  ·have:a=2:=by omega
   subst this;rw[if_neg (by omega),if_neg (by omega)];cases s with
   | nil=>simp at hak
   | cons u r=>
    obtain⟨t1,t2,t3⟩:=zg1 h1;cases r with
    | nil=>simp at hak
    | cons v q=>
     obtain⟨w1,w2,w3⟩:=zg1 t1;refine⟨q,⟨w1,by simp⟩,?_⟩;show (max u v+1)::q=(max (max 0 (F.getD (q.length+1+1-0-1) 0)) (F.getD (q.length+1+1-1-1) 0)+1)::q;rw[show q.length+1+1-1-1=q.length by omega,w2,show q.length+1+1-0-1=(v::q).length by simp,t2,Nat.zero_max]
  ·omega
 rw[hde];generalize mxT F s.length a=v at *
 obtain⟨hs1,hs2⟩:=hs';have hle:s'.length≤F.length:=by omega
 refine⟨F.take s'.length++[v+1],⟨?_,?_,?_⟩,?_⟩
 ·rw[Yc,Yb (by rw[Yk,Yx];simp;omega),hs1,Yc7]
 ·rw[Yk,Yx,Yc];simp;omega
 ·intro n hn;rcases Y5.1 hn with hn | hn
  ·have:=h4 n (Yb5 hn);omega
  ·rw[Yaq.1 hn];omega
 ·have hp:=zz5 (m:=F) (n:=s'.length) (v+1);rw[hea]at ca;rw[←hs2]at hin;have hwv:IntKind.wrap .i64 ((v:Int)+1)=((v+1:Nat):Int):=zac _ (by omega);have h32:s'.length+1≤4294967296:=by omega
  unfold Zkb at hin;unfold Ziu;rw[Yc];simp only[mxT,Yeo,Yr]at hin;obtain⟨op,j,n⟩:=x;dsimp only at *
  generalize F.take s'.length++[v+1]=F' at *
  clear hde hs1 h1 h4 hm1;simp -implicitDefEqProofs[l492_1,hi,hi',hg,hx,hws,hle,h32,ca,hin,hwv];exact hp
theorem zqt(hl:True):∀(l:List Nd) (i:Nat) (s:List Nat),Zs i s.length l=-1→(Zes s l).length=1
 | [],i,s,h=>by
  unfold Zs at h;by_cases h1:(s.length:Int)=1
  ·show s.length=1;omega
  ·rw[if_neg h1]at h;omega
 | x::r,i,s,h=>by
  unfold Zs at h;by_cases h1:arN x.op<0∨(s.length:Int)<arN x.op
  ·rw[if_pos h1]at h;omega
  ·rw[if_neg h1]at h;refine zqt hl r (i+1) (Zeb s x) ?_;rw[←h];congr 1;unfold Zeb;rcases zay x.op with ⟨e,_⟩ | ⟨e,_⟩ | ⟨e,_⟩ | ⟨e,_⟩
   ·rw[if_pos e,e];simp
   ·rw[if_neg (by omega),if_pos e,e,Yc,Ycv];omega
   ·rw[if_neg (by omega),if_neg (by omega),e,Yc,Ycv,Ycv];omega
   ·omega
theorem zz6{s:List Nat}{x:Nd}(h0:0≤arN x.op)(h1:arN x.op≤s.length):((Zeb s x).length:Int)=s.length+1-arN x.op:=by
 unfold Zeb;rcases zay x.op with ⟨e,_⟩ | ⟨e,_⟩ | ⟨e,_⟩ | ⟨e,_⟩
 ·rw[if_pos e,e];simp
 ·rw[if_neg (by omega),if_pos e,e,Yc,Ycv];omega
 ·rw[if_neg (by omega),if_neg (by omega),e,Yc,Ycv,Ycv];omega
 ·omega
theorem zta(l:List Nd)(hl:l.length≤50000):Zb T 492 [.sl (Zt l) .an]=some (.i .i64 (Zd3 l)):=by
 have c:=zs7 (T:=T) l (by omega);by_cases hw:Z2 l=-1
 ·rw[decide_eq_true hw]at c;have e:Zd3 l=(Zes [] l).headD 0:=by unfold Zd3;rw[if_pos hw]
  have hone:=zqt trivial l 0 [] hw;have hlo:∃r,(∃F:List Nat,F[0]? = some ((Zes [] l).headD 0)∧r=(Ex.n,(⟨[(3,.bs (.loc 3) 1 1 0 1)],[(.loc 3,⟨1,.own,1,dps F⟩)],3⟩:St)))∧Ze T 0 0 (.norm false [3]) l492_1 (Ziu l [] 0 0)=some r:=by
   refine zam (fun p:Nat×List Nat×List Nat=>Ziu l p.2.2 p.2.1.length p.1)
    (fun p=>p.1≤l.length∧p.2.2.take p.2.1.length=p.2.1.reverse∧p.2.1.length≤p.2.2.length∧p.2.1.length≤p.1∧(∀n∈p.2.2,n≤p.1)∧(∃j,Zs j p.2.1.length (l.drop p.1)=-1)∧Zes p.2.1 (l.drop p.1)=Zes [] l)
    (fun p=>l.length-p.1) _ ?_ (0,[],[]) ⟨Yq _,rfl,Yg _,Yg _,by simp,⟨0,hw⟩,rfl⟩
   rintro⟨i,s,F⟩ ⟨hi,h1,h2,h3,h4,⟨j,h5⟩,h6⟩
   dsimp only at *
   by_cases hlt:i<l.length
   ·left;have hd:l.drop i=l[i]'hlt::l.drop (i+1):=Yd hlt;rw[hd]at h5 h6;have hc:¬ (arN (l[i]'hlt).op<0∨(s.length:Int)<arN (l[i]'hlt).op):=by
     intro hh;unfold Zs at h5;rw[if_pos hh]at h5;omega
    unfold Zs at h5;rw[if_neg hc]at h5;have ha0:0≤arN (l[i]'hlt).op:=by omega
    have ha1:arN (l[i]'hlt).op≤s.length:=by omega
    obtain⟨F',⟨g1,g2,g3⟩,g4⟩:=zxb (T:=T) l hl F s i hlt h1 h2 h3 h4 ha0 ha1;have hln:=zz6 ha0 ha1;refine⟨(i+1,Zeb s (l[i]'hlt),F'),⟨by dsimp only;omega,g1,g2,by dsimp only;omega,g3,⟨j+1,?_⟩,h6⟩,by dsimp only;omega,g4⟩;rw[←h5];dsimp only;rw[hln]
   ·right;have hil:i=l.length:=by omega
    subst hil;rw[Y0]at h5 h6;have hs:Zes s []=s:=rfl;rw[hs]at h6;subst h6;obtain⟨a,ha⟩:∃a,Zes [] l=[a]:=Ybv.1 hone;rw[ha]at h1 h2 ⊢;have hF0:F[0]? = some a:=by
     obtain⟨t1,t2,t3⟩:=zg1 h1;rw[Ybt]at t2;have t4:0<F.length:=t3;rw[Yag,Ya t4]at t2;rw[Ya t4];exact congrArg some t2
    refine⟨_,⟨F,hF0,rfl⟩,?_⟩;unfold Ziu;clear h4 h1;constructor<;>simp -implicitDefEqProofs[l492_1]
  obtain⟨_,⟨F,hF,rfl⟩,hlo⟩:=hlo;rw[e];unfold Ziu at hlo;simp only[Yr,z37]at hlo;obtain⟨hlt,hge⟩:=Ye.1 hF;generalize (Zes [] l).headD 0=v at *
  rw[zab Zbo.h492 rfl,b492];clear e hone;simp -implicitDefEqProofs[c,hlo,hF,hge,hlt]
 ·rw[decide_eq_false hw]at c;have e:Zd3 l=0:=by unfold Zd3;rw[if_neg hw]
  rw[e,zab Zbo.h492 rfl,b492];simp -implicitDefEqProofs[c]
end
section
variable{T:Tbl}[Zcc T][Zcu T]
theorem zmu(c:UInt8):Zb T 185 [u8 c.toNat]=some (.b (isD c)):=by
 rw[zab Zcu.h185 rfl,b185];by_cases h1:48≤c.toNat
 ·simp -implicitDefEqProofs[isD,h1]
 ·simp -implicitDefEqProofs[isD,h1]
theorem zjs(c:UInt8):Zb T 186 [u8 c.toNat]=some (.b (isL c)):=by
 rw[zab Zcu.h186 rfl,b186];by_cases h1:97≤c.toNat<;>by_cases h2:c.toNat≤122<;>by_cases h3:65≤c.toNat<;>by_cases h4:c.toNat≤90<;>by_cases h5:c.toNat=95 <;>
  simp -implicitDefEqProofs[isL,h1,h2,h3,h4,h5]
theorem zy8(c:UInt8):Zb T 187 [u8 c.toNat]=some (.b (isS c)):=by rw[p187,zti]
theorem zy9(c:UInt8):Zb T 177 [u8 c.toNat]=some (.i .i64 (Zh c)):=by
 have h1:=zmu (T:=T) c;have h2:=zjs (T:=T) c;have h3:=zy8 (T:=T) c;rw[zab Zcu.h177 rfl,b177];cases e1:isD c<;>cases e2:isL c<;>cases e3:isS c<;>simp -implicitDefEqProofs[Zh,h1,h2,h3,e1,e2,e3]
theorem zza(k:Nat)(c:UInt8):Zb T 188 [.i .i64 k,u8 c.toNat]=some (.b (Zan k c)):=by
 have h1:=zmu (T:=T) c;have h2:=zjs (T:=T) c;rw[zab Zcu.h188 rfl,b188];by_cases k1:k=1
 ·subst k1;cases e1:isD c<;>cases e2:isL c<;>simp -implicitDefEqProofs[Zan,h1,h2,e1,e2]
 ·have k1':¬ (k:Int)=1:=by omega
  by_cases k2:k=2
  ·subst k2;cases e1:isD c<;>cases e2:isL c<;>simp -implicitDefEqProofs[Zan,h1,h2,e1,e2]
  ·have k2':¬ (k:Int)=2:=by omega
   simp -implicitDefEqProofs[Zan,h1,h2,k1,k2,k1',k2']
theorem zzb(k:Nat):Zb T 179 [.i .i64 k]=some (.i .i64 (Zag k)):=by
 rw[zab Zcu.h179 rfl,b179];by_cases k1:k=1
 ·subst k1;simp -implicitDefEqProofs[Zag]
 ·have k1':¬ (k:Int)=1:=by omega
  by_cases k2:k=2
  ·subst k2;simp -implicitDefEqProofs[Zag]
  ·have k2':¬ (k:Int)=2:=by omega
   simp -implicitDefEqProofs[Zag,k1,k2,k1',k2']
theorem zsa(s:List UInt8)(hs:s.length≤1000000)(k F:Nat):∀n:Nat,(n≤s.length∧n+((s.drop n).takeWhile (Zan k)).length=F) →
  Ze T 0 0 (.norm false [5]) l178_0 ⟨[(0,.s s),(1,.i .i64 k),(5,.i .i64 n)],[],2⟩=some (.n,⟨[(5,.i .i64 F)],[],2⟩):=by
 refine zaw (fun n:Nat=>⟨[(0,.s s),(1,.i .i64 k),(5,.i .i64 n)],[],2⟩) _ (fun n=>s.length-n) _ ?_
 rintro n ⟨hn,hF⟩
 by_cases h0:n<s.length
 ·have hg:s[n]? = some (s[n]'h0):=Ya h0;have hd:=Yd h0;have hgo:=zza (T:=T) k (s[n]'h0);have hw:IntKind.wrap .i64 ((n:Int)+1)=((n+1:Nat):Int):=zac _ (by omega);by_cases hc:Zan k (s[n]'h0)=true
  ·left;rw[hd,Ycd hc]at hF;refine⟨n+1,⟨h0,by simp only[Yc]at hF;omega⟩,by show s.length-(n+1)<s.length-n;omega,?_,rfl⟩;simp -implicitDefEqProofs[l178_0,h0,hg,hgo,hc,hw]
  ·right;rw[hd,Yce hc]at hF;simp only[Yag,Yt]at hF;subst hF;constructor<;>simp -implicitDefEqProofs[l178_0,h0,hg,hgo,hc]
 ·right;have:n=s.length:=by omega
  subst this;rw[Y0]at hF;simp only[List.takeWhile_nil,Yag,Yt]at hF;subst hF;constructor<;>simp -implicitDefEqProofs[l178_0]
theorem zvy(c:UInt8)(r:List UInt8)(hs:r.length≤100000)(k:Nat):Zb T 178 [.s (c::r),.i .i64 k]=some (.i .i64 (Z1 k r)):=by
 have h:=zsa (T:=T) (c::r) (by simp;omega) k (Z1 k r) 1 ⟨by simp,rfl⟩;rw[zab Zcu.h178 rfl,b178];simp at h;simp -implicitDefEqProofs[h]
theorem zhx(c:UInt8)(n:Nat)(hn:n<256):c=UInt8.ofNat n↔c.toNat=n:=by
 constructor
 ·rintro rfl;simp;omega
 ·intro h;subst h;simp
theorem z29(c:UInt8):isB c=(decide (c.toNat=32) || decide (c.toNat=9) || decide (c.toNat=10) || decide (c.toNat=13)):=by
 have e (n:Nat) (hn:n<256):decide (c=UInt8.ofNat n)=decide (c.toNat=n):=decide_eq_decide.2 (zhx c n hn);unfold isB;rw[show (32:UInt8)=UInt8.ofNat 32 from rfl,show (9:UInt8)=UInt8.ofNat 9 from rfl,show (10:UInt8)=UInt8.ofNat 10 from rfl,show (13:UInt8)=UInt8.ofNat 13 from rfl,e 32 (by decide),e 9 (by decide),e 10 (by decide),e 13 (by decide)]
def wdR(w:Wd):List AV:=[.i .i64 w.1,.s w.2.1,.i .i64 w.2.2]
def Zz(l:List Wd):List (List AV):=l.map wdR
@[simp] theorem zd5(l:List Wd):(Zz l).length=l.length:=by simp[Zz]
@[simp] theorem zca(l:List Wd):wkL (Zz l)=Zz l:=by
 induction l with
 | nil=>rfl
 | cons x l ih=>simpa[Zz,wdR,wkL,wkR]using ih
@[simp] theorem zcz(l:List Wd):((Zz l).flatMap fun r=>r.flatMap rfA)=[]:=by
 induction l with
 | nil=>rfl
 | cons x l ih=>
  have e:Zz (x::l)=wdR x::Zz l:=rfl;rw[e,Ydw,ih];simp[wdR,rfA]
theorem zjt(l:List Wd)(k a:Nat)(t:List UInt8):wkL (List.take l.length (Zz l)++[[AV.i .i64 k,.s t,.i .i64 a]])=Zz (l++[(k,t,a)]):=by
 rw[Yb (by simp),show Zz l++[[AV.i .i64 k,.s t,.i .i64 a]]=Zz (l++[(k,t,a)]) by simp[Zz,wdR],zca]
def Znl(s:List UInt8)(i:Nat)(acc:List Wd):St:=
 ⟨[(0,.s s),(3,.ptr (.loc 3) 1 4 0 0),(4,.bs (.loc 4) 2 3 0 acc.length),(5,.i .i64 i)],[(.loc 3,⟨1,.str,4,[[.i .i64 0,.i .i64 0,.i .i64 0,.i .i64 0]]⟩),(.loc 4,⟨2,.own,3,Zz acc⟩)],4⟩
def Znm:Except Nat (List Wd)→Option (Ex×St)
 | .ok ws=>some (.n,⟨[(3,.ptr (.loc 3) 1 4 0 0),(4,.bs (.loc 4) 2 3 0 ws.length)],[(.loc 3,⟨1,.str,4,[[.i .i64 0,.i .i64 0,.i .i64 0,.i .i64 0]]⟩),(.loc 4,⟨2,.own,3,Zz ws⟩)],4⟩)
 | .error e=>some (.r,⟨[(2,.sl [] .an),(3,.ptr (.loc 3) 1 4 0 0)],[(.loc 3,⟨1,.str,4,[[.i .i64 1,.i .i64 0,.i .i64 0,.i .i64 e]]⟩)],3⟩)
def Zmb(r:Except Nat (List Wd)):AV:=
 match r with
 | .ok ws=>.tup [.sl (Zz ws) .an,.agg [.i .i64 0,.i .i64 0,.i .i64 0,.i .i64 0]]
 | .error e=>.tup [.sl [] .an,.agg [.i .i64 1,.i .i64 0,.i .i64 0,.i .i64 e]]
def Zh8(s:List UInt8):Except Nat (List Wd):=if 4000<s.length then .error 4000 else Zc3 (s.drop (Za2 false s)) (Za2 false s) []
def Zbk(k:Int)(t:List UInt8):Bool:=
 match t with
 | []=>false
 | c::r=>decide (k≠0)&&decide ((Zh c:Int)=k)&&decide (Z1 (Zh c) r=r.length+1)&&decide (r.length+1≤Zag (Zh c))
theorem zvz(k a:Int)(t:List UInt8)(ht:t.length≤100000):Zb T 172 [.agg [.i .i64 k,.s t,.i .i64 a]]=some (.b (Zbk k t)):=by
 rw[zab Zcu.h172 rfl,b172];cases t with
 | nil=>simp -implicitDefEqProofs[Zbk]
 | cons c r=>
  simp only[Yc]at ht;have hk:=zy9 (T:=T) c;have hf:=zvy (T:=T) c r (by omega) (Zh c);have hm:=zzb (T:=T) (Zh c);by_cases h0:k=0
  ·simp -implicitDefEqProofs[Zbk,h0]
  ·by_cases h1:(Zh c:Int)=k
   ·subst h1;have h0':¬ Zh c=0:=by omega
    by_cases h2:Z1 (Zh c) r=r.length+1
    ·have h2':((Z1 (Zh c) r:Nat):Int)=(r.length:Int)+1:=by omega
     by_cases h3:r.length+1≤Zag (Zh c)
     ·have h3':(r.length:Int)+1≤(Zag (Zh c):Nat):=by omega
      simp -implicitDefEqProofs[Zbk,h0',hk,hf,hm,h2,h2',h3,h3']
     ·have h3':¬ (r.length:Int)+1≤(Zag (Zh c):Nat):=by omega
      simp -implicitDefEqProofs[Zbk,h0',hk,hf,hm,h2,h2',h3,h3']
    ·have h2':¬ ((Z1 (Zh c) r:Nat):Int)=(r.length:Int)+1:=by omega
     simp -implicitDefEqProofs[Zbk,h0',hk,hf,hm,h2,h2']
   ·simp -implicitDefEqProofs[Zbk,h0,hk,h1]
abbrev Wz:=Int×List UInt8×Int
def wzR(w:Wz):List AV:=[.i .i64 w.1,.s w.2.1,.i .i64 w.2.2]
def Zlv(l:List Wz):List (List AV):=l.map wzR
def Zoc(l:List Wz)(i:Nat)(b:BId):St:=
 ⟨[(3,.bs (.loc 3) 1 1 0 i),(6,.sl (Zlv l) .an),(7,.i .i64 l.length),(8,.i .i64 i)],[(.loc 3,⟨1,.own,1,Zih ((l.take i).map (·.2.1))⟩)],3⟩
end
def nameB(s:List UInt8):Bool:=Zbk 2 s&&decide (s≠[116])&&decide (s≠[121])&&decide (s≠[112])&&decide (s≠[108,101,116])
def twB(l:List Lt)(nm:List UInt8):Bool:=l.any fun x=>decide (x.name=nm)
def ptA(dim pars lets:Int)(c:List Nd):Int:=if Za7 dim pars lets c<0∧40<Zd3 c then c.length else Za7 dim pars lets c
def Zec(dim pars:Int)(L:List Lt):Nat→List Lt→Option (Int×Int×Int)
 | _,[]=>none
 | i,x::r=>if nameB x.name=false∨twB (L.take i) x.name=true then some ((i:Int)+1,1,0) else if 0≤ptA dim pars i x.code then some ((i:Int)+1,0,ptA dim pars i x.code) else Zec dim pars L (i+1) r
def Ze0(dim pars:Int)(n:Nat):Nat→List (List Nd)→Option (Int×Int×Int)
 | _,[]=>none
 | i,c::r=>if 0≤ptA dim pars n c then some (((n+i:Nat):Int)+1,0,ptA dim pars n c) else Ze0 dim pars n (i+1) r
def whB(f:Fd)(dim pars:Int):Bool:=decide (1≤dim∧dim≤6∧0≤pars∧pars≤6∧(f.outs.length:Int)=dim∧f.lets.length≤10∧Zau f≤300)
def Zet(f:Fd)(dim pars:Int):Option (Int×Int×Int):=
 if whB f dim pars=false then some (0,0,0) else match Zec dim pars f.lets 0 f.lets with
  | some q=>some q
  | none=>Ze0 dim pars f.lets.length 0 f.outs
class Zln (T:Tbl):Prop where
def meths1:List RV:=[.cell 1 (some 445),.cell 2 (some 444),.cell 3 (some 441),.cell 4 (some 448),.cell 5 (some 443),.cell 6 (some 447),.cell 7 (some 446),.cell 8 (some 442)]
class Zlj (T:Tbl):Prop where
 h1:∃t,T 1000001=some ⟨t,0,meths1,.bad,none,false⟩
end Go.Ab