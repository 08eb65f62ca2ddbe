/-
  A calculus of values, boxes and code, and what functions of the program compute, proved in it.
  Conditions: none beyond those that the theorems state. (Part 6: RgTab, RgBld, TxJoin, TxJoinOk, TxStr, TxRune, TxCut, RgStr, Ab25, Ab26, Ab27, AxTop, NmFrac, AxTop2, RgSign, GcSpan, NmGcd, GpCommon, GpWhole, GpFrac, GpRow, GpRow2, GpMix, GpSpan, AxTop3, GpRow3, GpRef06, GpRef08, GpRef09, GpRef11, GpRow4, GpLaw11, GpGrid, GpGrid2, NmGrid, GpFrac2, NmRow, GpPow, GpRef12, GpLaw12, GcPoly, GpPoly, GpRow5, NmTape, AxTop5, GpLex, NmHist, GpFrac3, GpTape, GpTape2, GpGauge, GpRun, GpRun2, GpRun3, NmSch, AxTop10, RgBase, GpSplit, GpFig, GpFig2, NmTxt, NmSchT, GcStep, GpScheme, GpStep.)
-/
import Derived.Test.YtoppjelfghopnaaGreatDoorPart5
import Derived.Test.YtoppjelfghopnaaGreatDoorProg
import Derived.KernelRfl
import Derived.Shelf.RegionOpenPlain
import Derived.Lib.Strings
import Derived.Lib.Slices
import Derived.Lib.Walk
import Derived.Lib.Builder
import Derived.Lib.AppendStr
import Derived.Lib.UnsafeStr
import Derived.Lib.MakeNoZero
import Derived.WalkKit
import Derived.Laws.Externs
import Derived.Laws.IdiomCopy
import Derived.Laws.BitsLemmas
import GoSem.Claims
import Derived.Shelf.Strings.Builder1
import Derived.Shelf.Strings.Builder2
import Derived.Shelf.Strings.OnBuilder
import Derived.Shelf.Strings.IndexAnyAll
import Derived.Shelf.Strings.Count
import Derived.Shelf.Strings.Search2
import Derived.Laws.RangeAny
import Derived.Laws.Runes
import Derived.Lib.DecodeN
import Derived.WalkMore
import Derived.Deep.LoopGhost
import Derived.Shelf.Small.Utf8
import Derived.Shelf.Strings.Cut
import Derived.ProofKit
import Derived.OpenShut
import Derived.Deep.DeepCutAuto
import Derived.Deep.DeepFit
import Derived.Deep.CutBlock
import Derived.Lib.OthersKept
import Derived.Test.YtoppjelfghopnaaGreatDoorRows
import Derived.Test.YtoppjelfghopnaaGreatDoorCards
import Derived.Test.YtoppjelfghopnaaGreatDoorTie
import Derived.LaidMore
import Derived.Stop.Joined
import Derived.SevenTiedAt
import Derived.Lib.LaidU8

set_option linter.unusedSectionVars false
set_option linter.unusedVariables false
set_option linter.unusedSimpArgs false
set_option linter.unnecessarySimpa false

section
namespace Go.Proofs.YtoppjelfghopnaaGreatDoor
open Go Go.Ab
set_option maxRecDepth 100000
def nus:List (Nat×Nat):=[(23,53),(24,150),(25,196),(27,98),(32,189),(33,59),(36,167),(37,56),(38,95),(39,105),(40,210),(41,48),(43,107),(52,145),(54,113),(55,89),(56,96),(57,97),(58,64),(59,184),(60,55),(61,65),(62,136),(63,148),(64,126),(65,205),(66,62),(67,63),(70,93),(71,100),(72,49),(73,168),(84,111),(85,137),(86,90),(87,75),(88,138),(89,99),(90,115),(91,170),(92,171),(93,172),(94,173),(95,149),(96,182),(97,146),(98,164),(99,213),(100,214),(101,116),(103,117),(106,140),(115,174),(116,175),(117,139),(118,151),(119,197),(120,198),(121,199),(122,183),(123,194),(125,152),(126,153),(127,154),(128,155),(168,58),(172,81),(173,31),(177,120),(178,121),(179,122),(180,102),(181,103),(182,104),(184,57),(185,158),(186,159),(187,160),(188,161),(189,142),(190,143),(194,141),(198,169),(199,134),(200,135),(201,94),(202,52),(203,51),(204,190),(205,22),(207,73),(208,129),(210,54),(211,131),(212,87),(215,24),(223,130),(224,180),(225,181),(226,144),(227,147),(228,109),(229,108),(230,110),(231,61),(232,60),(233,68),(239,114),(245,112),(249,70),(252,207),(253,206),(254,191),(255,192),(256,163),(258,215),(260,66),(261,33),(275,127),(279,36),(285,34),(288,37),(344,188),(345,193),(346,165),(353,106),(354,195),(356,166),(357,218),(360,208),(361,209),(362,162),(529,35),(540,67),(541,69),(551,46),(559,84),(560,85),(561,86),(562,88),(599,11),(603,7),(608,20),(609,27),(610,28),(612,45),(614,80),(615,82),(616,83),(618,123),(619,124),(620,125),(621,128),(623,3),(626,6),(627,8),(628,9),(629,10),(630,12),(631,13),(632,14),(633,15),(635,29),(636,30),(637,32),(2043,107),(2071,100),(2092,171),(2097,146),(2106,140)]
def nu(u:Nat):FuncId:=(nus.lookup u).getD 0
def Zel(P:Program)(ν:Nat→FuncId)(τ:Nat→Nat)(u:Nat)(af:AFx):Prop:=
 match af.body.isPrim with
 | some f=>∀xs r,f xs=some r→Zaq P (ν u) xs (·=r)
 | none=>if af.body.isBad=true then (∀m∈Zhy af,Zdt P af.np m.1=some (ν m.2))∧(af.res.isEmpty=true→af.np=ν af.nt) else Zfl P (ν u)=some (erF ν τ af)
theorem ok_pr{P:Program}{ν:Nat→FuncId}{τ:Nat→Nat}{u:Nat}{af:AFx}{f:List AV→Option AV}(h0:af.body.isPrim=some f)(h:∀xs r,f xs=some r→Zaq P (ν u) xs (·=r)):Zel P ν τ u af:=by unfold Zel;rw[h0];exact h
theorem ok_fn{P:Program}{ν:Nat→FuncId}{τ:Nat→Nat}{u:Nat}{af:AFx}(h0:af.body.isPrim=none)(h1:af.body.isBad=false)(h:Zfl P (ν u)=some (erF ν τ af)):Zel P ν τ u af:=by unfold Zel;rw[h0];simp only[h1];exact h
theorem ok_cons{P:Program}{ν:Nat→FuncId}{τ:Nat→Nat}{u:Nat}{af:AFx}{l:List (Nat×AFx)}(h:Zel P ν τ u af)(hl:∀p∈l,Zel P ν τ p.1 p.2) :
  ∀p∈(u,af)::l,Zel P ν τ p.1 p.2:=by
 intro p hp;rcases List.mem_cons.1 hp with rfl | hp
 ·exact h
 ·exact hl p hp
theorem ok_lookup{P:Program}{ν:Nat→FuncId}{l:List (Nat×AFx)}(hl:∀p∈l,Zel P ν (Zt fun u=>l.lookup u) p.1 p.2):TOk P ν (fun u=>l.lookup u):=fun _ _ h=>hl _ (zdg h)
def pT(i:Nat):List (Nat×AFx):=match i with
 | 0=>[(115,row115),(116,row116),(117,row117),(118,row118),(91,row91),(86,row86),(106,row106),(71,row71),(72,row72),(73,row73),(70,row70),(87,row87),(85,row85),(56,row56),(88,row88),(57,row57),(2106,row2106),(89,row89),(100,row100),(60,row60),(92,row92),(94,row94),(90,row90),(119,row119),(120,row120)]
 | 1=>[(121,row121),(93,row93),(2071,row2071),(2092,row2092),(62,row62),(98,row98),(123,row123),(64,row64),(99,row99),(65,row65),(55,row55),(38,row38),(40,row40),(23,row23),(25,row25),(27,row27),(37,row37),(41,row41),(36,row36),(32,row32),(198,row198),(199,row199),(200,row200),(201,row201),(202,row202)]
 | 2=>[(203,row203),(205,row205),(207,row207),(210,row210),(211,row211),(212,row212),(215,row215),(204,row204),(208,row208),(223,row223),(346,row346),(354,row354),(362,row362),(345,row345),(258,row258),(356,row356),(357,row357),(252,row252),(253,row253),(254,row254),(255,row255),(256,row256),(275,row275),(185,row185),(186,row186)]
 | 3=>[(177,row177),(188,row188),(179,row179),(178,row178),(172,row172),(551,row551),(559,row559),(560,row560),(561,row561),(562,row562),(608,row608),(612,row612),(614,row614),(615,row615),(616,row616),(618,row618),(619,row619),(620,row620),(621,row621),(599,row599),(43,row43),(84,row84),(52,row52),(54,row54),(58,row58)]
 | 4=>[(59,row59),(61,row61),(122,row122),(95,row95),(96,row96),(97,row97),(63,row63),(224,row224),(225,row225),(226,row226),(227,row227),(228,row228),(229,row229),(230,row230),(2097,row2097),(2043,row2043),(66,row66),(67,row67),(39,row39),(24,row24),(33,row33),(231,row231),(232,row232),(233,row233),(239,row239)]
 | 5=>[(353,row353),(260,row260),(261,row261),(279,row279),(285,row285),(245,row245),(189,row189),(190,row190),(181,row181),(180,row180),(182,row182),(168,row168),(173,row173),(529,row529),(540,row540),(541,row541),(249,row249),(288,row288),(603,row603),(609,row609),(610,row610),(627,row627),(632,row632),(626,row626),(629,row629)]
 | 6=>[(636,row636),(637,row637),(628,row628),(633,row633),(635,row635),(623,row623),(630,row630),(631,row631)]
 | _=>[]
def Zn2:List (Nat×AFx):=[(344,row344),(194,row194),(361,row361),(187,row187),(184,row184)]
def lTab:List (Nat×AFx):=pT 0++pT 1++pT 2++pT 3++pT 4++pT 5++pT 6++Zn2
def gTab:List (Nat×AFx):=lTab++[(101,row101),(103,row103),(125,row125)]
def tab:Tbl:=fun u=>gTab.lookup u
def Zip:Nat→Nat:=Zt fun u=>lTab.lookup u
def Zcs(l:List (Nat×AFx)):Prop:=(l.map fun p=>Zfl Tryz.prog (nu p.1))=l.map fun p=>some (erF nu Zip p.2)
theorem res_mem{l:List (Nat×AFx)}(h:Zcs l)(h2:(l.all fun p=>p.2.body.isPrim.isNone&&!p.2.body.isBad)=true):∀p∈l,Zel Tryz.prog nu Zip p.1 p.2:=by
 intro p hp;have h3:=List.all_eq_true.1 h2 p hp;simp only[Bool.and_eq_true,Option.isNone_iff_eq_none,Bool.not_eq_true']at h3;exact ok_fn h3.1 h3.2 (List.map_inj_left.1 h p hp)
theorem ok_app{l r:List (Nat×AFx)}(h1:∀p∈l,Zel Tryz.prog nu Zip p.1 p.2)(h2:∀p∈r,Zel Tryz.prog nu Zip p.1 p.2):∀p∈l++r,Zel Tryz.prog nu Zip p.1 p.2:=fun p hp=>(List.mem_append.1 hp).elim (h1 p) (h2 p)
theorem res0:Zcs (pT 0):=by unfold Zcs;kernel_rfl
theorem res1:Zcs (pT 1):=by unfold Zcs;kernel_rfl
theorem res2:Zcs (pT 2):=by unfold Zcs;kernel_rfl
theorem res3:Zcs (pT 3):=by unfold Zcs;kernel_rfl
theorem res4:Zcs (pT 4):=by unfold Zcs;kernel_rfl
theorem res5:Zcs (pT 5):=by unfold Zcs;kernel_rfl
theorem res6:Zcs (pT 6):=by unfold Zcs;kernel_rfl
theorem lTab_ok(hp344:∀xs r,prim344 xs=some r→Zaq Tryz.prog (nu 344) xs (·=r))(hp194:∀xs r,prim194 xs=some r→Zaq Tryz.prog (nu 194) xs (·=r))(hp361:∀xs r,prim361 xs=some r→Zaq Tryz.prog (nu 361) xs (·=r))(hp187:∀xs r,prim187 xs=some r→Zaq Tryz.prog (nu 187) xs (·=r))(hp184:∀xs r,prim184 xs=some r→Zaq Tryz.prog (nu 184) xs (·=r)):TOk Tryz.prog nu (fun u=>lTab.lookup u):=ok_lookup (ok_app (ok_app (ok_app (ok_app (ok_app (ok_app (ok_app (res_mem res0 (by kernel_rfl)) (res_mem res1 (by kernel_rfl))) (res_mem res2 (by kernel_rfl))) (res_mem res3 (by kernel_rfl))) (res_mem res4 (by kernel_rfl))) (res_mem res5 (by kernel_rfl))) (res_mem res6 (by kernel_rfl))) (ok_cons (ok_pr rfl hp344) (ok_cons (ok_pr rfl hp194) (ok_cons (ok_pr rfl hp361) (ok_cons (ok_pr rfl hp187) (ok_cons (ok_pr rfl hp184) (fun p hp=>by cases hp)))))))
def Zkk:List Nat→Bool
 | []=>true
 | a::l=>!l.contains a&&Zkk l
theorem sub_app{l r:List (Nat×AFx)}(h:Zkk (l.map (·.1))=true):∀p∈l,(l++r).lookup p.1=some p.2:=by
 induction l with
 | nil=>intro p hp;cases hp
 | cons a l ih=>
  intro p hp;obtain⟨k,v⟩:=a;simp only[List.map_cons,Zkk,Bool.and_eq_true,Bool.not_eq_true']at h;rcases List.mem_cons.1 hp with rfl | hq
  ·simp
  ·have hne:(p.1 == k)=false:=by
    cases hb:p.1 == k with
    | false=>rfl
    | true=>
     have:=eq_of_beq hb;subst this;have h5:(l.map (·.1)).contains p.1=true:=List.contains_iff_mem.2 (List.mem_map.2 ⟨p,hq,rfl⟩);rw[h5]at h;cases h.1
   rw[List.cons_append,List.lookup_cons,hne];exact ih h.2 p hq
theorem lTab_part:Part gTab lTab:=⟨sub_app (by kernel_rfl),by kernel_rfl⟩
def sTab:List (Nat×AFx):=[(118,row118),(86,row86),(106,row106),(71,row71),(70,row70),(90,row90),(101,row101),(103,row103),(125,row125)]
def Zpb:Nat→Nat:=Zt fun u=>sTab.lookup u
instance:Zab tab:=⟨by kernel_rfl,by kernel_rfl,by kernel_rfl,by kernel_rfl,by kernel_rfl⟩
instance:Zu tab where
 h115:=by kernel_rfl
 h116:=by kernel_rfl
 h117:=by kernel_rfl
 h118:=by kernel_rfl
 h91:=by kernel_rfl
 h86:=by kernel_rfl
 h106:=by kernel_rfl
 h71:=by kernel_rfl
 h72:=by kernel_rfl
 h73:=by kernel_rfl
 h70:=by kernel_rfl
 h87:=by kernel_rfl
 h85:=by kernel_rfl
 h56:=by kernel_rfl
 h88:=by kernel_rfl
 h57:=by kernel_rfl
 h2106:=by kernel_rfl
instance:Zz tab where
 h115:=by kernel_rfl
 h116:=by kernel_rfl
 h117:=by kernel_rfl
 h118:=by kernel_rfl
 h91:=by kernel_rfl
 h86:=by kernel_rfl
 h106:=by kernel_rfl
 h71:=by kernel_rfl
 h72:=by kernel_rfl
 h73:=by kernel_rfl
 h70:=by kernel_rfl
 h87:=by kernel_rfl
 h85:=by kernel_rfl
 h56:=by kernel_rfl
 h88:=by kernel_rfl
 h57:=by kernel_rfl
 h2106:=by kernel_rfl
 h89:=by kernel_rfl
 h100:=by kernel_rfl
 h60:=by kernel_rfl
instance:Z1 tab:=⟨by kernel_rfl,by kernel_rfl⟩
instance:Zw tab:=⟨by kernel_rfl,by kernel_rfl,by kernel_rfl,by kernel_rfl,by kernel_rfl⟩
instance:Zs tab:=⟨by kernel_rfl,by kernel_rfl,by kernel_rfl⟩
instance:Zr tab:=⟨by kernel_rfl,by kernel_rfl,by kernel_rfl,by kernel_rfl,by kernel_rfl,by kernel_rfl⟩
instance:Za0 tab where
instance:Zly tab:=⟨by kernel_rfl,by kernel_rfl⟩
instance:Zg tab:=⟨by kernel_rfl,by kernel_rfl,by kernel_rfl,by kernel_rfl,by kernel_rfl,by kernel_rfl,by kernel_rfl,by kernel_rfl,by kernel_rfl,by kernel_rfl⟩
instance:Zj tab:=⟨by kernel_rfl,by kernel_rfl,by kernel_rfl,by kernel_rfl⟩
instance:Z0 tab:=⟨by kernel_rfl,by kernel_rfl,by kernel_rfl,by kernel_rfl,by kernel_rfl,by kernel_rfl,by kernel_rfl,by kernel_rfl⟩
instance:Zay tab:=⟨by kernel_rfl⟩
instance:Za9 tab:=⟨by kernel_rfl⟩
instance:Zbi tab:=⟨by kernel_rfl⟩
instance:Zcv tab:=⟨by kernel_rfl,by kernel_rfl,by kernel_rfl⟩
instance:Zao tab:=⟨by kernel_rfl,by kernel_rfl,by kernel_rfl,by kernel_rfl⟩
instance:Zby tab:=⟨by kernel_rfl,by kernel_rfl,by kernel_rfl⟩
instance:Zcu tab:=⟨by kernel_rfl,by kernel_rfl,by kernel_rfl,by kernel_rfl,by kernel_rfl⟩
instance:Zcz tab where
instance:Zca tab where
instance:Zdb tab where
instance:Ze4 tab where
instance:Ze3 tab where
instance:Zaz tab where
instance:Zcj tab where
instance:Zco tab:=⟨by kernel_rfl⟩
instance:Zfq tab where
instance:Zcb tab:=⟨by kernel_rfl,by kernel_rfl,by kernel_rfl,by kernel_rfl,by kernel_rfl,by kernel_rfl,by kernel_rfl,by kernel_rfl,by kernel_rfl⟩
instance:Zat tab:=⟨by kernel_rfl,by kernel_rfl,by kernel_rfl,by kernel_rfl,by kernel_rfl⟩
instance:Za3 tab:=⟨by kernel_rfl,by kernel_rfl,by kernel_rfl,by kernel_rfl,by kernel_rfl,by kernel_rfl,by kernel_rfl,by kernel_rfl,by kernel_rfl⟩
instance:Zfa tab:=⟨by kernel_rfl⟩
instance:Zfh tab where
instance:Z5 tab:=⟨by kernel_rfl,by kernel_rfl,by kernel_rfl,by kernel_rfl,by kernel_rfl,by kernel_rfl⟩
instance:Zah tab where
 h43:=by kernel_rfl
 h84:=by kernel_rfl
 h52:=by kernel_rfl
 h54:=by kernel_rfl
 h58:=by kernel_rfl
 h59:=by kernel_rfl
 h61:=by kernel_rfl
instance:Z3 tab where
 h43:=by kernel_rfl
 h84:=by kernel_rfl
 h52:=by kernel_rfl
 h54:=by kernel_rfl
 h58:=by kernel_rfl
 h59:=by kernel_rfl
 h61:=by kernel_rfl
 h122:=by kernel_rfl
 h95:=by kernel_rfl
 h96:=by kernel_rfl
 h97:=by kernel_rfl
 h63:=by kernel_rfl
instance:Z4 tab:=⟨by kernel_rfl,by kernel_rfl,by kernel_rfl,by kernel_rfl,by kernel_rfl,by kernel_rfl,by kernel_rfl,by kernel_rfl⟩
instance:Zaa tab where
 h43:=by kernel_rfl
 h84:=by kernel_rfl
 h52:=by kernel_rfl
 h54:=by kernel_rfl
 h58:=by kernel_rfl
 h59:=by kernel_rfl
 h61:=by kernel_rfl
 h122:=by kernel_rfl
 h95:=by kernel_rfl
 h96:=by kernel_rfl
 h97:=by kernel_rfl
 h63:=by kernel_rfl
 h2043:=by kernel_rfl
 h66:=by kernel_rfl
 h67:=by kernel_rfl
instance:Zai tab where
 h43:=by kernel_rfl
 h84:=by kernel_rfl
 h52:=by kernel_rfl
 h54:=by kernel_rfl
 h58:=by kernel_rfl
 h59:=by kernel_rfl
 h61:=by kernel_rfl
 h122:=by kernel_rfl
 h95:=by kernel_rfl
 h96:=by kernel_rfl
 h97:=by kernel_rfl
 h63:=by kernel_rfl
 h2043:=by kernel_rfl
 h66:=by kernel_rfl
 h67:=by kernel_rfl
 h39:=by kernel_rfl
 h24:=by kernel_rfl
 h33:=by kernel_rfl
instance:Z8 tab:=⟨by kernel_rfl,by kernel_rfl,by kernel_rfl,by kernel_rfl,by kernel_rfl⟩
instance:Zbv tab:=⟨by kernel_rfl,by kernel_rfl⟩
instance:Zas tab:=⟨by kernel_rfl⟩
instance:Zbn tab:=⟨by kernel_rfl⟩
instance:Zei tab:=⟨by kernel_rfl⟩
instance:Zlc tab where
instance:Zf0 tab where
instance:Zba tab:=⟨by kernel_rfl,by kernel_rfl,by kernel_rfl,by kernel_rfl,by kernel_rfl,by kernel_rfl,by kernel_rfl⟩
instance:Zc6 tab:=⟨by kernel_rfl,by kernel_rfl,by kernel_rfl⟩
instance:Zdv tab:=⟨by kernel_rfl⟩
instance:Zdw tab:=⟨by kernel_rfl⟩
instance:Zh2 tab where
instance:Zhl tab where
instance:Zh3 tab where
instance:Zh4 tab where
instance:Zj2 tab where
instance:Zcq tab:=⟨by kernel_rfl,by kernel_rfl,by kernel_rfl,by kernel_rfl,by kernel_rfl⟩
instance:Zfz tab:=⟨by kernel_rfl⟩
instance:Zan tab:=⟨by kernel_rfl,by kernel_rfl,by kernel_rfl,by kernel_rfl,by kernel_rfl,by kernel_rfl⟩
instance:Zdl tab:=⟨by kernel_rfl,by kernel_rfl,by kernel_rfl⟩
end Go.Proofs.YtoppjelfghopnaaGreatDoor
end
section
namespace Go.Proofs
open Go.RowKit
end Go.Proofs
end
section
set_option linter.unusedVariables false
namespace Go.Proofs
open Go.Shelf Go.RowKit
variable{P:Program}{ρ:Ren}
structure JL (P:Program) (ρ:Ren):Prop extends Lays.n169 P ρ,Lays.n241 P ρ,Builder.Extra P ρ where
 f156:P.funcs[ρ.f 156]? = some (Body.n156 ρ)
 f165:P.funcs[ρ.f 165]? = some (Body.n165 ρ)
 f166:P.funcs[ρ.f 166]? = some (Body.n166 ρ)
 t4:P.underlying (ρ.t 4)=some (TypeDesc.bool)
 a4:∀w,(isAgg (ρ.t 4)).run P w=.ok false w
 z4:∀w,(Go.sizeOf (ρ.t 4)).run P w=.ok 1 w
 v4:∀w,(zeroValue (ρ.t 4)).run P w=.ok (Value.bool false) w
 t20:P.underlying (ρ.t 20)=some (TypeDesc.interface #[])
 a20:∀w,(isAgg (ρ.t 20)).run P w=.ok false w
 z20:∀w,(Go.sizeOf (ρ.t 20)).run P w=.ok 1 w
 v20:∀w,(zeroValue (ρ.t 20)).run P w=.ok (Value.nilIface) w
 t31:P.underlying (ρ.t 31)=some (TypeDesc.slice (ρ.t 9))
 a31:∀w,(isAgg (ρ.t 31)).run P w=.ok false w
 z31:∀w,(Go.sizeOf (ρ.t 31)).run P w=.ok 1 w
 v31:∀w,(zeroValue (ρ.t 31)).run P w=.ok (Value.slice none 0 0) w
 t75:P.underlying (ρ.t 75)=some (TypeDesc.interface #[("Error",ρ.t 80)])
 a75:∀w,(isAgg (ρ.t 75)).run P w=.ok false w
 z75:∀w,(Go.sizeOf (ρ.t 75)).run P w=.ok 1 w
 v75:∀w,(zeroValue (ρ.t 75)).run P w=.ok (Value.nilIface) w
 t76:P.underlying (ρ.t 76)=some (TypeDesc.tuple #[ρ.t 3,ρ.t 75])
 a76:∀w,(isAgg (ρ.t 76)).run P w=.ok false w
 z76:∀w,(Go.sizeOf (ρ.t 76)).run P w=.ok 1 w
 v76:∀w,(zeroValue (ρ.t 76)).run P w=.ok (Value.tuple #[Value.int IntKind.i64 0,Value.nilIface]) w
 t164:P.underlying (ρ.t 164)=some (TypeDesc.unsafePointer)
 a164:∀w,(isAgg (ρ.t 164)).run P w=.ok false w
 z164:∀w,(Go.sizeOf (ρ.t 164)).run P w=.ok 1 w
 v164:∀w,(zeroValue (ρ.t 164)).run P w=.ok (Value.pointer none) w
 e240:∀args w,(callFunc (ρ.f 240) args).run P w=.ok (.enter (ρ.f 240) args) w
 c240:∀(B b:Nat) (bs:List Value) (w:World),Lib.IsBuilder (ρ.t 72) (ρ.t 5) B b bs w →
  Calls P (ρ.f 240) #[.pointer (some ⟨b,0,none⟩)] w fun e w'=>e=.returned (.tuple #[])∧(Lib.BuilderAt (ρ.t 72) (ρ.t 5) B b (.pointer (some ⟨b,0,none⟩)) bs w'∧Below B w w')
 c240f:∀(b:Nat) (w:World),w.cell? ⟨b,0,none⟩=some (.pointer none)→w.shape? b=some ((ρ.t 72),2)→w.frozen? ⟨b,0,none⟩=false →
  Calls P (ρ.f 240) #[.pointer (some ⟨b,0,none⟩)] w fun e w'=>e=.returned (.tuple #[])∧w'=w.setCell ⟨b,0,none⟩ (.pointer (some ⟨b,0,none⟩))
theorem Jl.hid{p:Prop}(h:p):Hid p:=h
end Go.Proofs
end
section
namespace Go.Proofs
open Go.Shelf Go.RowKit Go.Ab
variable{P:Program}{ρ:Ren}
theorem s_inv{w:World}{S:Nat→Nat→Prop}{v:Value}{l:List UInt8}(h:CP w S v (.s l)):v=.string ⟨l.toArray⟩:=by
 cases h with
 | s=>rfl
theorem two_args{cargs:Array Value}(h:cargs.size=2):∃a b,cargs=#[a,b]:=by
 obtain⟨l⟩:=cargs
 match l,h with
 | [a,b],_=>exact⟨a,b,rfl⟩
theorem one_arg{cargs:Array Value}(h:cargs.size=1):∃a,cargs=#[a]:=by
 obtain⟨l⟩:=cargs
 match l,h with
 | [a],_=>exact⟨a,rfl⟩
end Go.Proofs
end
section
namespace Go.Proofs
open Go.Shelf Go.RowKit Go.Ab
variable{P:Program}{ρ:Ren}
theorem bytes_size(s:List UInt8):(⟨s.toArray⟩:ByteArray).size=s.length:=by simp[ByteArray.size]
theorem bytes_list(s:List UInt8):(⟨s.toArray⟩:ByteArray).data.toList=s:=by simp
theorem all_ascii{s:List UInt8}(h:s.all (fun c=>decide (c.toNat<128))=true):∀(j:Nat) b,(⟨s.toArray⟩:ByteArray).data.toList[j]? = some b→b.toNat<128:=by
 intro j b hb;rw[bytes_list]at hb;exact of_decide_eq_true (List.all_eq_true.1 h b (List.mem_of_getElem? hb))
theorem index_pcall(L:Lays.n219 P ρ):∀xs r,prim194 xs=some r→Zaq P (ρ.f 219) xs (·=r):=by
 intro xs r h;unfold prim194 at h;split at h
 ·rename_i s c;cases h;refine⟨enters_of L.f219 (by kernel_rfl) rfl,fun w S cargs hsz hC hS=>?_⟩;obtain⟨v0,v1,rfl⟩:=two_args hsz;have c0:=s_inv (hC 0 _ _ rfl rfl);have c1:=s_inv (hC 1 _ _ rfl rfl);subst c0 c1;have:=Any.stringslite_Index_one L ⟨s.toArray⟩ c w;rw[bytes_list]at this;refine this.mono ?_
  rintro e w' ⟨rfl,rfl⟩
  exact⟨_,_,rfl,rfl,Below.refl _ _,.i _ _⟩
 ·cases h
theorem count_pcall(L:Lays.n138 P ρ):∀xs r,prim361 xs=some r→Zaq P (ρ.f 138) xs (·=r):=by
 intro xs r h;unfold prim361 at h;split at h
 ·rename_i s c;cases h;refine⟨enters_of L.f138 (by kernel_rfl) rfl,fun w S cargs hsz hC hS=>?_⟩;obtain⟨v0,v1,rfl⟩:=two_args hsz;have c0:=s_inv (hC 0 _ _ rfl rfl);have c1:=s_inv (hC 1 _ _ rfl rfl);subst c0 c1;have:=Any.strings_Count_one L ⟨s.toArray⟩ c w;rw[bytes_list]at this;refine this.mono ?_
  rintro e w' ⟨rfl,rfl⟩
  exact⟨_,_,rfl,rfl,Below.refl _ _,.i _ _⟩
 ·cases h
end Go.Proofs
end
section
namespace Go.Proofs
open Go.Shelf Go.RowKit Go.Lib
variable{P:Program}{ρ:Ren}
abbrev Zax:ByteArray:=⟨#[47,46]⟩
set_option maxHeartbeats 2000000 in
set_option maxRecDepth 1000000 in
theorem rune_invalid(L:Lays.n152 P ρ)(r:Int)(w:World)(h0:128≤r)(h1:r≤2147483647)(h2:r≠65533)(hv:Lib.validRune r=false) :
  Calls P (ρ.f 152) #[.string Zax,.int .i32 r] w fun e w'=>e=.returned (.int .i64 (-1))∧w'=w:=by
 have t3:=L.t3;have a3:=L.a3;have z3:=L.z3;have v3:=L.v3;have t4:=L.t4;have a4:=L.a4;have z4:=L.z4;have v4:=L.v4;have t5:=L.t5;have a5:=L.a5;have z5:=L.z5;have v5:=L.v5;have t9:=L.t9;have a9:=L.a9;have z9:=L.z9;have v9:=L.v9;have t21:=L.t21;have a21:=L.a21;have z21:=L.z21;have v21:=L.v21;have e119:∀args w,(callFunc (ρ.f 119) args).run P w=.ok (.enter (ρ.f 119) args) w:=enters_of L.f119 (by kernel_rfl) rfl
 go_enter L.f152,Body.n152_ntmps ρ
 go_wp2_with (go_at_fn (ρ.f 119);refine(Any.utf8_ValidRune { L with } _ _).mono ?_;rintro e w' ⟨rfl,hw⟩;rw[hw,hv])
 go_ret
 exact⟨rfl,rfl⟩
theorem next_slash(w:World)(ty:TypeId):(Instr.next (.pointer (some ⟨w.heap.size,0,none⟩)) true ty).run P (w.iter Zax 0)=.ok (.tuple #[.bool true,.int .i64 0,.int .i32 47]) (w.iter Zax 1):=
 run_next_ascii (P:=P) w Zax 0 ty (by decide) (by decide)
theorem next_dot(w:World)(ty:TypeId):(Instr.next (.pointer (some ⟨w.heap.size,0,none⟩)) true ty).run P (w.iter Zax 1)=.ok (.tuple #[.bool true,.int .i64 1,.int .i32 46]) (w.iter Zax 2):=
 run_next_ascii (P:=P) w Zax 1 ty (by decide) (by decide)
set_option maxHeartbeats 2000000 in
set_option maxRecDepth 1000000 in
theorem rune_error(L:Lays.n152 P ρ)(w:World) :
  Calls P (ρ.f 152) #[.string Zax,.int .i32 65533] w fun e w'=>e=.returned (.int .i64 (-1))∧∃pos,w'=w.iter Zax pos:=by
 have t3:=L.t3;have a3:=L.a3;have z3:=L.z3;have v3:=L.v3;have t4:=L.t4;have a4:=L.a4;have z4:=L.z4;have v4:=L.v4;have t5:=L.t5;have a5:=L.a5;have z5:=L.z5;have v5:=L.v5;have t9:=L.t9;have a9:=L.a9;have z9:=L.z9;have v9:=L.v9;have t21:=L.t21;have a21:=L.a21;have z21:=L.z21;have v21:=L.v21
 go_enter L.f152,Body.n152_ntmps ρ
 go_wp2
 go_loopg [5,6] 2 (fun g _ _ wx=>∃i:Nat,i+g=2∧wx=w.iter Zax i)
 case atStart=>exact⟨0,by omega,rfl⟩
 case round=>
  obtain⟨i,hig,rfl⟩:=hrel
  match gk,i,hig with
  | 0,2,_=>
   have hnx:=fun ty=>run_next_end (P:=P) w Zax 2 ty (by decide)
   go_wp2
   go_ret
   exact⟨rfl,_,rfl⟩
  | 1,1,_=>
   have hnx:=next_dot (P:=P) w
   go_wp2
   go_roundg 0
   case measure=>omega
   case rel=>exact⟨2,by omega,rfl⟩
  | 2,0,_=>
   have hnx:=next_slash (P:=P) w
   go_wp2
   go_roundg 1
   case measure=>omega
   case rel=>exact⟨1,by omega,rfl⟩
set_option maxHeartbeats 4000000 in
set_option maxRecDepth 1000000 in
theorem rune_three(L:Lays.n152 P ρ)(r:Int)(w:World)(h0:128≤r)(h1:r≤2147483647)(h2:r≠65533)(hv:Lib.validRune r=true)(hk:3≤(Utf8.encode r).size)(hk4:(Utf8.encode r).size≤4) :
  Calls P (ρ.f 152) #[.string Zax,.int .i32 r] w fun e w'=>e=.returned (.int .i64 (-1))∧w'=w:=by
 have t3:=L.t3;have a3:=L.a3;have z3:=L.z3;have v3:=L.v3;have t4:=L.t4;have a4:=L.a4;have z4:=L.z4;have v4:=L.v4;have t5:=L.t5;have a5:=L.a5;have z5:=L.z5;have v5:=L.v5;have t9:=L.t9;have a9:=L.a9;have z9:=L.z9;have v9:=L.v9;have t21:=L.t21;have a21:=L.a21;have z21:=L.z21;have v21:=L.v21;have e119:∀args w,(callFunc (ρ.f 119) args).run P w=.ok (.enter (ρ.f 119) args) w:=enters_of L.f119 (by kernel_rfl) rfl;have hcv:∀w,(convert (ρ.t 21) (ρ.t 9) (.int .i32 r)).run P w=.ok (.string (Utf8.encode r)) w:=fun w=>run_convert_int_string w _ _ _ _ (by rw[L.t21];rfl) L.t9;generalize Utf8.encode r=b at *
 go_enter L.f152,Body.n152_ntmps ρ
 go_wp2_with (first | (go_at_fn (ρ.f 119);refine(Any.utf8_ValidRune { L with } _ _).mono ?_;rintro e w' ⟨rfl,hw⟩;rw[hw,hv]) | simp only[hcv])
 go_step3
 go_wp2_with (simp only[hcv])
 go_loopg [9] 0 (fun g i wx=>i=.int .i64 ((b.size:Int)-1)∧wx=w)
 case atStart=>exact⟨rfl,rfl⟩
 case round=>
  obtain⟨rfl,rfl⟩:=hrel;have hge:decide (((b.size:Int)-1)<2)=false:=decide_eq_false (by omega)
  go_wp2
  rw[Exit.noGoto_ret]
  go_ret
  exact⟨rfl,rfl⟩
set_option maxHeartbeats 4000000 in
set_option maxRecDepth 1000000 in
theorem rune_two(L:Lays.n152 P ρ)(r:Int)(w:World)(h0:128≤r)(h1:r≤2147483647)(h2:r≠65533)(hv:Lib.validRune r=true)(x:UInt8)(hk:(Utf8.encode r).size=2)(hx:∀h:1<(Utf8.encode r).size,(Utf8.encode r)[1]'h=x)(hx128:128≤x.toNat) :
  Calls P (ρ.f 152) #[.string Zax,.int .i32 r] w fun e w'=>e=.returned (.int .i64 (-1))∧Below w.heap.size w w':=by
 have mixed:=L.mixed;have t3:=L.t3;have a3:=L.a3;have z3:=L.z3;have v3:=L.v3;have t4:=L.t4;have a4:=L.a4;have z4:=L.z4;have v4:=L.v4;have t5:=L.t5;have a5:=L.a5;have z5:=L.z5;have v5:=L.v5;have t9:=L.t9;have a9:=L.a9;have z9:=L.z9;have v9:=L.v9;have t21:=L.t21;have a21:=L.a21;have z21:=L.z21;have v21:=L.v21;have e119:∀args w,(callFunc (ρ.f 119) args).run P w=.ok (.enter (ρ.f 119) args) w:=enters_of L.f119 (by kernel_rfl) rfl;have e137:∀args w,(callFunc (ρ.f 137) args).run P w=.ok (.enter (ρ.f 137) args) w:=enters_of L.f137 (by kernel_rfl) rfl;have hcv:∀w,(convert (ρ.t 21) (ρ.t 9) (.int .i32 r)).run P w=.ok (.string (Utf8.encode r)) w:=fun w=>run_convert_int_string w _ _ _ _ (by rw[L.t21];rfl) L.t9;generalize Utf8.encode r=b at *
 go_enter L.f152,Body.n152_ntmps ρ
 go_wp2_with (first | (go_at_fn (ρ.f 119);refine(Any.utf8_ValidRune { L with } _ _).mono ?_;rintro e w' ⟨rfl,hw⟩;rw[hw,hv]) | simp only[hcv])
 go_step3
 go_wp2_with (simp only[hcv])
 go_loopg [9] 0 (fun g i wx=>i=.int .i64 1∧wx=w)
 case atStart=>exact⟨rfl,rfl⟩
 case round=>
  obtain⟨rfl,rfl⟩:=hrel;have hb:1<b.size:=by omega
  have hxx:=hx hb;have hne:((46:Int) == (x.toNat:Int))=false:=beq_eq_false_iff_ne.2 (by omega);have hsz:(b.size:Int)=2:=by omega
  have hg:Zax[1]'(by decide)=46:=rfl
  go_wp2
  go_step3
  go_wp2_with (go_at_fn (ρ.f 137);refine(Any.strings_IndexByte { L with } _ _ _).mono ?_;rintro e w' ⟨rfl,hw⟩;rw[hw])
  go_region_o
  have hne2:((46:Int) != (x.toNat:Int))=true:=by rw[bne,hne];rfl
  try rw[hne2]
  go_wp2
  go_region_with_o (go_at_fn (ρ.f 137);refine(Any.strings_IndexByte { L with } _ _ _).mono ?_;rintro e w' ⟨rfl,hw⟩;rw[hw])
  all_goals go_wp2
  all_goals rw[Exit.noGoto_ret]
  all_goals go_wp2
  all_goals rw[Exit.noGoto_ret]
  all_goals go_ret
  all_goals exact⟨rfl,⟨rfl,rfl,rfl,Nat.le_refl _,fun _ _=>rfl⟩⟩
theorem rune_wide(L:Lays.n152 P ρ)(r:Int)(w:World)(h0:128≤r)(h1:r≤2147483647) :
  Calls P (ρ.f 152) #[.string Zax,.int .i32 r] w fun e w'=>e=.returned (.int .i64 (-1))∧Below w.heap.size w w':=by
 by_cases h2:r=65533
 ·subst h2;refine(rune_error L w).mono ?_
  rintro e w' ⟨h,pos,rfl⟩
  exact⟨h,(Below.refl _ _).alloc (Nat.le_refl _) _⟩
 ·cases hv:Lib.validRune r with
  | false=>
   refine(rune_invalid L r w h0 h1 h2 hv).mono ?_
   rintro e w' ⟨h,rfl⟩
   exact⟨h,Below.refl _ _⟩
  | true=>
   have hu:Utf8.valid r=true:=by rw[Go.validRune_eq];exact hv
   obtain⟨k2,k4,kx⟩:=encode_facts r hu h0;by_cases h3:(Utf8.encode r).size=2
   ·have hk:=kx (by omega);have he:(Utf8.encode r).size-1=1:=by omega
    simp only[he]at hk;exact rune_two L r w h0 h1 h2 hv ((Utf8.encode r)[1]'(by omega)) h3 (fun _=>rfl) hk
   ·refine(rune_three L r w h0 h1 h2 hv (by omega) k4).mono ?_
    rintro e w' ⟨h,rfl⟩
    exact⟨h,Below.refl _ _⟩
theorem wide_n(n b0 b1 b2 b3:Nat)(hn:1≤n)(h:128≤b0):1≤(decodeN n b0 b1 b2 b3).2∧(decodeN n b0 b1 b2 b3).2≤4∧(decodeN n b0 b1 b2 b3).2≤n ∧
  (2≤(decodeN n b0 b1 b2 b3).2→128≤b1)∧(3≤(decodeN n b0 b1 b2 b3).2→128≤b2)∧(4≤(decodeN n b0 b1 b2 b3).2→128≤b3):=by
 unfold decodeN;rw[if_neg (by omega)]
 (repeat' split)<;>simp only<;>omega
theorem wide_bytes(s:ByteArray)(i:Nat)(hi:i<s.size)(h:128≤(s[i]'hi).toNat):1≤(Utf8.decode s i).2∧i+(Utf8.decode s i).2≤s.size ∧
  ∀(j:Nat) (b:UInt8),i≤j→j<i+(Utf8.decode s i).2→s.data.toList[j]? = some b→128≤b.toNat:=by
 have hg:∀(j:Nat) (b:UInt8),s.data.toList[j]? = some b→s.get! j=b:=by
  intro j b hb;obtain⟨hj,hb⟩:=List.getElem?_eq_some_iff.1 hb;have hj2:j<s.size:=by simpa using hj
  have:s.get! j=s[j]'hj2:=by
   simp[ByteArray.get!,getElem!_pos,hj2]
   rfl
  rw[this,←hb]
  rfl
 have h0:s.get! i=s[i]'hi:=get_at s i hi;have hw:=wide_n (s.size-i) (s.get! i).toNat (s.get! (i+1)).toNat (s.get! (i+2)).toNat (s.get! (i+3)).toNat (by omega) (by rw[h0];exact h);rw[←decode_at]at hw;obtain⟨w1,w2,w3,w4,w5,w6⟩:=hw;refine⟨w1,by omega,fun j b hij hj hb=>?_⟩;have hgb:=hg j b hb;rw[←hgb];have hc:j=i∨j=i+1∨j=i+2∨j=i+3:=by omega
 rcases hc with rfl | rfl | rfl | rfl
 ·rw[h0];exact h
 ·exact w4 (by omega)
 ·exact w5 (by omega)
 ·exact w6 (by omega)
theorem next_at(wx:World)(B:Nat)(s:ByteArray)(pos:Nat)(ty:TypeId)(hB:wx.heap[B]? = some (.stringIter s pos))(h:pos<s.size) :
  (Instr.next (.pointer (some ⟨B,0,none⟩)) true ty).run P wx=.ok (.tuple #[.bool true,.int .i64 pos,.int .i32 (Utf8.decode s pos).1]) { wx with heap:=wx.heap.setIfInBounds B (.stringIter s (pos+(Utf8.decode s pos).2)) }:=by
 simp only[Instr.next,getObj,setObj,Sem.run_bind,Sem.run,hB,Result.andThen,h,if_true];simp[goInt]
theorem next_none(wx:World)(B:Nat)(s:ByteArray)(pos:Nat)(ty:TypeId)(hB:wx.heap[B]? = some (.stringIter s pos))(h:¬ pos<s.size) :
  (Instr.next (.pointer (some ⟨B,0,none⟩)) true ty).run P wx=.ok (.tuple #[.bool false]) wx:=by
 simp[Instr.next,getObj,Sem.run,hB,h]
theorem below_iter{B:Nat}{w wx:World}(h:Below B w wx)(o:Obj):Below B w { wx with heap:=wx.heap.setIfInBounds B o }:=
 h.trans ⟨rfl,rfl,rfl,by simp,fun k hk=>by
  show (wx.heap.setIfInBounds B o)[k]? = wx.heap[k]?;rw[Array.getElem?_setIfInBounds_ne (by omega)]⟩
set_option maxHeartbeats 8000000 in
set_option maxRecDepth 1000000 in
theorem indexAny_short_any(L:Lays.n153 P ρ)(s:ByteArray)(w:World)(h8:s.size≤8) :
  Calls P (ρ.f 153) #[.string s,.string Zax] w fun e w'=>e=.returned (.int .i64 (Lib.indexAny s.data.toList [47,46]))∧Below w.heap.size w w':=by
 have h8z:decide ((8:Int)<(s.size:Int))=false:=decide_eq_false (by omega);have t3:=L.t3;have a3:=L.a3;have z3:=L.z3;have v3:=L.v3;have t4:=L.t4;have a4:=L.a4;have z4:=L.z4;have v4:=L.v4;have t5:=L.t5;have a5:=L.a5;have z5:=L.z5;have v5:=L.v5;have t9:=L.t9;have a9:=L.a9;have z9:=L.z9;have v9:=L.v9;have t21:=L.t21;have a21:=L.a21;have z21:=L.z21;have v21:=L.v21;have e152:∀args w,(callFunc (ρ.f 152) args).run P w=.ok (.enter (ρ.f 152) args) w:=enters_of L.f152 (by kernel_rfl) rfl;have e226:∀args w,(callFunc (ρ.f 226) args).run P w=.ok (.enter (ρ.f 226) args) w:=enters_of L.f226 (by kernel_rfl) rfl
 go_enter L.f153,Body.n153_ntmps ρ
 go_wp2_with (go_at_fn (ρ.f 226);refine(Any.strings_shouldUseASCIISet { L with } _ _).mono ?_;rintro e w' ⟨rfl,hw⟩;rw[hw,h8z])
 go_loopg [9,10] s.size (fun g _ _ wx=>∃i:Nat,s.size≤i+g∧i≤s.size∧wx.heap[w.heap.size]? = some (.stringIter s i)∧Below w.heap.size w wx∧Lib.NoAny s.data.toList [47,46] i)
 case atStart=>exact⟨0,by omega,by omega,World.iter_heap w s 0,(Below.refl _ _).alloc (Nat.le_refl _) _,Lib.NoAny.zero _ _⟩
 case round=>
  obtain⟨i,hig,his,hit,hbel,hno⟩:=hrel;have HN:Aside (Lib.NoAny s.data.toList [47,46] i):=hno;have HB:Aside (Below w.heap.size w wr):=hbel;have HI:Aside (wr.heap[w.heap.size]? = some (.stringIter s i)):=hit;clear hno hbel;by_cases hi:i<s.size
  ·cases gk with
   | zero=>omega
   | succ g=>
   have hlt:w.heap.size<wr.heap.size:=(Array.getElem?_eq_some_iff.1 hit).1;obtain⟨x,hx⟩:∃x:UInt8,s[i]'hi=x:=⟨_,rfl⟩;have hxl:s.data.toList[i]? = some x:=by rw[←hx];exact Lib.data_getElem? s i hi
   have hnx:=fun ty=>next_at (P:=P) wr w.heap.size s i ty hit hi;by_cases h128:x.toNat<128
   ·have hd:=decode_ascii s i hi (by rw[hx];exact h128);rw[hx]at hd;rw[hd]at hnx;simp only at hnx;have Hx:Aside (s.data.toList[i]? = some x):=hxl;clear hxl hx hit;have hcon:=Lib.contains_iff_indexByte [47,46] x;have hback:((x.toNat:Int)).toNat.toUInt8=x:=by simp
    cases hin:([47,46]:List UInt8).contains x
    ·rw[hin]at hcon;have hlt0:¬ ((0:Int)≤Lib.indexByte [47,46] x):=of_decide_eq_false hcon.symm;clear hcon
     go_wp2_with (go_at_fn (ρ.f 152);refine(Any.strings_IndexRune_ascii { L with } _ _ _ (by omega) (by omega)).mono ?_;rintro e w' ⟨rfl,hw⟩;rw[hw,hback])
     go_roundg g
     case measure=>omega
     case rel=>exact⟨i+1,by omega,by omega,by simp[hlt],below_iter HB.out _,HN.out.succ Hx.out hin⟩
    ·rw[hin]at hcon;have hge:(0:Int)≤Lib.indexByte [47,46] x:=of_decide_eq_true hcon.symm;clear hcon
     go_wp2_with (go_at_fn (ρ.f 152);refine(Any.strings_IndexRune_ascii { L with } _ _ _ (by omega) (by omega)).mono ?_;rintro e w' ⟨rfl,hw⟩;rw[hw,hback])
     go_ret
     exact⟨by rw[Lib.indexAny_hit HN.out Hx.out hin];rfl,below_iter HB.out _⟩
   ·have hwb:=wide_bytes s i hi (by rw[hx];omega);have hdh:=decode_high s i hi (by rw[hx];omega);have hdl:=decode_le s i;obtain⟨r,hr⟩:∃r,r=(Utf8.decode s i).1:=⟨_,rfl⟩;obtain⟨k,hk⟩:∃k,k=(Utf8.decode s i).2:=⟨_,rfl⟩;rw[←hr,←hk]at hnx;rw[←hk]at hwb hdh;rw[←hr]at hdh hdl;obtain⟨wb1,wb2,wb3⟩:=hwb;have HW:Aside (∀(j:Nat) (b:UInt8),i≤j→j<i+k→s.data.toList[j]? = some b→128≤b.toNat):=wb3;clear wb3 hxl hx hit hr hk;have r1:(128:Int)≤(r:Int):=by omega
    have r2:(r:Int)≤2147483647:=by omega
    go_wp2_with (go_at_fn (ρ.f 152);refine(rune_wide { L with } _ _ r1 r2).mono ?_;rintro e w' ⟨rfl,hw⟩)
    go_roundg g
    case measure=>omega
    case rel=>
     refine⟨i+k,by omega,by omega,?_,(below_iter HB.out _).trans (hw.mono (by simp;omega)),?_⟩
     ·rw[hw.block _ (by simpa using hlt)];simp[hlt]
     ·intro j b hj hb;by_cases hji:j<i
      ·exact HN.out j b hji hb
      ·have h3:=HW.out j b (by omega) hj hb;have e1:¬ b=47:=fun e=>by rw[e]at h3;exact absurd h3 (by decide)
       have e2:¬ b=46:=fun e=>by rw[e]at h3;exact absurd h3 (by decide)
       simp[e1,e2]
  ·obtain rfl:i=s.size:=by omega
   have hnx:=fun ty=>next_none (P:=P) wr w.heap.size s s.size ty hit hi;clear hit
   go_wp2
   go_ret
   exact⟨by rw[Lib.indexAny_none (by rw[←Lib.size_eq];exact HN.out)];rfl,HB.out⟩
open Go.Ab in
theorem indexAny_pcall(L:Lays.n153 P ρ)(h116:(P.info? (ρ.t 116)).map (fun i=>(i.zero,i.size))=some (some (.agg (Array.replicate 256 (.bool false))),256)):∀xs r,prim344 xs=some r→Zaq P (ρ.f 153) xs (·=r):=by
 intro xs r h;unfold prim344 at h;split at h
 ·split at h
  ·rename_i s hs;cases h;refine⟨enters_of L.f153 (by kernel_rfl) rfl,fun w S cargs hsz hC hS=>?_⟩;obtain⟨v0,v1,rfl⟩:=two_args hsz;have c0:=s_inv (hC 0 _ _ rfl rfl);have c1:=s_inv (hC 1 _ _ rfl rfl);subst c0 c1;have key:Calls P (ρ.f 153) #[.string ⟨s.toArray⟩,.string Zax] w fun e w'=>e=.returned (.int .i64 (Lib.indexAny s [47,46]))∧Below w.heap.size w w':=by
    by_cases h8:s.length≤8
    ·have:=indexAny_short_any L ⟨s.toArray⟩ w (by rw[bytes_size];exact h8)
     rwa [bytes_list]at this
    ·have:=Any.strings_IndexAny_long L (zero_of_info h116).1 (zero_of_info h116).2 ⟨s.toArray⟩ Zax w (by decide) (by rw[bytes_size];omega) (by rw[bytes_size];omega) (by decide) (all_ascii (s:=[47,46]) (by decide));rw[bytes_list]at this;refine this.mono fun e w' ⟨h1,h2⟩=>⟨h1,?_⟩;rw[h2];exact((Below.refl _ _).alloc (Nat.le_refl _) _).alloc (by simp) _
   exact key.mono fun e w' ⟨he,hb⟩=>⟨_,_,he,rfl,hb,.i _ _⟩
  ·cases h
 ·cases h
end Go.Proofs
end
section
set_option linter.unusedVariables false
namespace Go.Proofs
open Go.Shelf Go.RowKit Go.Lib Go.Ab
variable{P:Program}{ρ:Ren}
set_option maxHeartbeats 2000000 in
set_option maxRecDepth 100000 in
theorem cut_one_lite(L:Lays.n220 P ρ)(b:UInt8)(s:ByteArray)(w:World)(hs:s.size<4294967281) :
  Calls P (ρ.f 220) #[.string s,.string ⟨#[b]⟩] w fun e w'=>e=.returned (.tuple #[.string ⟨(Lib.cut s.data.toList [b]).1.toArray⟩,.string ⟨(Lib.cut s.data.toList [b]).2.1.toArray⟩,.bool (Lib.cut s.data.toList [b]).2.2])∧∃n,w'=w.drewN n:=by
 have hone:Lib.index s.data.toList [b]=Lib.indexByte s.data.toList b:=Lib.index_one _ _;rcases Lib.indexB_cases s ⟨#[b]⟩ with hix | ⟨i,hix,hroom⟩
 ·obtain⟨e1,e2,e3⟩:=Lib.cutB_miss s ⟨#[b]⟩ hix;have hib:Lib.indexByte s.data.toList b=-1:=hone.symm.trans hix
  change (⟨(Lib.cut s.data.toList [b]).1.toArray⟩:ByteArray)=s at e1
  change (⟨(Lib.cut s.data.toList [b]).2.1.toArray⟩:ByteArray)=ByteArray.empty at e2
  change (Lib.cut s.data.toList [b]).2.2=false at e3
  rw[e1,e2,e3];have t3:=L.t3;have t4:=L.t4;have t9:=L.t9;have a3:∀w,(isAgg (ρ.t 3)).run P w=.ok false w:=run_isAgg_plain L.t3 rfl;have a4:∀w,(isAgg (ρ.t 4)).run P w=.ok false w:=run_isAgg_plain L.t4 rfl;have a9:∀w,(isAgg (ρ.t 9)).run P w=.ok false w:=run_isAgg_plain L.t9 rfl;have e219:∀args w,(callFunc (ρ.f 219) args).run P w=.ok (.enter (ρ.f 219) args) w:=enters_of L.f219 (by kernel_rfl) rfl;have mixed:=L.mixed;have z3:=L.z3;have v3:=L.v3;have z4:=L.z4;have v4:=L.v4;have z9:=L.z9;have v9:=L.v9
  go_enter L.f220,Body.n220_ntmps ρ
  go_wp2_with (go_at_fn (ρ.f 219);refine(Any.stringslite_Index_one { L with } _ b _).mono ?_;rintro e w' ⟨rfl,rfl⟩;rw[hib])
  go_ret3
  exact⟨rfl,0,rfl⟩
 ·obtain⟨e1,e2,e3⟩:=Lib.cutB_hit s ⟨#[b]⟩ i hix;have hib:Lib.indexByte s.data.toList b=(i:Int):=hone.symm.trans hix;have hsz:(⟨#[b]⟩:ByteArray).size=1:=rfl;rw[hsz]at hroom e2
  change (⟨(Lib.cut s.data.toList [b]).1.toArray⟩:ByteArray)=s.extract 0 i at e1
  change (⟨(Lib.cut s.data.toList [b]).2.1.toArray⟩:ByteArray)=s.extract (i+1) s.size at e2
  change (Lib.cut s.data.toList [b]).2.2=true at e3
  rw[e1,e2,e3];have c1:(0:Int)≤↑i:=by omega
  have c2:(↑i:Int)≤↑s.size:=by omega
  have c3:(0:Int)≤↑i+1:=by omega
  have c4:(↑i+1:Int)≤↑s.size:=by omega
  have t3:=L.t3;have t4:=L.t4;have t9:=L.t9;have a3:∀w,(isAgg (ρ.t 3)).run P w=.ok false w:=run_isAgg_plain L.t3 rfl;have a4:∀w,(isAgg (ρ.t 4)).run P w=.ok false w:=run_isAgg_plain L.t4 rfl;have a9:∀w,(isAgg (ρ.t 9)).run P w=.ok false w:=run_isAgg_plain L.t9 rfl;have e219:∀args w,(callFunc (ρ.f 219) args).run P w=.ok (.enter (ρ.f 219) args) w:=enters_of L.f219 (by kernel_rfl) rfl;have mixed:=L.mixed;have z3:=L.z3;have v3:=L.v3;have z4:=L.z4;have v4:=L.v4;have z9:=L.z9;have v9:=L.v9
  go_enter L.f220,Body.n220_ntmps ρ
  go_wp2_with (go_at_fn (ρ.f 219);refine(Any.stringslite_Index_one { L with } _ b _).mono ?_;rintro e w' ⟨rfl,rfl⟩;rw[hib])
  go_region_o
  go_wp2
  go_ret3
  exact⟨rfl,1,rfl⟩
set_option maxHeartbeats 1000000 in
theorem cut_one(L:Lays.n145 P ρ)(b:UInt8)(s:ByteArray)(w:World)(hs:s.size<4294967281) :
  Calls P (ρ.f 145) #[.string s,.string ⟨#[b]⟩] w fun e w'=>e=.returned (.tuple #[.string ⟨(Lib.cut s.data.toList [b]).1.toArray⟩,.string ⟨(Lib.cut s.data.toList [b]).2.1.toArray⟩,.bool (Lib.cut s.data.toList [b]).2.2])∧∃n,w'=w.drewN n:=by
 have t4:=L.t4;have t9:=L.t9;have t59:=L.t59;have a4:∀w,(isAgg (ρ.t 4)).run P w=.ok false w:=run_isAgg_plain L.t4 rfl;have a9:∀w,(isAgg (ρ.t 9)).run P w=.ok false w:=run_isAgg_plain L.t9 rfl;have a59:∀w,(isAgg (ρ.t 59)).run P w=.ok false w:=run_isAgg_plain L.t59 rfl;have e220:∀args w,(callFunc (ρ.f 220) args).run P w=.ok (.enter (ρ.f 220) args) w:=enters_of L.f220 (by kernel_rfl) rfl;have mixed:=L.mixed;have z4:=L.z4;have v4:=L.v4;have z9:=L.z9;have v9:=L.v9;have z59:=L.z59;have v59:=L.v59
 go_enter L.f145,Body.n145_ntmps ρ
 go_wp2_with (go_at_fn (ρ.f 220);refine(cut_one_lite { L with } b _ _ hs).mono ?_;rintro e w' ⟨rfl,n,rfl⟩)
 go_ret3
 exact⟨rfl,n,rfl⟩
theorem indexByte_tw(b:UInt8):∀(l:List UInt8),(Lib.indexByte l b=-1∧l.takeWhile (· != b)=l∧l.dropWhile (· != b)=[]∧l.contains b=false) ∨
  (∃i:Nat,Lib.indexByte l b=i∧l.takeWhile (· != b)=l.take i∧(l.dropWhile (· != b)).drop 1=l.drop (i+1)∧l.contains b=true)
 | []=>.inl ⟨rfl,rfl,rfl,rfl⟩
 | c::r=>by
  by_cases hc:c=b
  ·subst hc;right;exact⟨0,by simp[Lib.indexByte],by simp,by simp,by simp⟩
  ·have hb:(c != b)=true:=by simpa using hc
   have hb2:(b == c)=false:=by
    rw[beq_eq_false_iff_ne];exact fun h=>hc h.symm
   rcases indexByte_tw b r with ⟨h1,h2,h3,h4⟩ | ⟨i,h1,h2,h3,h4⟩
   ·left;refine⟨by simp[Lib.indexByte,hc,h1],?_,?_,?_⟩
    ·rw[List.takeWhile_cons_of_pos (p:=(· != b)) hb,h2]
    ·rw[List.dropWhile_cons_of_pos (p:=(· != b)) hb,h3]
    ·rw[List.contains_cons,hb2,h4];rfl
   ·right;refine⟨i+1,?_,?_,?_,?_⟩
    ·have hne:¬ (i:Int)=-1:=by omega
     simp[Lib.indexByte,hc,h1,hne]
    ·rw[List.takeWhile_cons_of_pos (p:=(· != b)) hb,h2];rfl
    ·rw[List.dropWhile_cons_of_pos (p:=(· != b)) hb,h3];rfl
    ·rw[List.contains_cons,hb2,h4];rfl
theorem cut_lines(b:UInt8)(l:List UInt8):Lib.cut l [b]=(l.takeWhile (· != b),(l.dropWhile (· != b)).drop 1,l.contains b):=by
 unfold Lib.cut;rw[Lib.index_one];rcases indexByte_tw b l with ⟨h1,h2,h3,h4⟩ | ⟨i,h1,h2,h3,h4⟩
 ·rw[h1,if_neg (by decide),h2,h3,h4];rfl
 ·rw[h1,if_pos (by omega),h2,h3,h4];rfl
theorem cut_pcall(L:Lays.n145 P ρ):∀xs r,prim184 xs=some r→Zaq P (ρ.f 145) xs (·=r):=by
 intro xs r h;unfold prim184 at h;split at h
 ·rename_i l b;split at h
  ·rename_i hl;cases h;refine⟨enters_of L.f145 (by kernel_rfl) rfl,fun w S cargs hsz hC hS=>?_⟩;obtain⟨v0,v1,rfl⟩:=two_args hsz;have c0:=s_inv (hC 0 _ _ rfl rfl);have c1:=s_inv (hC 1 _ _ rfl rfl);subst c0 c1;have:=cut_one L b ⟨l.toArray⟩ w (by rw[bytes_size];omega);rw[bytes_list,cut_lines]at this;refine this.mono ?_
   rintro e w' ⟨rfl,n,rfl⟩
   refine⟨_,_,rfl,rfl,⟨rfl,rfl,rfl,Nat.le_refl _,fun _ _=>rfl⟩,.tup _ _ rfl fun j v c hv hc=>?_⟩
   match j,hv,hc with
   | 0,hv,hc=>cases hv;cases hc;exact .s _
   | 1,hv,hc=>cases hv;cases hc;exact .s _
   | 2,hv,hc=>cases hv;cases hc;exact .b _
  ·cases h
 ·cases h
end Go.Proofs
end
section
namespace Go.Proofs
open Go.Shelf Go.RowKit
set_option maxRecDepth 100000
def Tryz.sren:Ren:=⟨fun | 119=>212 | 137=>211 | 138=>209 | 143=>162 | 145=>57 | 152=>203 | 153=>188 | 195=>216 | 217=>176 | 218=>217 | 219=>141 | 220=>101 | 224=>178 | 225=>177 | 226=>204 | 227=>153 | 228=>185 | 266=>200 | 267=>179 | 314=>201 | n=>n,fun | 0=>0 | 3=>3 | 4=>4 | 5=>5 | 9=>9 | 21=>21 | 46=>153 | 51=>114 | 59=>104 | 116=>206 | 117=>207 | 124=>210 | 146=>192 | n=>n,fun | 1=>0 | n=>n⟩
theorem Tryz.lays153:Lays.n153 Tryz.prog Tryz.sren:={
 mixed:=by kernel_rfl,
 f119:=Tryz.func212.trans (congrArg some (by kernel_rfl)),
 f137:=Tryz.func211.trans (congrArg some (by kernel_rfl)),
 f152:=Tryz.func203.trans (congrArg some (by kernel_rfl)),
 f153:=Tryz.func188.trans (congrArg some (by kernel_rfl)),
 f217:=Tryz.func176.trans (congrArg some (by kernel_rfl)),
 f224:=Tryz.func178.trans (congrArg some (by kernel_rfl)),
 f225:=Tryz.func177.trans (congrArg some (by kernel_rfl)),
 f226:=Tryz.func204.trans (congrArg some (by kernel_rfl)),
 f227:=Tryz.func153.trans (congrArg some (by kernel_rfl)),
 f228:=Tryz.func185.trans (congrArg some (by kernel_rfl)),
 f266:=Tryz.func200.trans (congrArg some (by kernel_rfl)),
 t0:=Tryz.underlying0,
 a0:=Tryz.isAgg0,
 z0:=Tryz.sizeOf0,
 v0:=Tryz.zeroValue0,
 t3:=Tryz.underlying3,
 a3:=Tryz.isAgg3,
 z3:=Tryz.sizeOf3,
 v3:=Tryz.zeroValue3,
 t4:=Tryz.underlying4,
 a4:=Tryz.isAgg4,
 z4:=Tryz.sizeOf4,
 v4:=Tryz.zeroValue4,
 t5:=Tryz.underlying5,
 a5:=Tryz.isAgg5,
 z5:=Tryz.sizeOf5,
 v5:=Tryz.zeroValue5,
 t9:=Tryz.underlying9,
 a9:=Tryz.isAgg9,
 z9:=Tryz.sizeOf9,
 v9:=Tryz.zeroValue9,
 t21:=Tryz.underlying21,
 a21:=Tryz.isAgg21,
 z21:=Tryz.sizeOf21,
 v21:=Tryz.zeroValue21,
 t46:=Tryz.underlying153,
 a46:=Tryz.isAgg153,
 z46:=Tryz.sizeOf153,
 v46:=Tryz.zeroValue153,
 t116:=Tryz.underlying206,
 a116:=Tryz.isAgg206,
 z116:=Tryz.sizeOf206,
 t117:=Tryz.underlying207,
 a117:=Tryz.isAgg207,
 z117:=Tryz.sizeOf207,
 v117:=Tryz.zeroValue207,
 t124:=Tryz.underlying210,
 a124:=Tryz.isAgg210,
 z124:=Tryz.sizeOf210,
 v124:=Tryz.zeroValue210 }
theorem Tryz.lays219:Lays.n219 Tryz.prog Tryz.sren:={
 mixed:=by kernel_rfl,
 f217:=Tryz.func176.trans (congrArg some (by kernel_rfl)),
 f219:=Tryz.func141.trans (congrArg some (by kernel_rfl)),
 f224:=Tryz.func178.trans (congrArg some (by kernel_rfl)),
 f225:=Tryz.func177.trans (congrArg some (by kernel_rfl)),
 f266:=Tryz.func200.trans (congrArg some (by kernel_rfl)),
 f267:=Tryz.func179.trans (congrArg some (by kernel_rfl)),
 f314:=Tryz.func201.trans (congrArg some (by kernel_rfl)),
 t3:=Tryz.underlying3,
 a3:=Tryz.isAgg3,
 z3:=Tryz.sizeOf3,
 v3:=Tryz.zeroValue3,
 t4:=Tryz.underlying4,
 a4:=Tryz.isAgg4,
 z4:=Tryz.sizeOf4,
 v4:=Tryz.zeroValue4,
 t5:=Tryz.underlying5,
 a5:=Tryz.isAgg5,
 z5:=Tryz.sizeOf5,
 v5:=Tryz.zeroValue5,
 t9:=Tryz.underlying9,
 a9:=Tryz.isAgg9,
 z9:=Tryz.sizeOf9,
 v9:=Tryz.zeroValue9,
 t46:=Tryz.underlying153,
 a46:=Tryz.isAgg153,
 z46:=Tryz.sizeOf153,
 v46:=Tryz.zeroValue153,
 t51:=Tryz.underlying114,
 a51:=Tryz.isAgg114,
 z51:=Tryz.sizeOf114,
 v51:=Tryz.zeroValue114,
 t146:=Tryz.underlying192,
 a146:=Tryz.isAgg192,
 z146:=Tryz.sizeOf192,
 v146:=Tryz.zeroValue192,
 g1:=by kernel_rfl }
theorem Tryz.lays138:Lays.n138 Tryz.prog Tryz.sren:={
 mixed:=by kernel_rfl,
 f138:=Tryz.func209.trans (congrArg some (by kernel_rfl)),
 f143:=Tryz.func162.trans (congrArg some (by kernel_rfl)),
 f195:=Tryz.func216.trans (congrArg some (by kernel_rfl)),
 f217:=Tryz.func176.trans (congrArg some (by kernel_rfl)),
 f218:=Tryz.func217.trans (congrArg some (by kernel_rfl)),
 f219:=Tryz.func141.trans (congrArg some (by kernel_rfl)),
 f224:=Tryz.func178.trans (congrArg some (by kernel_rfl)),
 f225:=Tryz.func177.trans (congrArg some (by kernel_rfl)),
 f266:=Tryz.func200.trans (congrArg some (by kernel_rfl)),
 f267:=Tryz.func179.trans (congrArg some (by kernel_rfl)),
 f314:=Tryz.func201.trans (congrArg some (by kernel_rfl)),
 t0:=Tryz.underlying0,
 a0:=Tryz.isAgg0,
 z0:=Tryz.sizeOf0,
 v0:=Tryz.zeroValue0,
 t3:=Tryz.underlying3,
 a3:=Tryz.isAgg3,
 z3:=Tryz.sizeOf3,
 v3:=Tryz.zeroValue3,
 t4:=Tryz.underlying4,
 a4:=Tryz.isAgg4,
 z4:=Tryz.sizeOf4,
 v4:=Tryz.zeroValue4,
 t5:=Tryz.underlying5,
 a5:=Tryz.isAgg5,
 z5:=Tryz.sizeOf5,
 v5:=Tryz.zeroValue5,
 t9:=Tryz.underlying9,
 a9:=Tryz.isAgg9,
 z9:=Tryz.sizeOf9,
 v9:=Tryz.zeroValue9,
 t46:=Tryz.underlying153,
 a46:=Tryz.isAgg153,
 z46:=Tryz.sizeOf153,
 v46:=Tryz.zeroValue153,
 t51:=Tryz.underlying114,
 a51:=Tryz.isAgg114,
 z51:=Tryz.sizeOf114,
 v51:=Tryz.zeroValue114,
 t146:=Tryz.underlying192,
 a146:=Tryz.isAgg192,
 z146:=Tryz.sizeOf192,
 v146:=Tryz.zeroValue192,
 g1:=by kernel_rfl }
theorem Tryz.lays145:Lays.n145 Tryz.prog Tryz.sren:={
 mixed:=by kernel_rfl,
 f145:=Tryz.func57.trans (congrArg some (by kernel_rfl)),
 f217:=Tryz.func176.trans (congrArg some (by kernel_rfl)),
 f219:=Tryz.func141.trans (congrArg some (by kernel_rfl)),
 f220:=Tryz.func101.trans (congrArg some (by kernel_rfl)),
 f224:=Tryz.func178.trans (congrArg some (by kernel_rfl)),
 f225:=Tryz.func177.trans (congrArg some (by kernel_rfl)),
 f266:=Tryz.func200.trans (congrArg some (by kernel_rfl)),
 f267:=Tryz.func179.trans (congrArg some (by kernel_rfl)),
 f314:=Tryz.func201.trans (congrArg some (by kernel_rfl)),
 t3:=Tryz.underlying3,
 a3:=Tryz.isAgg3,
 z3:=Tryz.sizeOf3,
 v3:=Tryz.zeroValue3,
 t4:=Tryz.underlying4,
 a4:=Tryz.isAgg4,
 z4:=Tryz.sizeOf4,
 v4:=Tryz.zeroValue4,
 t5:=Tryz.underlying5,
 a5:=Tryz.isAgg5,
 z5:=Tryz.sizeOf5,
 v5:=Tryz.zeroValue5,
 t9:=Tryz.underlying9,
 a9:=Tryz.isAgg9,
 z9:=Tryz.sizeOf9,
 v9:=Tryz.zeroValue9,
 t46:=Tryz.underlying153,
 a46:=Tryz.isAgg153,
 z46:=Tryz.sizeOf153,
 v46:=Tryz.zeroValue153,
 t51:=Tryz.underlying114,
 a51:=Tryz.isAgg114,
 z51:=Tryz.sizeOf114,
 v51:=Tryz.zeroValue114,
 t59:=Tryz.underlying104,
 a59:=Tryz.isAgg104,
 z59:=Tryz.sizeOf104,
 v59:=Tryz.zeroValue104,
 t146:=Tryz.underlying192,
 a146:=Tryz.isAgg192,
 z146:=Tryz.sizeOf192,
 v146:=Tryz.zeroValue192,
 g1:=by kernel_rfl }
end Go.Proofs
namespace Go.Proofs.YtoppjelfghopnaaGreatDoor
open Go.Ab
theorem str344_ok:∀xs r,prim344 xs=some r→Zaq Tryz.prog (nu 344) xs (·=r):=by
 have e:nu 344=Tryz.sren.f 153:=by kernel_rfl
 rw[e];exact indexAny_pcall Tryz.lays153 (by kernel_rfl)
theorem str194_ok:∀xs r,prim194 xs=some r→Zaq Tryz.prog (nu 194) xs (·=r):=by
 have e:nu 194=Tryz.sren.f 219:=by kernel_rfl
 rw[e];exact index_pcall Tryz.lays219
theorem str361_ok:∀xs r,prim361 xs=some r→Zaq Tryz.prog (nu 361) xs (·=r):=by
 have e:nu 361=Tryz.sren.f 138:=by kernel_rfl
 rw[e];exact count_pcall Tryz.lays138
theorem str184_ok:∀xs r,prim184 xs=some r→Zaq Tryz.prog (nu 184) xs (·=r):=by
 have e:nu 184=Tryz.sren.f 145:=by kernel_rfl
 rw[e];exact cut_pcall Tryz.lays145
end Go.Proofs.YtoppjelfghopnaaGreatDoor
end
section
namespace Go.Ab
open Go.ChangeShapes Go.WideShapes Go.ChangeAt Go.RowKit
theorem zj0{H:Type}{enc:TypeId×Value→H}{P:Program}{f:Func}{s:ChangeSpec}{apart fresh handsOn again:Bool}{W W':World}{args:Array Value}{v:Value}{ds gs:List (DataW H)}{before pa pv:List MemPlace}
  (hW:DataW.Whole enc P f.params.toList s.vars apart W args.toList ds gs before)
  (hres:∀(b:Nat) (sp:Nat→Bool) (hd:Bool),DataW.TrodAll enc P W' b sp hd f.resultTypes.toList (v.resultList f.resultTypes.size) (s.fn H (ds++gs)).results [])
  (hargs:∀sp:Nat→Bool,(∀p∈before,sp p.block=true)→DataW.TrodAll enc P W' 0 sp true f.params.toList args.toList (s.fn H (ds++gs)).args pa)
  (hvars:∀sp:Nat→Bool,(∀p∈before,sp p.block=true)→DataW.TrodVars enc P W' sp s.vars (s.fn H (ds++gs)).vars pv)
  (hps:before=pa++pv) (hw:Below W.heap.size W W')
  (hok:∀(j:Nat) (t:TypeId) (r:Value),f.resultTypes[j]? = some t→(v.resultList f.resultTypes.size)[j]? = some r→Value.okWide P W' .any 0 t r) :
  s.post enc P f apart fresh handsOn again W args v W':=by
 have hold:∀p∈before,(fun b=>decide (b<W.heap.size)) p.block=true:=fun p hp=>by simpa using hW.lt p hp
 have hlt:∀p∈before,p.block<W.heap.size:=fun p hp=>hW.lt p hp;refine⟨ds,gs,before,[],pa,pv,hW,hres _ _ _,hargs _ hold,hvars _ hold,World.keptBut_mono (fun p hp=>⟨hp,?_⟩) (hw.frame (·∈before)),fun _=>?_⟩
 ·rw[hps,Yax]at hp;exact Or.inr hp
 ·obtain⟨_,_,_,_,_,hz,hn⟩:=hW;refine⟨hok,_,_,([]++pa)++pv,⟨[]++pa,pv,trodAll_append (hargs _ (fun _ _=>rfl)) (hres _ _ _),hvars _ (fun _ _=>rfl),rfl,?_,?_⟩,?_⟩
  ·intro b off hp;have hp':MemPlace.cell b off∈before:=by rw[hps];simpa using hp
   rw[hw.frozen (p:=⟨b,off,none⟩) (hlt _ hp')];exact hz b off hp'
  ·intro ha;have:=hn ha;rw[hps]at this;simpa using this
  ·intro p hp _;rw[hps];simpa using hp
end Go.Ab
end
section
namespace Go.Ab
open Go.ChangeShapes Go.WideShapes Go.ChangeAt Go.RowKit
inductive Ty where
 | int (k:IntKind)
 | bool
 | str
 | sl (r:Ty)
 | nil
 | cons (a:Ty) (r:Ty)
def Ty.z:Ty→Nat
 | .nil=>0
 | .cons a r=>a.z+r.z
 | _=>1
def Ok:Ty→List AV→Prop
 | .int k,cs=>∃n,cs=[.i k n]∧(Lit.int k n).wf=true
 | .bool,cs=>∃b,cs=[.b b]
 | .str,cs=>∃l,cs=[.s l]∧l.length≤maxLen
 | .sl r,cs=>∃els f,cs=[.sl els f]∧els.length≤maxLen∧(f=.nl∧els=[]∨f=.so)∧∀row∈els,Ok r row
 | .nil,cs=>cs=[]
 | .cons a r,cs=>∃c1 c2,cs=c1++c2∧Ok a c1∧Ok r c2
theorem Ok.len:∀{ty:Ty} {cs:List AV},Ok ty cs→cs.length=ty.z
 | .int _,_,⟨_,h,_⟩=>by rw[h];rfl
 | .bool,_,⟨_,h⟩=>by rw[h];rfl
 | .str,_,⟨_,h,_⟩=>by rw[h];rfl
 | .sl _,_,⟨_,_,h,_⟩=>by rw[h];rfl
 | .nil,_,h=>by rw[show _=[] from h];rfl
 | .cons _ _,_,⟨_,_,h,h1,h2⟩=>by rw[h,Yu,h1.len,h2.len];rfl
def Zdo(w:World)(S:Nat→Nat→Prop)(cs:List Value)(xs:List AV):Prop:=
 xs.length=cs.length∧∀(j:Nat) (v:Value) (c:AV),cs[j]? = some v→xs[j]? = some c→CP w S v c∧v.oneCell'=true
section
variable{H:Type}{enc:TypeId×Value→H}{P:Program}{w:World}{base:Nat}{held:Bool}{S:Nat→Nat→Prop}
theorem Zdo.nil:Zdo w S [] []:=⟨rfl,fun j v c h=>by grind⟩
theorem Zdo.one{v:Value}{c:AV}(h:CP w S v c)(h1:v.oneCell'=true):Zdo w S [v] [c]:=by
 refine⟨rfl,fun j v' c' hv hc=>?_⟩
 grind
theorem Zdo.append{cs cs':List Value}{xs xs':List AV}(h:Zdo w S cs xs)(h':Zdo w S cs' xs'):Zdo w S (cs++cs') (xs++xs'):=by
 refine⟨by rw[Yu,Yu,h.1,h'.1],fun j v c hv hc=>?_⟩;by_cases hj:j<cs.length
 ·rw[Yr hj]at hv;rw[Yr (by rw[h.1];omega)]at hc;exact h.2 j v c hv hc
 ·rw[Yn (by omega)]at hv;rw[Yn (by rw[h.1];omega),h.1]at hc;exact h'.2 _ v c hv hc
def Zfo(P:Program)(g:TypeId→Option Ty)(tot:Nat):Nat→List Field→Option Ty
 | off,[]=>if off=tot then some .nil else none
 | off,f::fs=>(g f.type).bind fun a=>if f.offset=off∧a.z=P.cellsOf f.type then (Zfo P g tot (off+a.z) fs).map (.cons a) else none
def Zjr:Nat→Ty→Ty
 | 0,_=>.nil
 | n+1,a=>.cons a (Zjr n a)
def Zgb(P:Program):Nat→TypeId→Option Ty
 | 0,_=>none
 | n+1,t=>
  match P.underlying t with
  | some .bool=>some .bool
  | some (.int k)=>some (.int k)
  | some .string=>some .str
  | some (.slice e)=>(Zgb P n e).bind fun r=>if r.z=P.cellsOf e∧0<r.z then some (.sl r) else none
  | some (.struct fs)=>Zfo P (Zgb P n) (P.cellsOf t) 0 fs.toList
  | some (.array k e)=>(Zgb P n e).bind fun a=>if a.z=P.cellsOf e∧k*a.z=P.cellsOf t then some (Zjr k a) else none
  | _=>none
theorem zs1{α:Type}{Q:Nat→α→Prop}:∀(n:Nat),(∀i,i<n→∃x,Q i x)→∃l:List α,l.length=n∧∀i x,l[i]? = some x→Q i x
 | 0,_=>⟨[],rfl,fun i x h=>by grind⟩
 | n+1,h=>by
  obtain⟨l,hl,hq⟩:=zs1 n fun i hi=>h i (by omega);obtain⟨x,hx⟩:=h n (by omega);refine⟨l++[x],by grind,fun i y hy=>?_⟩
  grind
def Zff(S:Nat→Nat→Prop)(ps:List MemPlace):Prop:=∀k o,MemPlace.cell k o∈ps→S k o
theorem zg7{n:Nat}{g:TypeId→Option Ty}{cs:List Value}
  (ih:∀t cs x ty,DataW.trod enc P w base (fun _=>true) held n t cs=some x→g t=some ty→Zff S x.2→∃xs,Ok ty xs∧Zdo w S cs xs) :
  ∀(fs:List Field) (off:Nat) (ty:Ty) (ys:List (DataW H×List MemPlace)),
   ys.length=fs.length→(∀(i:Nat) (f:Field),fs[i]? = some f→DataW.trod enc P w base (fun _=>true) held n f.type ((cs.drop f.offset).take (P.cellsOf f.type))=ys[i]?) →
   Zfo P g cs.length off fs=some ty→Zff S (ys.flatMap (·.2))→∃xs,Ok ty xs∧Zdo w S (cs.drop off) xs
 | [],off,ty,ys,hl,hm,ht,hp=>by
  simp only[Zfo]at ht;split at ht<;>cases ht;rename_i ho;exact⟨[],rfl,by rw[ho,Yac];exact Zdo.nil⟩
 | f::fs,off,ty,[],hl,hm,ht,hp=>by grind
 | f::fs,off,ty,y::ys1,hl,hm,ht,hp=>by
  obtain⟨a,ha,ht1⟩:=bind_some ht;split at ht1
  ·rename_i hc;obtain⟨ho,hz⟩:=hc;obtain⟨r,hr,rfl⟩:=map_some ht1;have hy:=hm 0 f rfl;rw[ho,←hz]at hy;obtain⟨xs1,ho1,hr1⟩:=ih _ _ _ _ hy ha fun k o h=>hp k o (by grind);obtain⟨xs2,ho2,hr2⟩:=zg7 ih fs _ r ys1 (by grind) (fun i f' hf=>by simpa using hm (i+1) f' (by grind)) hr fun k o h=>hp k o (by
    grind)
   refine⟨xs1++xs2,⟨xs1,xs2,rfl,ho1,ho2⟩,?_⟩;have e:cs.drop off=(cs.drop off).take a.z++cs.drop (off+a.z):=by rw[←Yct,Yaq]
   rw[e];exact hr1.append hr2
  grind
theorem zi4{n:Nat}{e:TypeId}{r:Ty}(ih:∀cs x,DataW.trod enc P w base (fun _=>true) held n e cs=some x→Zff S x.2→∃xs,Ok r xs∧Zdo w S cs xs) :
  ∀(k:Nat) (cs:List Value) (ys:List (DataW H×List MemPlace)),ys.length=k→cs.length=k*r.z →
   (∀(i:Nat),i<k→DataW.trod enc P w base (fun _=>true) held n e ((cs.drop (i*r.z)).take r.z)=ys[i]?)→Zff S (ys.flatMap (·.2))→∃xs,Ok (Zjr k r) xs∧Zdo w S cs xs
 | 0,cs,ys,hl,hc,hm,hp=>by
  rw[Yc6,Yb1]at hc;subst hc;exact⟨[],rfl,Zdo.nil⟩
 | k+1,cs,[],hl,hc,hm,hp=>by grind
 | k+1,cs,y::ys,hl,hc,hm,hp=>by
  have hy:=hm 0 (by omega);rw[Yc6,Yaa]at hy;obtain⟨xs1,ho1,hr1⟩:=ih _ _ hy fun k o h=>hp k o (by grind);obtain⟨xs2,ho2,hr2⟩:=zi4 ih k (cs.drop r.z) ys (by grind) (by grind) (fun i hi=>by
   grind[List.drop_drop]) fun k o h=>hp k o (by
    grind)
  refine⟨xs1++xs2,⟨xs1,xs2,rfl,ho1,ho2⟩,?_⟩;have e:cs=cs.take r.z++cs.drop r.z:=(Yaq ..).symm;rw[e];exact hr1.append hr2
theorem zo4{a:Addr}{m z:Nat}{cs:List Value}(h:w.cells? base (a.add m) z=some cs)(j:Nat)(hj:j<z):w.cell? ((a.add m).add j)=cs[j]? := (World.cells?_some h).2.2 j hj
theorem zs2{a:Addr}{v:Value}(h:w.cell? a=some v):a.spot=none:=by
 unfold World.cell? at h;split at h
 all_goals simp_all
theorem zfb:∀(n m:Nat) (t:TypeId) (cs:List Value) (x:DataW H×List MemPlace) (ty:Ty),
  DataW.trod enc P w base (fun _=>true) held n t cs=some x→Zgb P m t=some ty→Zff S x.2→∃xs,Ok ty xs∧Zdo w S cs xs
 | 0,_,_,_,_,_,h,_,_=>by simp[DataW.trod]at h
 | n+1,0,_,_,_,_,_,ht,_=>by simp[Zgb]at ht
 | n+1,m+1,t,cs,x,ty,h,ht,hp=>by
  simp only[Zgb]at ht;split at ht
  ·rename_i hu;cases ht;obtain⟨b,rfl,rfl⟩:=DataW.trod_bool hu h;exact⟨[.b b],⟨b,rfl⟩,Zdo.one (.b b) rfl⟩
  ·rename_i k hu;cases ht;obtain⟨z,rfl,rfl,hw⟩:=DataW.trod_int hu h;exact⟨[.i k z],⟨z,rfl,hw⟩,Zdo.one (.i k z) rfl⟩
  ·rename_i hu;cases ht;obtain⟨s,rfl,rfl,hs⟩:=DataW.trod_string hu h;exact⟨[.s s.data.toList],⟨_,rfl,by simp_all⟩,Zdo.one (.s s.data.toList) rfl⟩
  ·rename_i e hu;obtain⟨r,hr,ht1⟩:=bind_some ht;split at ht1
   ·rename_i hz;cases ht1;obtain⟨hz,hzp⟩:=hz;rcases DataW.trod_slice hu h with ⟨rfl,rfl⟩ | ⟨a,len,cap,elems,rest,n',hn',rfl,rfl,hb,hl,hmx,hlen,hel,hsp,hns⟩
    ·exact⟨[.sl [] .nl],⟨[],.nl,rfl,Yl _,.inl ⟨rfl,rfl⟩,fun row h=>by grind⟩,Zdo.one (.slnil _ (.inl rfl)) rfl⟩
    ·obtain⟨hrl,hrest⟩:=hsp rfl;have hall:∀i,i<cap→∃y cs',y∈elems++rest∧w.cells? base (a.add (i*P.cellsOf e)) (P.cellsOf e)=some cs'∧DataW.trod enc P w base (fun _=>true) held n e cs'=some y:=by
      intro i hi;by_cases hil:i<len
      ·have h1:=hel i hil;rw[Ya (by omega)]at h1;obtain⟨cs',h2,h3⟩:=bind_some h1
       grind
      ·have h1:=hrest (i-len) (by omega);rw[Ya (by omega),show len+(i-len)=i by omega]at h1;obtain⟨cs',h2,h3⟩:=bind_some h1
       grind
     by_cases hcap:cap=0
     ·have hl0:len=0:=by omega
      subst hcap;subst hl0;exact⟨[.sl [] .so],⟨[],.so,rfl,Yl _,.inr rfl,fun row h=>by grind⟩,Zdo.one (.slz a _ (.inl rfl)) rfl⟩
     ·have hspot:a.spot=none:=by
       obtain⟨y,cs',_,h2,_⟩:=hall 0 (by omega);have h3:=zo4 h2 0 (by omega)
       grind[World.cells?_some,zs2,Addr.add]
      obtain⟨blk,off,sp⟩:=a;have hrows:∀i,i<len→∃xs,Ok r xs∧∃cs',w.cells? base ((⟨blk,off,none⟩:Addr).add (i*P.cellsOf e)) (P.cellsOf e)=some cs'∧Zdo w S cs' xs:=by
       intro i hi;obtain⟨y,cs',hy,h2,h3⟩:=hall i (by omega);obtain⟨xs,ho,hrc⟩:=zfb n m e cs' y r h3 hr fun k o hk=>hp k o (by
        grind)
       grind
      obtain⟨els,hels,hq⟩:=zs1 len hrows;refine⟨[.sl els .so],⟨els,.so,rfl,by omega,.inr rfl,fun row hrow=>?_⟩,Zdo.one ?_ rfl⟩
      ·grind[List.getElem?_of_mem]
      ·have hcell:∀i j,i<els.length→j<r.z→∃v,w.cell? ⟨blk,off+i*r.z+j,none⟩=some v∧v.oneCell'=true∧∀row c,els[i]? = some row→row[j]? = some c→CP w S v c:=by
        intro i j hi hj;obtain⟨ho,cs',h2,hrc⟩:=hq i _ (Ya hi);have h3:=zo4 h2 j (by omega);have h4:=(World.cells?_some h2).2.1;rw[zbj,zbj,←hz,Ya (by omega)]at h3;have hlr:=ho.len;have h5:=hrc.2 j _ _ (Ya (by omega)) (Ya (by omega))
        grind
       have hS:∀i j,i<els.length→j<r.z→S blk (off+i*r.z+j):=by
        intro i j hi hj;refine hp _ _ ?_;rw[Yax];left;unfold MemPlace.row;rw[Yat];refine⟨i*r.z+j,?_,by rw[Yao]⟩;have h1:(i+1)*r.z≤(elems.length+rest.length)*r.z:=Y5 _ (by omega)
        grind
       have:=CP.sl (w:=w) (S:=S) blk off r.z cap els .so (fun i j=>(w.cell? ⟨blk,off+i*r.z+j,none⟩).getD undef) (by simp) (by simp) (by omega) hmx
        (fun i row hrow=>(hq i row hrow).1.len) (fun i j hi hj=>?_) (fun i row j c hrow hc=>?_)
       ·grind
       ·grind
       ·have hi:=(Yc.1 hrow).1;have hj:=(Yc.1 hc).1;rw[(hq i row hrow).1.len]at hj
        grind
   grind
  ·rename_i fs hu;obtain⟨xs,n',hn',rfl,hcl,hxl,hx⟩:=DataW.trod_struct hu h;cases hn';rw[←hcl]at ht;have:=zg7 (S:=S) (g:=Zgb P m) (cs:=cs) (n:=n) (fun t cs x ty h1 h2 h3=>zfb n m t cs x ty h1 h2 h3) fs.toList 0 ty xs (by omega) (fun i f hf=>hx i f (by grind)) ht hp
   grind
  ·rename_i k e hu;obtain⟨r,hr,ht1⟩:=bind_some ht;split at ht1
   ·rename_i hz;cases ht1;obtain⟨hz,hzt⟩:=hz;obtain⟨xs,n',hn',rfl,hcl,hxl,hx⟩:=DataW.trod_array hu h;cases hn';rw[←hz]at hx;exact zi4 (S:=S) (n:=n) (e:=e) (r:=r) (fun cs x h1 h3=>zfb n m e cs x r h1 hr h3) k cs xs hxl (by omega) hx hp
   grind
  grind
end
end Go.Ab
end
section
namespace Go.Ab
open Go.ChangeShapes Go.WideShapes Go.ChangeAt Go.RowKit
def isAgg(P:Program)(t:TypeId):Bool:=match P.underlying t with | some (.struct _)=>true | some (.array _ _)=>true | _=>false
def Zjs(P:Program)(m:Nat):List TypeId→Option (List (Bool×Ty))
 | []=>some []
 | t::ts=>(Zgb P m t).bind fun a=>(Zjs P m ts).map fun r=>(isAgg P t,a)::r
def Ziz:Bool×Ty→AV→Prop
 | (true,ty),x=>∃cs,x=.agg cs∧Ok ty cs
 | (false,ty),x=>Ok ty [x]
def Zhu:List (Bool×Ty)→List AV→Prop
 | [],xs=>xs=[]
 | a::r,xs=>∃x ys,xs=x::ys∧Ziz a x∧Zhu r ys
section
variable{H:Type}{enc:TypeId×Value→H}{P:Program}{w:World}{S:Nat→Nat→Prop}
theorem zxa{m:Nat}{t:TypeId}{v:Value}{d:DataW H}{p:List MemPlace}{ty:Ty}{base:Nat}(hA:DataW.Trod enc P w 0 (fun _=>true) true t v d p)(hT:Zgb P m t=some ty)
  (hval:Value.okWide P w .any base t v) (hp:Zff S p):∃x,Ziz (isAgg P t,ty) x∧CP w S v x:=by
 obtain⟨fuel,hf⟩:=hA;obtain⟨xs,ho,hrc⟩:=zfb (S:=S) fuel m t _ _ ty hf hT hp;have hlen:=ho.len;cases hu:P.underlying t with
 | none=>cases m<;>simp[Zgb,hu]at hT
 | some desc=>
  have one:∀(hag:isAgg P t=false) (hz:ty.z=1) (hv:v.cells=#[v]),∃x,Ziz (isAgg P t,ty) x∧CP w S v x:=by
   intro hag hz hv;rw[hag]
   match xs,hlen with
   | [x],_=>
    refine⟨x,ho,?_⟩;have:=hrc.2 0 v x (by grind) rfl
    grind
   | [],h=>grind
   | _::_::_,h=>grind
  cases m with
  | zero=>simp[Zgb]at hT
  | succ m=>
  cases desc<;>simp only[Zgb,hu]at hT<;>try (cases hT;done)
  case struct fs=>
   have hag:isAgg P t=true:=by simp[isAgg,hu]
   rw[hag];unfold Value.okWide at hval;rw[hu]at hval;obtain⟨cs,rfl,hcs,_⟩:=hval;refine⟨.agg xs,⟨xs,rfl,ho⟩,.agg cs xs ?_ ?_ ?_⟩
   ·have:=hrc.1;simpa[Value.cells]using this.symm
   ·intro j u hu;have hl:=hrc.1;have hj:j<cs.size:=(Yc1.1 hu).1;have hj':j<xs.length:=by rw[hl];simpa[Value.cells]using hj
    exact(hrc.2 j u _ (by simpa[Value.cells]using hu) (Ya hj')).2
   ·intro j u c hu hc;exact(hrc.2 j u c (by simpa[Value.cells]using hu) hc).1
  case array k e=>
   have hag:isAgg P t=true:=by simp[isAgg,hu]
   rw[hag];unfold Value.okWide at hval;rw[hu]at hval;obtain⟨cs,rfl,hcs,_⟩:=hval;refine⟨.agg xs,⟨xs,rfl,ho⟩,.agg cs xs ?_ ?_ ?_⟩
   ·have:=hrc.1;simpa[Value.cells]using this.symm
   ·intro j u hu;have hl:=hrc.1;have hj:j<cs.size:=(Yc1.1 hu).1;have hj':j<xs.length:=by rw[hl];simpa[Value.cells]using hj
    exact(hrc.2 j u _ (by simpa[Value.cells]using hu) (Ya hj')).2
   ·intro j u c hu hc;exact(hrc.2 j u c (by simpa[Value.cells]using hu) hc).1
  case bool=>
   cases hT;unfold Value.okWide Cell.okWide Cell.ok at hval;refine one (by simp[isAgg,hu]) rfl ?_;cases v<;>first | rfl | grind
  case int k=>
   cases hT;unfold Value.okWide Cell.okWide Cell.ok at hval;rw[hu]at hval;refine one (by simp[isAgg,hu]) rfl ?_;cases v<;>first | rfl | grind
  case string=>
   cases hT;unfold Value.okWide Cell.okWide Cell.ok at hval;rw[hu]at hval;refine one (by simp[isAgg,hu]) rfl ?_;cases v<;>first | rfl | grind
  case slice e=>
   obtain⟨r,hr,ht1⟩:=bind_some hT;split at ht1<;>cases ht1;unfold Value.okWide Cell.okWide Cell.ok at hval;rw[hu]at hval;refine one (by simp[isAgg,hu]) rfl ?_;cases v<;>first | rfl | grind
theorem zlf{m base:Nat}:∀(ts:List TypeId) (vs:List Value) (ds:List (DataW H)) (p:List MemPlace) (tys:List (Bool×Ty)),DataW.TrodAll enc P w 0 (fun _=>true) true ts vs ds p→Zjs P m ts=some tys →
  (∀(j:Nat) t v,ts[j]? = some t→vs[j]? = some v→Value.okWide P w .any base t v)→Zff S p →
  ∃xs,Zhu tys xs∧vs.length=xs.length∧∀(j:Nat) (v:Value) (c:AV),vs[j]? = some v→xs[j]? = some c→CP w S v c
 | [],vs,ds,p,tys,hA,hT,hval,hp=>by
  obtain⟨rfl,_,_⟩:=trodAll_nil hA;cases hT;exact⟨[],rfl,rfl,fun j v c h=>by grind⟩
 | t::ts,vs,ds,p,tys,hA,hT,hval,hp=>by
  obtain⟨v,vs1,d,ds1,a,b,rfl,rfl,rfl,h1,h2⟩:=trodAll_cons hA;obtain⟨ty,hty,hT1⟩:=bind_some hT;obtain⟨r,hr,rfl⟩:=map_some hT1;obtain⟨x,hx,hC⟩:=zxa (S:=S) h1 hty (hval 0 t v rfl rfl) fun k o h=>hp k o (Yaw _ h);obtain⟨xs,ho,hl,hc⟩:=zlf (m:=m) (base:=base) ts vs1 ds1 b r h2 hr (fun j t v ht hv=>hval (j+1) t v (by grind) (by grind)) fun k o h=>hp k o (Yap _ h);refine⟨x::xs,⟨x,xs,rfl,hx,ho⟩,by grind,fun j u c hu hcc=>?_⟩
  grind
theorem zo5(hl:laidOutB P=true){W W':World}(hb:Below W.heap.size W W'){sp:Nat→Bool}:∀(ts:List TypeId) (vs:List Value) (ds:List (DataW H)) (p:List MemPlace),
  (ts.all fun t=>P.readableRec t&&decide (t<P.types.size))=true→DataW.TrodAll enc P W 0 (fun _=>true) true ts vs ds p→(∀x∈p,x.block<W.heap.size)→(∀x∈p,sp x.block=true)→DataW.TrodAll enc P W' 0 sp true ts vs ds p
 | [],_,_,_,_,hA,_,_=>by
  obtain⟨rfl,rfl,rfl⟩:=trodAll_nil hA;exact rfl
 | t::ts,vs,ds,p,hr,hA,hlt,hsp=>by
  obtain⟨v,vs1,d,ds1,a,b,rfl,rfl,rfl,h1,h2⟩:=trodAll_cons hA;rw[Ybz,Yo,Yo,decide_eq_true_eq]at hr;exact⟨a,b,WideElems.Trod_stays hl hr.1.1 hr.1.2 h1 (fun x hx=>hb.same (hlt x (Yaw _ hx))) (fun x hx=>hsp x (Yaw _ hx)),
   zo5 hl hb ts vs1 ds1 b hr.2 h2 (fun x hx=>hlt x (Yap _ hx)) (fun x hx=>hsp x (Yap _ hx)),rfl⟩
theorem zs3:∀(ts:List TypeId) (vs:List Value) (ds:List (DataW H)) (p:List MemPlace),DataW.TrodAll enc P w 0 (fun _=>true) true ts vs ds p→ds.length=ts.length
 | [],_,_,_,hA=>by
  obtain⟨rfl,rfl,rfl⟩:=trodAll_nil hA
  rfl
 | t::ts,vs,ds,p,hA=>by
  obtain⟨v,vs1,d,ds1,a,b,rfl,rfl,rfl,h1,h2⟩:=trodAll_cons hA;simp[zs3 ts vs1 ds1 b h2]
theorem zxb{f:FuncId}{fn:Func}{s:ChangeSpec}{m tb:Nat}{tys:List (Bool×Ty)}{fresh handsOn again:Bool}(hvars:s.vars=[])(hT:Zjs P m fn.params.toList=some tys)(hl:laidOutB P=true)
  (hread:(fn.params.toList.all fun t=>P.readableRec t&&decide (t<P.types.size))=true) (hr:fn.resultTypes=#[tb]) (hb:P.underlying tb=some .bool)
  (hfn:∀ds:List (DataW H),ds.length=fn.params.toList.length→s.fn H ds={ results:=[.lit (.bool true)],args:=ds })
  (hcall:∀xs,Zhu tys xs→Zaq P f xs (·=.b true)) {W:World} {args:Array Value} {ds gs:List (DataW H)} {before:List MemPlace} {base:Nat}
  (hval:∀(j:Nat) t v,fn.params[j]? = some t→args[j]? = some v→Value.okWide P W .any base t v) (hW:DataW.Whole enc P fn.params.toList s.vars false W args.toList ds gs before) :
  Calls P f args W fun e W'=>∃v,e=.returned v∧s.post enc P fn false fresh handsOn again W args v W':=by
 have hW':=hW;obtain⟨p,q,hA,hV,rfl,hfz,hnd⟩:=hW;rw[hvars]at hV;obtain⟨rfl,rfl⟩:=trodVars_none hV;have hlt:∀x∈p,x.block<W.heap.size:=fun x hx=>hW'.lt x (Yaw _ hx);obtain⟨xs,ho,hlen,hC⟩:=zlf (S:=fun k o=>MemPlace.cell k o∈p) _ _ _ _ _ hA hT (fun j t v ht hv=>hval j t v (by grind) (by grind)) (fun k o h=>h);have hc:=(hcall xs ho).2 W (fun k o=>MemPlace.cell k o∈p) args (by omega) (fun j v c hv hc=>hC j v c (by grind) hc) (fun k o h=>hlt _ h);refine hc.mono fun e W' ⟨v,r,he,hrr,hbel,hCr⟩=>?_;subst he hrr;have hv:v=.bool true:=by cases hCr;rfl
 subst hv;have hlf:=hfn ds (zs3 _ _ _ _ hA);refine⟨_,rfl,zj0 (pa:=p) (pv:=[]) hW' (fun b sp hd=>?_) (fun sp hsp=>?_) (fun sp _=>?_) rfl hbel (ok_one hr rfl (okWide_bool_mk hb _))⟩
 ·rw[Ybc,hlf,hr];exact trodAll_mk1 (shut_bool hb _)
 ·grind[zo5]
 ·rw[Ybc,hlf,hvars];exact rfl
end
end Go.Ab
end
section
namespace Go.Ab
theorem zxo{P:Program}{ν:Nat→FuncId}{T:Tbl}(hT:TOk P ν T)(hm:P.follows .mixedOrders=true){u:Nat}{af:AFx}{xs ys:List AV}{r:AV}(hu:T u=some af)(hl:af.lent=none)(h:Zb T u ys=some r)(hx:xs.map wkA=ys):Zaq P (ν u) xs (·=r):=by
 subst hx;have h1:=zn1 hT hm hu hl h;exact Zaq.wk (ex:=false) h1
end Go.Ab
end
section
namespace Go.Ab
abbrev Fz:=Bool×List UInt32×List UInt32
abbrev Zd7(x:Fz):List AV:=[.b x.1,.sl (Za x.2.1) .an,.sl (Za x.2.2) .an]
abbrev efz(x:Fz):AV:=.agg (Zd7 x)
def fv(x:Fz):Rat:=mkRat (wv x.1 x.2.1) (val x.2.2)
def fz(q:Rat):Fz:=(decide (q.num<0),ofN q.num.natAbs,ofN q.den)
@[simp] theorem zit(q:Rat):fv (fz q)=q:=by
 unfold fv fz;rw[zie,zae,Rat.mkRat_self]
def fsz(x:Fz):Nat:=max x.2.1.length x.2.2.length
theorem ze1(x:Fz):x.2.1.length≤fsz x:=Ydv ..
theorem ze2(x:Fz):x.2.2.length≤fsz x:=Ydl ..
def sz(q:Rat):Nat:=max (ofN q.num.natAbs).length (ofN q.den).length
theorem zwn(q:Rat):(ofN q.num.natAbs).length≤sz q:=Ydv ..
theorem zp1(q:Rat):(ofN q.den).length≤sz q:=Ydl ..
theorem zoo{n:Nat}(h:n≠0):1≤(ofN n).length:=by
 have:ofN n≠[]:=fun e=>h (zar.1 e);exact Yb6.2 this
theorem z8h(q:Rat):1≤sz q:=Ye (zoo q.den_nz) (zp1 q)
theorem zz9{z:Int}{d:Nat}(h:d≠0):(mkRat z d).num.natAbs=z.natAbs/Nat.gcd z.natAbs d:=by
 rw[Rat.num_mkRat,if_neg h,Int.natAbs_ediv_of_dvd (Int.ofNat_dvd_left.2 (Nat.gcd_dvd_right ..)),Yba,Ycc]
theorem z0a{z:Int}{d:Nat}(h:d≠0):(mkRat z d).den=d/Nat.gcd z.natAbs d:=by
 rw[Rat.den_mkRat,if_neg h,Ycc]
theorem z0b{z:Int}{d:Nat}(h:d≠0):sgI (mkRat z d).num=sgI z:=by
 rw[Rat.num_mkRat,if_neg h];have hg:0<Nat.gcd d z.natAbs:=Nat.gcd_pos_of_pos_left _ (Ya8 h);obtain⟨k,hk⟩:((Nat.gcd d z.natAbs:Nat):Int) ∣ z:=Int.ofNat_dvd_left.2 (Nat.gcd_dvd_right ..);generalize Nat.gcd d z.natAbs=g at *
 have hg':(0:Int)<g:=by omega
 subst hk;rw[Int.mul_ediv_cancel_left _ (by omega)];unfold sgI;rcases Int.lt_trichotomy k 0 with h1 | h1 | h1
 ·have:=Int.mul_neg_of_pos_of_neg hg' h1;rw[if_pos h1,if_pos this]
 ·subst h1;simp
 ·have:=Int.mul_pos hg' h1;rw[if_neg (by omega),if_neg (by omega),if_neg (by omega),if_neg (by omega)]
theorem zwo(z:Int):decide (z<0)=decide (sgI z<0):=by
 unfold sgI;split
 ·simp[*]
 ·split<;>simp[*]
theorem z8i{z:Int}{d:Nat}(h:d≠0):decide ((mkRat z d).num<0)=decide (z<0):=by
 rw[zwo,zwo z,z0b h]
theorem z8j(n:Bool)(x:Nat){d:Nat}(h:d≠0):fz (mkRat (sg n x) d)=(n&&decide (x≠0),ofN (x/Nat.gcd x d),ofN (d/Nat.gcd x d)):=by
 unfold fz;rw[z8i h,zz9 h,z0a h,zz8,zm9]
theorem zd2:ofN 1=[1]:=by
 rw[zga (by decide),show 1/4294967296=0 from rfl,zgu]
 rfl
theorem zwp:fz 0=(false,[],[1]):=by
 unfold fz;rw[Rat.zero_num,Rat.zero_den,zd2];simp
theorem zwq:sz 0=1:=by
 unfold sz;rw[Rat.zero_num,Rat.zero_den,zd2];simp
theorem z0c:sz 1=1:=by
 unfold sz;rw[Rat.one_num,Rat.one_den,show (1:Int).natAbs=1 from rfl,zd2]
 rfl
theorem zco(q:Rat):fsz (fz q)=sz q:=rfl
theorem zwr{z:Int}{d L:Nat}(hz:(ofN z.natAbs).length≤L)(hd:(ofN d).length≤L)(h1:1≤L):sz (mkRat z d)≤L:=by
 unfold sz;by_cases h:d=0
 ·subst h;rw[Yer,Rat.zero_num,Rat.zero_den,zd2];simp;omega
 ·rw[zz9 h,z0a h];exact Yea.2 ⟨Ye (zas (Ybm _ _)) hz,Ye (zas (Ybm _ _)) hd⟩
theorem zza{x:Fz}{L:Nat}(h:fsz x≤L)(h1:1≤L):sz (fv x)≤L:=
 zwr (Ye (zcw _ _) (Ye (ze1 x) h)) (Ye (zad _) (Ye (ze2 x) h)) h1
theorem zbp{x y L M:Nat}(hx:(ofN x).length≤L)(hy:(ofN y).length≤M):(ofN (x*y)).length≤L+M:=by
 have:=zbs (x:=(x:Int)) (y:=(y:Int)) (L:=L) (M:=M) (by simpa using hx) (by simpa using hy);simpa[Int.natAbs_mul]using this
theorem z8k(p q:Rat):sz (p+q)≤sz p+sz q+1:=by
 rw[Rat.add_def'];have h1:=zwn p;have h2:=zp1 p;have h3:=zwn q;have h4:=zp1 q;have h5:=z8h p;refine zwr ?_ (Ye (zbp h2 h4) (by omega)) (by omega);refine zbo ?_ ?_
 ·exact zbs h1 (by simpa using h4)
 ·rw[Ya0];exact zbs h3 (by simpa using h2)
def sgQ(q:Rat):Int:=sgI q.num
theorem z8l{z:Int}{d:Nat}(h:d≠0):sgQ (mkRat z d)=sgI z:=z0b h
theorem zzb{z:Int}:sgI z=0↔z=0:=by
 unfold sgI;split
 ·constructor<;>intro h<;>omega
 ·split<;>constructor<;>intro h<;>omega
theorem zzc{q:Rat}:sgQ q=0↔q=0:=by
 unfold sgQ;rw[zzb,Rat.num_eq_zero]
def Zf(l:List Fz):List (List AV):=l.map Zd7
@[simp] theorem z29(l:List Fz):(Zf l).length=l.length:=by simp[Zf]
@[simp] theorem z3a(l:List Fz):wkL (Zf l)=Zf l:=by rw[zb6];simp[Zf,wkR,wkA]
@[simp] theorem zabk(l:List Fz)(i:Nat)(h:i<(Zf l).length):(Zf l)[i]=Zd7 (l[i]'(by simpa using h)):=by simp[Zf]
theorem zih(l:List Fz)(x:Fz):Zf l++[Zd7 x]=Zf (l++[x]):=by simp[Zf]
@[simp] theorem z8m(l:List Fz)(n:Nat):(Zf l).take n=Zf (l.take n):=by simp[Zf]
@[simp] theorem zaz:Zf []=[]:=rfl
def Z2(m:List (List Fz)):List (List AV):=m.map fun r=>[.sl (Zf r) .an]
@[simp] theorem z3b(l:List (List Fz)):(Z2 l).length=l.length:=by simp[Z2]
@[simp] theorem z3c(l:List (List Fz)):wkL (Z2 l)=Z2 l:=by rw[zb6];simp[Z2,wkR,wkA]
@[simp] theorem zabl(l:List (List Fz))(i:Nat)(h:i<(Z2 l).length):(Z2 l)[i]=[.sl (Zf (l[i]'(by simpa using h))) .an]:=by simp[Z2]
@[simp] theorem z8n(l:List (List Fz))(n:Nat):(Z2 l).take n=Z2 (l.take n):=by simp[Z2]
@[simp] theorem zgw:Z2 []=[]:=rfl
end Go.Ab
end
section
namespace Go.Ab
abbrev tyF:Ty:=.cons .bool (.cons (.sl (.int .u32)) (.cons (.sl (.int .u32)) .nil))
theorem z1q{x:AV}(h:Ziz (false,.str) x):∃l:List UInt8,x=.s l∧l.length≤maxLen:=by
 obtain⟨l,hx,hl⟩:=h;cases hx;exact⟨l,rfl,hl⟩
theorem zqu{P:Program}{ν:Nat→FuncId}{l l':List (Nat×AFx)}(hT:TOk P ν fun u=>l'.lookup u)(hp:Part l l')(hm:P.follows .mixedOrders=true){u:Nat}{af:AFx}{xs ys:List AV}{r:AV}
  (hu:l'.lookup u=some af) (hl:af.lent=none) (h:Zb (fun u=>l.lookup u) u ys=some r) (hx:xs.map wkA=ys):Zaq P (ν u) xs (·=r):=
 zxo hT hm hu hl (hp.call (by rw[hu];rfl) h) hx
end Go.Ab
end
section
namespace Go.Proofs.YtoppjelfghopnaaGreatDoor
open Go Go.Ab Go.RowKit
def Zc1:ByteArray:=⟨#[43,45,42,47,94,40,41,91,93,44,59,61]⟩
theorem signS_lt:∀(p:Nat) (h:p<Zc1.size),(Zc1[p]'h).toNat<128:=by decide
theorem sign_at(c:Nat)(hc:c<256):Zg7.contains (UInt8.ofNat c)=decide (∃p,∃h:p<Zc1.size,(Zc1[p]'h).toNat=c):=by
 rw[Yb5,decide_eq_true_iff];have:∀c,c<256→(Zg7.contains (UInt8.ofNat c)=true↔∃p,∃h:p<Zc1.size,(Zc1[p]'h).toNat=c):=by decide +kernel
 exact this c hc
set_option maxHeartbeats 1000000 in
set_option maxRecDepth 100000 in
theorem sign_calls(c:Nat)(hc:c<256)(w:World):Calls Tryz.prog 160 #[.int .u8 (c:Int)] w fun e w'=>e=.returned (.bool (Zg7.contains (UInt8.ofNat c)))∧Below w.heap.size w w':=by
 rw[sign_at c hc]
 go_enter Tryz.func160,Tryz.ntmps160
 go_wp2
 go_loopw [] (fun wr=>∃pos:Nat,wr.heap[w.heap.size]? = some (.stringIter Zc1 pos)∧Below w.heap.size w wr∧∀j,j<pos→∀h:j<Zc1.size,(Zc1[j]'h).toNat≠c) (fun wr=>Zc1.size-wr.iterPos w.heap.size)
 case atStart=>
  refine⟨0,World.iter_heap w Zc1 0,?_,fun j hj=>absurd hj (Nat.not_lt_zero _)⟩;exact(Below.refl _ w).alloc (Yf _) _
 case round=>
  obtain⟨pos,hit,hbw,hne⟩:=hrel;by_cases hp:pos<Zc1.size
  ·have hnx:∀ty,(Instr.next (.pointer (some ⟨w.heap.size,0,none⟩)) true ty).run Tryz.prog wr=_:=fun ty=>Lib.run_next_ascii_at wr w.heap.size Zc1 pos ty hit hp (signS_lt pos hp);have hit2:=Lib.iterAt_heap wr w.heap.size Zc1 pos (pos+1) hit;have hbw2:=Lib.below_iterAt hbw (k:=w.heap.size) (Yf _) Zc1 (pos+1);obtain⟨x,hx⟩:∃x:Nat,(Zc1[pos]'hp).toNat=x:=⟨_,rfl⟩;have hx1:=signS_lt pos hp;rw[hx]at hnx hx1;have hwr:IntKind.u8.wrap (x:Int)=(x:Int):=by rw[IntKind.wrap_u8];omega
   by_cases hxc:x=c
   ·subst hxc
    go_wp2
    go_ret
    exact⟨by rw[decide_eq_true ⟨pos,hp,hx⟩];rfl,hbw2⟩
   ·have hxc':¬ (x:Int)=(c:Int):=by omega
    go_wp2
    go_roundw
    case rel=>
     refine⟨pos+1,hit2,hbw2,fun j hj h=>?_⟩;rcases Yq j pos with h1 | h1
     ·exact hne j h1 h
     ·obtain rfl:j=pos:=by omega
      rw[hx];exact hxc
    case measure=>
     simp only[World.iterPos,hit2,hit];omega
  ·have hnx:∀ty,(Instr.next (.pointer (some ⟨w.heap.size,0,none⟩)) true ty).run Tryz.prog wr=_:=fun ty=>Lib.run_next_end_at wr w.heap.size Zc1 pos ty hit hp
   go_wp2
   go_ret
   have hno:¬ ∃p,∃h:p<Zc1.size,(Zc1[p]'h).toNat=c:=by
    rintro⟨p,h,hpc⟩
    exact hne p (by omega) h hpc
   exact⟨by rw[decide_eq_false hno];rfl,hbw⟩
theorem sign_ok:∀xs r,prim187 xs=some r→Zaq Tryz.prog (nu 187) xs (·=r):=by
 have e:nu 187=160:=by kernel_rfl
 rw[e];intro xs r h;unfold prim187 at h;split at h
 ·rename_i n;split at h
  ·rename_i hn;cases h;refine⟨enters_of Tryz.func160 (by kernel_rfl) rfl,fun w S cargs hsz hC hS=>?_⟩;obtain⟨v0,rfl⟩:=one_arg hsz;have c0:v0=.int .u8 n:=by
    have:=hC 0 _ _ rfl rfl;cases this
    rfl
   subst c0;obtain⟨c,rfl⟩:∃c:Nat,n=c:=⟨n.toNat,by omega⟩;refine(sign_calls c (by omega) w).mono ?_
   rintro e w' ⟨rfl,hb⟩
   refine⟨_,_,rfl,?_,hb,.b _⟩;rw[Ycj]
   rfl
  ·cases h
 ·cases h
abbrev tyW:Ty:=.cons (.int .i64) (.cons .str (.cons (.int .i64) .nil))
end Go.Proofs.YtoppjelfghopnaaGreatDoor
end
section
namespace Go.Ab
class Zk4 (T:Tbl):Prop where
end Go.Ab
end
section
namespace Go.Ab
theorem cop2{X:Nat}(h:X%2=1)(k:Nat):Nat.Coprime (2^k) X:=by
 refine Nat.Coprime.pow_left k ?_;unfold Nat.Coprime;rw[Yes,h]
 rfl
theorem zii{k m Y:Nat}(hY:Y%2=1):Nat.gcd (2^k*m) Y=Nat.gcd m Y:=Nat.Coprime.gcd_mul_left_cancel m (cop2 hY k)
theorem z3d{m n X Y:Nat}(hX:X%2=1)(hY:Y%2=1):Nat.gcd (2^m*X) (2^n*Y)=2^(min m n)*Nat.gcd X Y:=by
 rcases Nat.le_total m n with h | h
 ·rw[Ydf h,show n=m+(n-m) by omega,Ybe,Yab,Nat.gcd_mul_left,Ycc X,zii hX,Ycc Y]
 ·rw[Nat.min_eq_right h,show m=n+(m-n) by omega,Ybe,Yab,Nat.gcd_mul_left,zii hY]
theorem zp2{X Y k m:Nat}(hY:Y%2=1)(h:Y≤X)(e:X-Y=2^k*m):Nat.gcd m Y=Nat.gcd X Y:=by
 rw[←zii hY (k:=k),←e,Nat.gcd_sub_self_left h]
theorem zzd{n:Nat}(h:n≠0):∃k m,n=2^k*m∧m%2=1:=by
 induction n using Nat.strongRecOn with
 | _ n ih=>
  by_cases h2:n%2=1
  ·exact⟨0,n,by simp,h2⟩
  ·obtain⟨k,m,e,hm⟩:=ih (n/2) (by omega) (by omega);refine⟨k+1,m,?_,hm⟩;rw[Y8,Yam (2^k),Yab,←e];omega
end Go.Ab
end
section
namespace Go.Ab
section
variable{T:Tbl}
theorem zin(G:Nat):∀y:Nat×Nat,(y.1<18446744073709551616∧y.2<18446744073709551616∧Nat.gcd y.1 y.2=G) →
  Zn T 0 0 (.norm false [0]) l198_0 ⟨[(0,u64 y.1),(1,u64 y.2)],[],2⟩=some (.n,⟨[(0,u64 G)],[],2⟩):=by
 refine zan (fun y:Nat×Nat=>⟨[(0,u64 y.1),(1,u64 y.2)],[],2⟩) _ (fun y=>y.2) _ ?_
 rintro⟨x,y⟩ ⟨hx,hy,hG⟩
 simp only at hx hy hG ⊢;by_cases h:y=0
 ·right;subst h;rw[Yd6]at hG;subst hG;constructor<;>simp -implicitDefEqProofs[l198_0]
 ·left;have hm:=Ya1 x (Ya8 h);refine⟨(y,x%y),⟨hy,by simp only;omega,by simp only;rw[←hG,Ycc y,←Yes,Ycc]⟩,hm,?_,trivial⟩;simp -implicitDefEqProofs[l198_0,h]
end
section
variable{T:Tbl}[Zj T]
theorem zl5(x y:Nat)(hx:x<18446744073709551616)(hy:y<18446744073709551616):Zb T 198 [u64 x,u64 y]=some (u64 (Nat.gcd x y)):=by
 have h:=zin (T:=T) (Nat.gcd x y) (x,y) ⟨hx,hy,rfl⟩;simp only at h;rw[zac Zj.h198 rfl,b198];simp -implicitDefEqProofs[h]
theorem zqv(a:List UInt32):Zb T 200 [.sl (Za (ofN (val a))) .an]=some (.b (decide (val a=1))):=by
 rw[zac Zj.h200 rfl,b200];generalize val a=n;by_cases h0:n=0
 ·subst h0;simp -implicitDefEqProofs
 ·rw[zga h0];by_cases h1:n/4294967296=0
  ·have e:ofN (n/4294967296)=[]:=zar.2 h1;have e2:n%4294967296=n:=Yi (by omega);simp -implicitDefEqProofs[e,Za,zbv,e2]
  ·have h2:¬ ofN (n/4294967296)=[]:=fun e=>h1 (zar.1 e);have h3:¬ n=1:=by rintro rfl;simp at h1
   have h4:¬ ((ofN (n/4294967296)).length:Int)+1=1:=by
    have:=Yb6.2 h2;omega
   simp -implicitDefEqProofs[Za,h3,h4]
end
section
variable{T:Tbl}[Zu T][Zz T][Z1 T][Zw T][Zs T][Zj T]
theorem zxp(G:Nat):∀y:List UInt32×List UInt32,(y.1.length≤90000∧y.2.length≤90000∧(∃n,y.1=ofN n)∧(∃n,y.2=ofN n)∧Nat.gcd (val y.1) (val y.2)=G) →
  ∃r,(∃a b:List UInt32,r=(Ex.n,(⟨[(0,.sl (Za a) .an),(1,.sl (Za b) .an)],[],2⟩:St))∧a.length≤90000∧b.length≤2∧(∃n,a=ofN n)∧(∃n,b=ofN n)∧Nat.gcd (val a) (val b)=G) ∧
   Zn T 0 0 (.norm false [0,1]) l199_0 ⟨[(0,.sl (Za y.1) .an),(1,.sl (Za y.2) .an)],[],2⟩=some r:=by
 refine zaq (fun y:List UInt32×List UInt32=>⟨[(0,.sl (Za y.1) .an),(1,.sl (Za y.2) .an)],[],2⟩) _ (fun y=>val y.2) _ ?_
 rintro⟨a,b⟩ ⟨ha,hb,hk,hn,hG⟩
 simp only at ha hb hk hn hG ⊢;by_cases h:2<b.length
 ·left;have h':(2:Int)<b.length:=by omega
  have hv:val b≠0:=by
   obtain⟨n,rfl⟩:=hn;rw[zae]
   rintro rfl
   simp at h
  have hd:=zfl (T:=T) a b ha hb;rw[if_neg hv]at hd;have hm:=Ya1 (val a) (Ya8 hv);refine⟨(b,ofN (val a%val b)),⟨hb,?_,hn,⟨_,rfl⟩,?_⟩,?_,?_⟩
  ·have:=zas (Yc8 hm);have:=zad b;simp only;omega
  ·simp only;rw[zae,←hG,Ycc (val b),←Yes,Ycc]
  ·simp only[zae];exact hm
  ·clear hG hm hn hv hk;simp -implicitDefEqProofs[l199_0,h',hd]
 ·right;have h':¬ (2:Int)<b.length:=by omega
  refine⟨_,⟨a,b,rfl,ha,by omega,hk,hn,hG⟩,?_,?_⟩<;>clear hG<;>simp -implicitDefEqProofs[l199_0,h']
theorem zn2(a b:List UInt32)(ha:a.length≤90000)(hb:b.length≤90000):Zb T 199 [.sl (Za a) .an,.sl (Za b) .an]=some (.sl (Za (ofN (Nat.gcd (val a) (val b)))) .an):=by
 have h1:=zbf (T:=T) a (by omega);have h2:=zbf (T:=T) b (by omega);have la:=zad a;have lb:=zad b;obtain⟨G,hG⟩:∃G,G=Nat.gcd (val a) (val b):=⟨_,rfl⟩;obtain⟨_,⟨x,y,rfl,hx,hy,⟨m,rfl⟩,⟨n,rfl⟩,hg⟩,hr⟩:=zxp (T:=T) G (ofN (val a),ofN (val b)) ⟨by simp only;omega,by simp only;omega,⟨_,rfl⟩,⟨_,rfl⟩,by simp only[zae];exact hG.symm⟩;simp only at hr;rw[zae,zae]at hg;rw[zac Zj.h199 rfl,b199,←hG];clear hG;by_cases h0:n=0
 ·subst h0;rw[Yd6]at hg;subst hg;simp -implicitDefEqProofs[h1,h2,hr]
 ·have hv:val (ofN n)≠0:=by rw[zae];exact h0
  have hd:=zfl (T:=T) (ofN m) (ofN n) hx (by omega);rw[if_neg hv,zae,zae]at hd;have hn64:n<18446744073709551616:=by
   have:=zax (ofN n);rw[zae]at this;exact Yp this (Ym (by decide) hy)
  have hm:=Ya1 m (Ya8 h0);have s1:=zme (T:=T) (ofN n) (by omega);rw[zae,if_pos hn64]at s1;have s2:=zme (T:=T) (ofN (m%n)) (by have:=zas (Yc8 hm);omega);rw[zae,if_pos (by omega)]at s2;have s3:=zl5 (T:=T) n (m%n) hn64 (by omega);have e:Nat.gcd n (m%n)=G:=by rw[←hg,Ycc n,←Yes,Ycc]
  rw[e]at s3;have s4:=zeo (T:=T) G (by
   rw[←hg];exact Ycv (Nat.gcd_le_right _ (Ya8 h0)) hn64)
  have hl:¬ ofN n=[]:=fun e=>h0 (zar.1 e);simp -implicitDefEqProofs[h1,h2,hr,hd,s1,s2,s3,s4,hl,h0]
theorem zio(a b:List UInt32)(ha:a.length≤90000)(hb:b.length≤90000):Zb T 201 [.sl (Za a) .an,.sl (Za b) .an] =
  some (.tup [.sl (Za (ofN (val a/Nat.gcd (val a) (val b)))) .an,.sl (Za (ofN (val b/Nat.gcd (val a) (val b)))) .an]):=by
 have hg:=zn2 (T:=T) a b ha hb;have ho:=zqv (T:=T) (ofN (Nat.gcd (val a) (val b)));rw[zae]at ho;have ll:(ofN (Nat.gcd (val a) (val b))).length≤90000:=by
  by_cases h:val a=0
  ·rw[h,Nat.gcd_zero_left];have:=zad b;omega
  ·have:=zas (Nat.gcd_le_left (val b) (Ya8 h));have:=zad a;omega
 have d1:=zfl (T:=T) a (ofN (Nat.gcd (val a) (val b))) ha ll;have d2:=zfl (T:=T) b (ofN (Nat.gcd (val a) (val b))) hb ll;have n1:=zbf (T:=T) a (by omega);have n2:=zbf (T:=T) b (by omega);rw[zae]at d1 d2;rw[zac Zj.h201 rfl,b201];by_cases h0:Nat.gcd (val a) (val b)=0
 ·rw[h0]at hg ⊢;simp only[zgu]at hg;simp -implicitDefEqProofs[hg]
 ·rw[if_neg h0]at d1 d2;have hl:¬ ofN (Nat.gcd (val a) (val b))=[]:=fun e=>h0 (zar.1 e);by_cases h1:Nat.gcd (val a) (val b)=1
  ·rw[h1]at hg ho hl ⊢;simp -implicitDefEqProofs[hg,ho,n1,n2,hl]
  ·generalize Nat.gcd (val a) (val b)=g at *
   simp -implicitDefEqProofs[hg,ho,d1,d2,hl,h0,h1]
end
end Go.Ab
end
section
namespace Go.Ab
section
variable{T:Tbl}[Zg T]
theorem za7(n:Bool)(k:Nat):Zb T 55 [.b n,.sl (Za (ofN k)) .an]=some (ez (sg n k)):=by
 rw[zac Zg.h55 rfl,b55,z28];have h:(0<(ofN k).length)=(k≠0):=by
  rw[eq_iff_iff,Yb6];exact not_congr zar
 cases n<;>simp -implicitDefEqProofs[h]
end
section
variable{T:Tbl}[Zu T][Zg T]
theorem zr2(n:Bool)(a:List UInt32)(ha:a.length≤1000000):Zb T 38 [wh n a]=some (ez (wv n a)):=by
 have h:=zbf (T:=T) a (by omega);have hs:=za7 (T:=T) n (val a);rw[zac Zg.h38 rfl,b38];simp -implicitDefEqProofs[h,hs,wv]
end
section
variable{T:Tbl}[Zu T][Zg T]
theorem zwh(n:Bool)(a:List UInt32)(ha:a.length≤1000000):Zb T 40 [wh n a]=some (ez (-wv n a)):=by
 have h:=zbf (T:=T) a (by omega);have hs:=za7 (T:=T) (!n) (val a);rw[z8e]at hs;rw[zac Zg.h40 rfl,b40];simp -implicitDefEqProofs[h,hs,wv]
end
section
variable{T:Tbl}[Zu T][Zg T]
theorem zjp(n m:Bool)(a b:List UInt32)(ha:a.length≤90000)(hb:b.length≤90000):Zb T 23 [wh n a,wh m b]=some (ez (wv n a+wv m b)):=by
 rw[zac Zg.h23 rfl,b23];by_cases h:n=m
 ·subst h;have hn:=zpm (T:=T) [a,b] (by simp) (by simp;omega);have hs:=za7 (T:=T) n (val a+val b);rw[zif]at hs;have e:lls [a,b]=[[.sl (Za a) .an],[.sl (Za b) .an]]:=rfl;have e2:Zdx [a,b]=val a+val b:=by simp[Zdx]
  rw[e,e2]at hn;simp -implicitDefEqProofs[hn,hs,wv]
 ·have hg:=z10 (T:=T) a b (by omega) (by omega);by_cases hlt:val a<val b
  ·have hs:=za7 (T:=T) m (val b-val a);rw[zna h hlt]at hs;simp -implicitDefEqProofs[h,hg,hlt,zcj,hs,wv]
  ·have hs:=za7 (T:=T) n (val a-val b);rw[znb h hlt]at hs;simp -implicitDefEqProofs[h,hg,hlt,zcj,hs,wv]
end
section
variable{T:Tbl}[Zu T][Zg T]
theorem zr3(n m:Bool)(a b:List UInt32)(ha:a.length≤90000)(hb:b.length≤90000):Zb T 25 [wh n a,wh m b]=some (ez (wv n a-wv m b)):=by
 obtain⟨z,hz⟩:∃z,z=-wv m b:=⟨_,rfl⟩;have h1:=zwh (T:=T) m b (by omega);have hl:=zcw m b;rw[←zig,←hz]at hl;have h2:=zjp (T:=T) n (decide (z<0)) a (ofN z.natAbs) (by omega) (by omega);have e:wv n a-wv m b=wv n a+z:=by omega
 rw[zie,←e]at h2;rw[←hz]at h1;rw[zac Zg.h25 rfl,b25];simp -implicitDefEqProofs[h1,h2]
end
section
variable{T:Tbl}[Zz T][Zg T]
theorem zwi(n m:Bool)(a b:List UInt32)(ha:a.length≤100000)(hb:b.length≤100000):Zb T 27 [wh n a,wh m b]=some (ez (wv n a*wv m b)):=by
 have h1:=zgr (T:=T) a b ha hb;have hs:=za7 (T:=T) (n != m) (val a*val b);rw[z8f]at hs;rw[zac Zg.h27 rfl,b27];simp -implicitDefEqProofs[h1,hs,wv]
end
section
variable{T:Tbl}[Zu T][Zg T]
theorem zr4(n:Bool)(a:List UInt32)(ha:a.length≤1000000):Zb T 37 [wh n a]=some (.i .i64 (sgI (wv n a))):=by
 have h1:=zki (T:=T) a (by omega);rw[zac Zg.h37 rfl,b37];unfold wv;rw[z8g];by_cases h:val a=0
 ·simp -implicitDefEqProofs[h1,h]
 ·cases n<;>simp -implicitDefEqProofs[h1,h]
end
section
variable{T:Tbl}[Zu T][Zg T]
theorem zr5(n m:Bool)(a b:List UInt32)(ha:a.length≤90000)(hb:b.length≤90000):Zb T 36 [wh n a,wh m b]=some (.i .i64 (sgI (wv n a-wv m b))):=by
 have h1:=zr3 (T:=T) n m a b ha hb;have hl:=zbo (x:=wv n a) (y:=-wv m b) (L:=90000) (by have:=zcw n a;omega) (by rw[zig];have:=zcw m b;omega);rw[←Int.sub_eq_add_neg]at hl;have h2:=zr4 (T:=T) (decide (wv n a-wv m b<0)) (ofN (wv n a-wv m b).natAbs) (show (ofN (wv n a-wv m b).natAbs).length≤1000000 by omega);rw[zie]at h2;rw[zac Zg.h36 rfl,b36];simp -implicitDefEqProofs[h1,h2]
end
section
variable{T:Tbl}[Zu T][Zg T]
theorem zy8(k:Int)(h1:-9223372036854775808≤k)(h2:k<9223372036854775808):Zb T 41 [.i .i64 k]=some (ez k):=by
 rw[zac Zg.h41 rfl,b41];by_cases h:k<0
 ·have hn:=zeo (T:=T) k.natAbs (by omega);have hs:=za7 (T:=T) true k.natAbs;have e:sg true k.natAbs=k:=by simp[sg];omega
  have e2:Zdq 0 (k%18446744073709551616).toNat=k.natAbs:=by unfold Zdq;omega
  rw[e]at hs;simp -implicitDefEqProofs[h,e2,hn,hs]
 ·have hn:=zeo (T:=T) k.natAbs (by omega);have hs:=za7 (T:=T) false k.natAbs;have e:sg false k.natAbs=k:=by simp[sg];omega
  have e2:(k%18446744073709551616).toNat=k.natAbs:=by omega
  rw[e]at hs;simp -implicitDefEqProofs[h,e2,hn,hs]
end
section
variable{T:Tbl}[Zz T][Zr T][Zg T]
theorem zr6(l:List UInt8)(hl:l.length≤1000000):Zb T 32 [.s l]=some (.tup (if 0≤Zbc l then [wh false [],.agg [.i .i64 1,.i .i64 0,.i .i64 0,.i .i64 (Zbc l+Zcc l)]]
  else [ez (Zy l),.agg [.i .i64 0,.i .i64 0,.i .i64 0,.i .i64 0]])):=by
 have h1:=ztz (T:=T) l hl;obtain⟨l',hl'⟩:∃l',l'=if l.head? = some 45 then l.tail else l:=⟨_,rfl⟩
 have hl2:l'.length≤1000000:=by
  rw[hl'];split
  ·simp;omega
  ·exact hl
 have h2:=zho (T:=T) l' hl2;have hs:=za7 (T:=T) (l.head? = some 45) (rd l');have hm:(l.length:Int)-l'.length=Zcc l:=by
  rw[hl'];unfold Zcc;split
  ·rename_i h;cases l with
   | nil=>cases h
   | cons c r=>simp;omega
  ·omega
 unfold Zbc Zy;rw[←hl']at h1 ⊢;have hw1:IntKind.wrap .i64 ((l.length:Int)-l'.length)=Zcc l:=by rw[hm];exact zab _ (by unfold Zcc;split<;>omega)
 rw[zac Zg.h32 rfl,b32];have hwb:Zp l'≤60:=by
  unfold Zp;split
  ·omega
  ·exact ze0 0 l' (by omega)
 by_cases h0:0≤Zp l'
 ·have hw2:IntKind.wrap .i64 (Zp l'+Zcc l)=Zp l'+Zcc l:=zab _ (by unfold Zcc;split<;>omega);simp -implicitDefEqProofs[h1,h2,h0,hw1,hw2,zhm]
 ·simp -implicitDefEqProofs[h1,h2,h0,hs]
end
end Go.Ab
end
section
namespace Go.Ab
section
variable{T:Tbl}[Zu T][Zz T][Z1 T][Zw T][Zs T][Zg T][Zj T][Z0 T]
theorem zn3(p q:Int)(hp:(ofN p.natAbs).length≤90000)(hq:(ofN q.natAbs).length≤90000):Zb T 23 [ez p,ez q]=some (ez (p+q)):=by
 grind[zjp,zie]
theorem zn4(p q:Int)(hp:(ofN p.natAbs).length≤90000)(hq:(ofN q.natAbs).length≤90000):Zb T 36 [ez p,ez q]=some (.i .i64 (sgI (p-q))):=by
 grind[zr5,zie]
theorem zqy{x d:Nat}(h:d≠0):decide (x/Nat.gcd x d≠0)=decide (x≠0):=by
 obtain⟨k,hk⟩:=Nat.gcd_dvd_left x d
 grind[Nat.mul_div_cancel_left,Nat.mul_eq_zero]
theorem zdx(n:Bool)(a d:List UInt32)(ha:a.length≤90000)(hd:d.length≤90000)(h:val d≠0) :
  Zb T 202 [wh n a,.sl (Za d) .an]=some (efz (fz (mkRat (wv n a) (val d)))):=by
 have e:=z8j n (val a) h
 change fz (mkRat (wv n a) (val d))=_ at e
 have hc:=zio (T:=T) a d ha hd;have hl:(ofN (val a/Nat.gcd (val a) (val d))).length≤1000000:=by
  have:=zas (Ybm (val a) (Nat.gcd (val a) (val d)));have:=zad a;omega
 have hn:=zr2 (T:=T) n _ hl;have e2:wv n (ofN (val a/Nat.gcd (val a) (val d)))=sg n (val a/Nat.gcd (val a) (val d)):=by unfold wv;rw[zae]
 rw[e2,z28,zqy h]at hn;rw[e,zac Z0.h202 rfl,b202];simp -implicitDefEqProofs[hc,hn]
theorem zn5(n:Bool)(a d:List UInt32)(ha:a.length≤10000)(hd:d.length≤10000)(h:val d≠0) :
  Zb T 202 [wh n a,.sl (Za d) .an]=some (efz (fz (mkRat (wv n a) (val d)))):=zdx (T:=T) n a d (Ye ha (by decide)) (Ye hd (by decide)) h
theorem zc6(x:Fz)(hx:fsz x≤100000):∃y:Fz,val y.2.2≠0∧fv y=fv x∧fsz y≤max 1 (fsz x)∧Zb T 203 [efz x]=some (.tup [wh y.1 y.2.1,.sl (Za y.2.2) .an]):=by
 obtain⟨n,a,d⟩:=x;have h1:=ze1 (n,a,d);have h2:=ze2 (n,a,d);simp only at h1 h2;have hz:=zki (T:=T) d (by omega);by_cases h:val d=0
 ·refine⟨(false,[],[1]),by simp,?_,?_,?_⟩
  ·unfold fv;simp only[h,Yer]
   rfl
  ·show 1≤_;omega
  ·have ho:=zeo (T:=T) 1 (by decide);rw[zd2]at ho;rw[zac Z0.h203 rfl,b203];simp -implicitDefEqProofs[hz,h,ho]
 ·refine⟨(n,a,d),h,rfl,by omega,?_⟩;rw[zac Z0.h203 rfl,b203];simp -implicitDefEqProofs[hz,h]
theorem zt0(k:Int)(h1:-9223372036854775808≤k)(h2:k<9223372036854775808):Zb T 205 [.i .i64 k]=some (efz (fz (k:Rat))):=by
 have hw:=zy8 (T:=T) k h1 h2;have ho:=zeo (T:=T) 1 (by decide);have e:fz (k:Rat)=(decide (k<0),ofN k.natAbs,ofN 1):=rfl;rw[e,zac Z0.h205 rfl,b205];simp -implicitDefEqProofs[hw,ho]
theorem zfh:Zb T 205 [.i .i64 0]=some (efz (fz 0)):=zt0 0 (by decide) (by decide)
theorem zxt:Zb T 205 [.i .i64 1]=some (efz (fz 1)):=zt0 1 (by decide) (by decide)
theorem zqz(x:Fz)(hx:fsz x≤90000):Zb T 207 [efz x]=some (efz (fz (fv x))):=by
 obtain⟨⟨n,a,d⟩,h1,h2,h3,hp⟩:=zc6 (T:=T) x (by omega);have la:=ze1 (n,a,d);have ld:=ze2 (n,a,d);simp only at la ld;have hc:=zdx (T:=T) n a d (by omega) (by omega) h1;rw[←h2]
 change _=some (efz (fz (mkRat (wv n a) (val d))))
 rw[zac Z0.h207 rfl,b207];simp -implicitDefEqProofs[hp,hc]
theorem zt1(x:Fz)(hx:fsz x≤10000):Zb T 207 [efz x]=some (efz (fz (fv x))):=zqz (T:=T) x (Ye hx (by decide))
theorem zdj(n:Bool)(a d:List UInt32)(ha:a.length≤90000)(hd:d.length≤90000):Zb T 210 [wh n a,.sl (Za d) .an]=some (ez (wv n a*(val d:Int))):=by
 have hm:=zwi (T:=T) n false a d (by omega) (by omega);rw[show wv false d=(val d:Int) from rfl]at hm;rw[zac Z0.h210 rfl,b210];simp -implicitDefEqProofs[hm]
theorem zt2(x x':Fz)(hx:fsz x≤30000)(hx':fsz x'≤30000):Zb T 211 [efz x,efz x']=some (.i .i64 (sgQ (fv x-fv x'))):=by
 obtain⟨⟨n,a,d⟩,h1,h2,h3,hp⟩:=zc6 (T:=T) x (by omega);obtain⟨⟨m,b,e⟩,h1',h2',h3',hp'⟩:=zc6 (T:=T) x' (by omega);have la:=ze1 (n,a,d);have ld:=ze2 (n,a,d);have lb:=ze1 (m,b,e);have le:=ze2 (m,b,e);simp only at la ld lb le;have c1:=zdj (T:=T) n a e (by omega) (by omega);have c2:=zdj (T:=T) m b d (by omega) (by omega);have l1:(ofN (wv n a*(val e:Int)).natAbs).length≤60000:=by
  have:=zbs (x:=wv n a) (y:=(val e:Int)) (L:=30000) (M:=30000) (Ye (zcw n a) (by omega)) (Ye (zcw false e) (by omega));omega
 have l2:(ofN (wv m b*(val d:Int)).natAbs).length≤60000:=by
  have:=zbs (x:=wv m b) (y:=(val d:Int)) (L:=30000) (M:=30000) (Ye (zcw m b) (by omega)) (Ye (zcw false d) (by omega));omega
 have e1:sgQ (fv x-fv x')=sgI (wv n a*(val e:Int)-wv m b*(val d:Int)):=by
  rw[←h2,←h2',Rat.sub_eq_add_neg];unfold fv;rw[Rat.neg_mkRat,Ydw _ _ h1 h1',z8l (Yeo h1 h1'),Int.neg_mul]
  rfl
 generalize wv n a*(val e:Int)=z1 at *
 generalize wv m b*(val d:Int)=z2 at *
 have c3:=zn4 (T:=T) z1 z2 (by omega) (by omega);rw[e1,zac Z0.h211 rfl,b211];simp -implicitDefEqProofs[hp,hp',c1,c2,c3]
theorem zq0(x x':Fz)(hx:fsz x≤30000)(hx':fsz x'≤30000):Zb T 212 [efz x,efz x']=some (.b (decide (fv x=fv x'))):=by
 have hc:=zt2 (T:=T) x x' hx hx';have e:(sgQ (fv x-fv x') == 0)=decide (fv x=fv x'):=by
  grind[zzc]
 rw[zac Z0.h212 rfl,b212];simp -implicitDefEqProofs[hc,e]
theorem zhr(x x':Fz)(hx:fsz x≤1000)(hx':fsz x'≤1000):Zb T 212 [efz x,efz x']=some (.b (decide (fv x=fv x'))):=zq0 (T:=T) x x' (Ye hx (by decide)) (Ye hx' (by decide))
theorem zt3(x x':Fz)(hx:fsz x≤30000)(hx':fsz x'≤30000):Zb T 215 [efz x,efz x']=some (efz (fz (fv x+fv x'))):=by
 obtain⟨⟨n,a,d⟩,h1,h2,h3,hp⟩:=zc6 (T:=T) x (by omega);obtain⟨⟨m,b,e⟩,h1',h2',h3',hp'⟩:=zc6 (T:=T) x' (by omega);have la:=ze1 (n,a,d);have ld:=ze2 (n,a,d);have lb:=ze1 (m,b,e);have le:=ze2 (m,b,e);simp only at la ld lb le;have c1:=zdj (T:=T) n a e (by omega) (by omega);have c2:=zdj (T:=T) m b d (by omega) (by omega);have c4:=zgr (T:=T) d e (by omega) (by omega);have l1:(ofN (wv n a*(val e:Int)).natAbs).length≤60000:=by
  have:=zbs (x:=wv n a) (y:=(val e:Int)) (L:=30000) (M:=30000) (Ye (zcw n a) (by omega)) (Ye (zcw false e) (by omega));omega
 have l2:(ofN (wv m b*(val d:Int)).natAbs).length≤60000:=by
  have:=zbs (x:=wv m b) (y:=(val d:Int)) (L:=30000) (M:=30000) (Ye (zcw m b) (by omega)) (Ye (zcw false d) (by omega));omega
 have l3:(ofN (val d*val e)).length≤60000:=by
  have:=zbp (x:=val d) (y:=val e) (L:=30000) (M:=30000) (Ye (zad d) (by omega)) (Ye (zad e) (by omega));omega
 have e1:fv x+fv x'=mkRat (wv n a*(val e:Int)+wv m b*(val d:Int)) (val d*val e):=by
  rw[←h2,←h2'];exact Ydw _ _ h1 h1'
 have hne:=Yeo h1 h1';generalize wv n a*(val e:Int)=z1 at *
 generalize wv m b*(val d:Int)=z2 at *
 generalize val d*val e=D at *
 have c3:=zn3 (T:=T) z1 z2 (by omega) (by omega);have c5:=zdx (T:=T) (decide (z1+z2<0)) (ofN (z1+z2).natAbs) (ofN D) (by have:=zbo l1 l2;omega) (by omega) (by rw[zae];omega);rw[zie,zae,←e1]at c5;rw[zac Z0.h215 rfl,b215];simp -implicitDefEqProofs[hp,hp',c1,c2,c3,c4,c5]
theorem zxu(x x':Fz)(hx:fsz x≤1000)(hx':fsz x'≤1000):Zb T 215 [efz x,efz x']=some (efz (fz (fv x+fv x'))):=zt3 (T:=T) x x' (Ye hx (by decide)) (Ye hx' (by decide))
end
end Go.Ab
end
section
namespace Go.Ab
def nrm(l:List Fz):List Fz:=l.map fun x=>fz (fv x)
def fzs(l:List Rat):List Fz:=l.map fz
theorem zh5{m:List Fz}{n:Nat}(h:m.length=n)(x:Fz):wkL (Zf (List.take n m)++[Zd7 x])=Zf (m++[x]):=by
 rw[Yb (by omega),zih,z3a]
@[simp] theorem z7p:Zaj []=[]:=rfl
def Zk5(q:Rat):List UInt8:=if q.den=1 then Zk6 q.num else Zk6 q.num++47::Zg6 q.den
section
variable{T:Tbl}[Zu T][Zz T][Z1 T][Zw T][Zs T][Za0 T][Zg T][Zj T][Z0 T][Zaz T][Zcj T]
def Zp1(n i:Nat):St:=⟨[(3,.bs (.loc 9) 1 3 0 n),(10,.i .i64 n),(11,.i .i64 i)],[(.loc 9,⟨1,.own,3,Zf (List.replicate i (fz 0))++List.replicate (n-i) [.b false,.sl [] .an,.sl [] .an]⟩)],3⟩
def Zp2(l:List Fz)(i:Nat):St:=⟨[(3,.bs (.loc 3) 1 3 0 i),(6,.sl (Zf l) .an),(7,.i .i64 l.length),(8,.i .i64 i)],[(.loc 3,⟨1,.own,3,Zf (nrm (l.take i))⟩)],3⟩
def scl(c:Rat)(l:List Fz):List Fz:=l.map fun x=>fz (c*fv x)
def Zp3(c:Fz)(l:List Fz)(i:Nat):St:=⟨[(2,.ptr (.loc 2) 1 3 0 0),(5,.bs (.loc 5) 2 3 0 i),(8,.sl (Zf l) .an),(9,.i .i64 l.length),(10,.i .i64 i)],[(.loc 2,⟨1,.str,3,[Zd7 c]⟩),(.loc 5,⟨2,.own,3,Zf (scl (fv c) (l.take i))⟩)],4⟩
def Zlh:List Fz→List Fz→Rat
 | x::a,y::b=>fv x*fv y+Zlh a b
 | _,_=>0
def Zma(a b:List Fz)(i:Nat):Rat:=Zlh (a.take i) (b.take i)
abbrev Zdy:List AV:=[.b false,.sl [] .an,.sl [] .an]
def Zp4(a b:List Fz)(i:Nat):St:=⟨[(1,.sl (Zf b) .an),(4,.ptr (.loc 4) 1 3 0 0),(6,.ptr (.loc 6) 2 3 0 0),(16,.sl (Zf a) .an),(17,.i .i64 a.length),(18,.i .i64 i)],
 [(.loc 4,⟨1,.str,3,[Zdy]⟩),(.loc 6,⟨2,.str,3,[Zd7 (fz (Zma a b i))]⟩)],4⟩
def Zp5(a b:List Fz)(i:Nat):St:=⟨[(0,.sl (Zf a) .an),(1,.sl (Zf b) .an),(12,.i .i64 a.length),(13,.i .i64 i)],[],2⟩
def Zje(l:List Fz):List (List UInt8):=l.map fun x=>Zk5 (fv x)
def Zp6(l:List Fz)(i:Nat):St:=⟨[(3,.bs (.loc 3) 1 1 0 i),(6,.sl (Zf l) .an),(7,.i .i64 l.length),(8,.i .i64 i)],[(.loc 3,⟨1,.own,1,Zaj (Zje (l.take i))⟩)],3⟩
end
end Go.Ab
end
section
namespace Go.Ab
@[simp] theorem zc7(l:List Rat):(fzs l).length=l.length:=by simp[fzs]
def Znh(c:Rat)(acc:List Rat)(r:List Fz):List Rat:=List.zipWith (fun q x=>q+c*fv x) acc r
def Zkt(acc:List Rat)(r:List Fz):List Rat:=List.zipWith (fun q x=>q+fv x) acc r
section
variable{T:Tbl}[Zu T][Zz T][Z1 T][Zw T][Zs T][Za0 T][Zg T][Zj T][Z0 T][Zaz T][Zcj T]
def Zp7(k j n:Nat)(rest:List (List Fz))(r:List Fz)(L acc:List Rat)(i:Nat):St:=
 ⟨[(4,.bs (.fld (.loc 15) 3) 1 3 0 n),(17,.sl (Z2 rest) .an),(18,.i .i64 k),(19,.i .i64 j),(28,.sl (Zf r) .an),(29,.i .i64 n),(30,.i .i64 i)],
  [(.fld (.loc 15) 3,⟨1,.own,3,Zf (fzs (L.take i++acc.drop i))⟩)],3⟩
def Zp8(n:Nat)(rest:List (List Fz))(acc:List Rat)(j:Nat):St:=
 ⟨[(4,.bs (.fld (.loc 15) 3) 1 3 0 n),(17,.sl (Z2 rest) .an),(18,.i .i64 rest.length),(19,.i .i64 j)],[(.fld (.loc 15) 3,⟨1,.own,3,Zf (fzs ((rest.take j).foldl Zkt acc))⟩)],3⟩
end
end Go.Ab
end
section
namespace Go.Ab
def Zl8(p:List (Fz×List Fz))(acc:List Rat):List Rat:=p.foldl (fun a q=>Znh (fv q.1) a q.2) acc
section
variable{T:Tbl}[Zu T][Zz T][Z1 T][Zw T][Zs T][Za0 T][Zg T][Zj T][Z0 T][Zaz T][Zcj T]
def Zpm(C:List Fz)(k j n:Nat)(l:List (List Fz))(r:List Fz)(L acc:List Rat)(i:Nat):St:=
 ⟨[(0,.sl (Zf C) .an),(10,.bs (.fld (.loc 40) 9) 1 3 0 n),(11,.i .i64 k),(41,.sl (Z2 l) .an),(42,.i .i64 j),(43,.i .i64 k),(54,.sl (Zf r) .an),(55,.i .i64 n),(56,.i .i64 i)],
  [(.fld (.loc 40) 9,⟨1,.own,3,Zf (fzs (L.take i++acc.drop i))⟩)],3⟩
def Zpn(C:List Fz)(n:Nat)(l:List (List Fz))(acc:List Rat)(k:Nat):St:=
 ⟨[(0,.sl (Zf C) .an),(10,.bs (.fld (.loc 40) 9) 1 3 0 n),(41,.sl (Z2 l) .an),(42,.i .i64 l.length),(43,.i .i64 k)],[(.fld (.loc 40) 9,⟨1,.own,3,Zf (fzs (Zl8 ((C.zip l).take k) acc))⟩)],3⟩
def Zpo(C:List Fz)(l:List (List Fz))(n i:Nat):St:=⟨[(0,.sl (Zf C) .an),(1,.sl (Z2 l) .an),(2,.i .i64 n),(28,.sl (Z2 l) .an),(29,.i .i64 l.length),(30,.i .i64 i)],[],2⟩
end
end Go.Ab
end
section
namespace Go.Ab
abbrev agS(t h:Fz)(y0 y1 f0 f1:List Fz):AV:=
 .agg [.b t.1,.sl (Za t.2.1) .an,.sl (Za t.2.2) .an,.b h.1,.sl (Za h.2.1) .an,.sl (Za h.2.2) .an,.sl (Zf y0) .an,.sl (Zf y1) .an,.sl (Zf f0) .an,.sl (Zf f1) .an]
def Zmh(l:List Fz):Rat:=l.foldl (fun p x=>p*fv x) 1
section
variable{T:Tbl}[Zu T][Zz T][Z1 T][Zw T][Zs T][Za0 T][Zg T][Zj T][Z0 T][Zaz T][Zcj T][Zk4 T]
def Zqn(l:List Fz)(i:Nat):St:=⟨[(2,.ptr (.loc 2) 1 3 0 0),(3,.ptr (.loc 3) 2 3 0 0),(7,.sl (Zf l) .an),(8,.i .i64 l.length),(9,.i .i64 i)],[(.loc 2,⟨1,.str,3,[Zdy]⟩),(.loc 3,⟨2,.str,3,[Zd7 (fz (Zmh (l.take i)))]⟩)],4⟩
def Znr(h:Fz)(y0 y1 f0 f1:List Fz):Bool:=decide (0<fv h)&&decide (y0.length≤300)&&decide (y1.length=y0.length)&&decide (f0.length=y0.length)&&decide (f1.length=y0.length)
end
end Go.Ab
end
section
namespace Go.Ab
abbrev tyS:Ty:=.cons tyF (.cons tyF (.cons (.sl tyF) (.cons (.sl tyF) (.cons (.sl tyF) (.cons (.sl tyF) .nil)))))
end Go.Ab
end
section
namespace Go.Ab
end Go.Ab
end
section
namespace Go.Ab
section
variable{T:Tbl}
theorem zrd(m:Nat)(hm:m%2=1)(K:Nat)(hK:2^K*m<4294967296)(hK2:K≤32):∀v:Nat,v≤K →
  Zn T 0 0 (.norm false [3]) l224_0 ⟨[(0,u32 (2^v*m)),(3,.i .i64 (K-v:Nat))],[],2⟩=some (.n,⟨[(3,.i .i64 K)],[],2⟩):=by
 refine zan (fun v:Nat=>⟨[(0,u32 (2^v*m)),(3,.i .i64 (K-v:Nat))],[],2⟩) _ (fun v=>v) _ ?_;intro v hv;cases v with
 | zero=>
  right;constructor<;>simp -implicitDefEqProofs[l224_0,hm]
 | succ v=>
  left;have hle:2^(v+1)*m≤2^K*m:=Y5 _ (Ym (by decide) hv);have e:2^(v+1)*m=2^v*m*2:=by grind
  have hw:IntKind.wrap .i64 (((K-(v+1):Nat):Int)+1)=((K-v:Nat):Int):=by rw[zab _ (by omega)];omega
  refine⟨v,by omega,Y4 v,?_,rfl⟩;rw[e]at hle ⊢;generalize 2^v*m=x at *
  have e1:x*2%2=0:=by omega
  have e3:x<4294967296:=by omega
  simp -implicitDefEqProofs[l224_0,e1,e3,hw]
end
section
variable{T:Tbl}[Z4 T]
theorem zn8(m K:Nat)(hm:m%2=1)(hK:2^K*m<4294967296):Zb T 224 [u32 (2^K*m)]=some (.i .i64 K):=by
 have hK2:K≤32:=by
  rcases Yq 32 K with h | h
  ·have h1:2^32≤2^K:=Ym (by decide) (by omega);have h2:2^K≤2^K*m:=Ycm _ (by omega);omega
  omega
 have h:=zrd (T:=T) m hm K hK hK2 K (Yf _);rw[Ybv]at h;simp only[Yt]at h;have h0:2^K*m≠0:=Yeo (by grind) (by omega);rw[f224 _ rfl,b224];simp -implicitDefEqProofs[h,h0]
end
theorem zn9{P m a S:List UInt32}{i:Nat}(hm:m.length=i)(hi:i<a.length):(P++(m++(a.drop i++S)))[P.length+i]? = some (a[i]'hi):=by
 grind
theorem zoa{P m a S:List UInt32}{i:Nat}(hm:m.length=i)(hi:i<a.length)(w:UInt32):(P++(m++(a.drop i++S))).set (P.length+i) w=P++((m++[w])++(a.drop (i+1)++S)):=by
 rw[Yai _ _ (by omega),Ybn,Yai _ _ (by omega),hm,Ybv,Yk hi,Ybj,Yce];simp
section
variable{T:Tbl}
def Zha(Q:List UInt32)(o n s i:Nat):St:=⟨[(0,.bs (.bor 0) 0 1 o n),(1,.i .i64 s),(5,.i .i64 i)],[(.bor 0,⟨0,.own,1,Za Q⟩)],4⟩
theorem zyk(Q:List UInt32)(o n s i:Nat)(x y:UInt32)(hi:i+1<n)(hn:n≤1000000)(hs:s<32)(hx:Q[o+i]? = some x)(hy:Q[o+(i+1)]? = some y) :
  evX (orc T) T 1 l225_0 (Zha Q o n s i)=some (.n,Zha (Q.set (o+i) (w32 ((x.toNat+y.toNat*4294967296)/2^s%4294967296))) o n s (i+1)):=by
 have h1:(i:Int)<n:=by omega
 have h2:(i:Int)+1<n:=by omega
 have hw:IntKind.wrap .i64 ((i:Int)+1)=((i+1:Nat):Int):=zab _ (by omega);have lx:=zaj x;have ly:=zaj y;have m2:y.toNat*4294967296%18446744073709551616=y.toNat*4294967296:=Yi (by omega);have m3:(y.toNat*4294967296+x.toNat)%18446744073709551616=x.toNat+y.toNat*4294967296:=by grind
 have hmin:min s 64=s:=by omega
 obtain⟨b1,hgx⟩:=Yc.1 hx;unfold Zha;simp -implicitDefEqProofs[l225_0,h1,h2,hw,hy,m2,m3,hmin,b1,hgx,zei]
theorem zyl(Q:List UInt32)(o n s i:Nat)(x:UInt32)(hi:i+1=n)(hn:n≤1000000)(hs:s<32)(hx:Q[o+i]? = some x) :
  evX (orc T) T 1 l225_0 (Zha Q o n s i)=some (.n,Zha (Q.set (o+i) (w32 (x.toNat/2^s%4294967296))) o n s (i+1)):=by
 have h1:(i:Int)<n:=by omega
 have h2:¬ (i:Int)+1<n:=by omega
 have hw:IntKind.wrap .i64 ((i:Int)+1)=((i+1:Nat):Int):=zab _ (by omega);have hmin:min s 64=s:=by omega
 obtain⟨b1,hgx⟩:=Yc.1 hx;unfold Zha;simp -implicitDefEqProofs[l225_0,h1,h2,hw,hmin,b1,hgx,zei]
theorem z2f(P a S:List UInt32)(s:Nat)(hs:s<32)(hl:a.length≤1000000):∀y:Nat×List UInt32,
  (y.1≤a.length∧y.2.length=y.1∧val y.2+4294967296^y.1*(val (a.drop y.1)/2^s)=val a/2^s) →
  ∃r,(∃m:List UInt32,r=(Ex.n,(⟨[(0,.bs (.bor 0) 0 1 P.length a.length)],[(.bor 0,⟨0,.own,1,Za (P++(m++S))⟩)],4⟩:St))∧m.length=a.length∧val m=val a/2^s) ∧
   Zn T 1 0 (.norm false [0]) l225_0 (Zha (P++(y.2++(a.drop y.1++S))) P.length a.length s y.1)=some r:=by
 refine zaq (fun y:Nat×List UInt32=>Zha (P++(y.2++(a.drop y.1++S))) P.length a.length s y.1) _ (fun y=>a.length-y.1) _ ?_
 rintro⟨i,m⟩ ⟨hi,hm,hv⟩
 by_cases h0:i<a.length
 ·left;have hx:=zaj (a[i]'h0);have hd:=Yk h0;have fin:∀y R:Nat,val (a.drop (i+1))=y+4294967296*R→val (m++[w32 (((a[i]'h0).toNat+y*4294967296)/2^s%4294967296)])+4294967296^(i+1)*(val (a.drop (i+1))/2^s)=val a/2^s:=by
   intro y R hR;have hdw:=zm8 (x:=(a[i]'h0).toNat) (y:=y) (R:=R) hs hx
   grind[zak,zai,za3,zah]
  by_cases h1:i+1<a.length
  ·have hd1:=Yk h1;refine⟨(i+1,m++[w32 (((a[i]'h0).toNat+(a[i+1]'h1).toNat*4294967296)/2^s%4294967296)]),⟨h0,by grind,fin _ (val (a.drop (i+1+1))) (by rw[hd1,zak])⟩,by omega,?_⟩
   grind[zyk,zn9,zoa]
  ·have f0:=fin 0 0 (by rw[Ya6 (by omega),za3,Yal]);rw[Yc6,Yx]at f0;refine⟨(i+1,m++[w32 ((a[i]'h0).toNat/2^s%4294967296)]),⟨h0,by grind,f0⟩,by omega,?_⟩
   grind[zyl,zn9,zoa]
 ·right;have:i=a.length:=by omega
  subst this;rw[Yac,za3,Nat.zero_div,Yal,Yx]at hv;refine⟨_,⟨m,rfl,hm,hv⟩,?_,?_⟩<;>simp -implicitDefEqProofs[l225_0,Zha]
theorem zre(P a S:List UInt32)(hl:a.length≤1000000){n:Nat}(hn:n≤a.length)(h0:∀(i:Nat) (x:UInt32),n≤i→a[i]? = some x→x.toNat=0)(h1:∀x:UInt32,0<n→a[n-1]? = some x→x.toNat≠0) :
  ∀k:Nat,(n≤k∧k≤a.length)→Zn T 1 2 (.norm false [0]) l225_1 ⟨[(0,.bs (.bor 0) 0 1 P.length k)],[(.bor 0,⟨0,.own,1,Za (P++(a++S))⟩)],4⟩ =
   some (.n,⟨[(0,.bs (.bor 0) 0 1 P.length n)],[(.bor 0,⟨0,.own,1,Za (P++(a++S))⟩)],4⟩):=by
 refine zan (fun k:Nat=>⟨[(0,.bs (.bor 0) 0 1 P.length k)],[(.bor 0,⟨0,.own,1,Za (P++(a++S))⟩)],4⟩) _ (fun k=>k) _ ?_
 rintro k ⟨hk,hka⟩
 have hget:∀j,j<a.length→(P++(a++S))[P.length+j]? = a[j]? := by
  grind
 by_cases h2:k=0
 ·right;have:n=0:=by omega
  subst this;subst h2;constructor<;>simp -implicitDefEqProofs[l225_1]
 ·have hw:IntKind.wrap .i64 ((k:Int)-1)=((k-1:Nat):Int):=by rw[zab _ (by omega)];omega
  have hg:a[k-1]? = some (a[k-1]'(by omega)):=Ya _;have hq:=hget (k-1) (by omega);rw[hg]at hq;have hpos:0<k:=by omega
  have hlt:k-1<k:=by omega
  by_cases h3:k=n
  ·right;subst h3;have hx:=h1 _ hpos hg;constructor<;>simp -implicitDefEqProofs[l225_1,hpos,hw,hq,hx,hlt]
  ·left;have hx:=h0 (k-1) _ (by omega) hg;refine⟨k-1,⟨by omega,by omega⟩,hlt,?_,rfl⟩;simp -implicitDefEqProofs[l225_1,hpos,hw,hq,hx,hlt]
end
section
variable{T:Tbl}[Z4 T]
theorem zrf(P a S:List UInt32)(s:Nat)(hs:s<32)(hl:a.length≤1000000) :
  ∃S',S'.length+(ofN (val a/2^s)).length=a.length+S.length ∧
   Zbx T 225 [.bs (.bor 0) 0 1 P.length a.length,.i .i64 s] [(.bor 0,⟨0,.own,1,Za (P++(a++S))⟩)] =
    some (.bs (.bor 0) 0 1 P.length (ofN (val a/2^s)).length,[(.bor 0,⟨0,.own,1,Za (P++(ofN (val a/2^s)++S'))⟩)]):=by
 obtain⟨_,⟨m,rfl,hm,hv⟩,hr⟩:=z2f (T:=T) P a S s hs hl (0,[]) ⟨Yl _,rfl,by simp⟩;obtain⟨n,h1,h2,h3,h4⟩:=zfr m;have ht:=zre (T:=T) P m S (by omega) h1 h3 h4 m.length ⟨h1,Yf _⟩;have hlen:(ofN (val a/2^s)).length=n:=by grind
 have e:P++(m++S)=P++(ofN (val a/2^s)++(m.drop n++S)):=by grind[List.take_append_drop]
 refine⟨m.drop n++S,by grind,?_⟩;rw[hlen,←e];rw[hm]at ht;unfold Zha at hr;simp only[Yaz,Yaa,Yt]at hr;rw[f225 _ _ rfl,b225];simp -implicitDefEqProofs[hr,ht]
theorem zrg(Q:List UInt32)(o n j0:Nat)(hn:n≤1000000)(hj:j0<n)(hz:∀j,j<j0→∃x:UInt32,Q[o+j]? = some x∧x.toNat=0)(h1:∃x:UInt32,Q[o+j0]? = some x∧x.toNat≠0) :
  ∀j:Nat,j≤j0→Zn T 1 0 (.norm false [0,4]) l226_0 ⟨[(0,.bs (.bor 0) 0 1 (o+j) (n-j)),(4,.i .i64 (32*j:Nat))],[(.bor 0,⟨0,.own,1,Za Q⟩)],4⟩ =
   some (.n,⟨[(0,.bs (.bor 0) 0 1 (o+j0) (n-j0)),(4,.i .i64 (32*j0:Nat))],[(.bor 0,⟨0,.own,1,Za Q⟩)],4⟩):=by
 refine zan (fun j:Nat=>⟨[(0,.bs (.bor 0) 0 1 (o+j) (n-j)),(4,.i .i64 (32*j:Nat))],[(.bor 0,⟨0,.own,1,Za Q⟩)],4⟩) _ (fun j=>j0-j) _ ?_;intro j hj2;have hpos:0<n-j:=by omega
 by_cases h:j=j0
 ·right;subst h;obtain⟨x,hx,hx0⟩:=h1;constructor<;>simp -implicitDefEqProofs[l226_0,hpos,hx,hx0]
 ·left;obtain⟨x,hx,hx0⟩:=hz j (by omega);have hw:IntKind.wrap .i64 (((32*j:Nat):Int)+32)=((32*(j+1):Nat):Int):=by rw[zab _ (by omega)];omega
  have e1:1<n-j:=by omega
  have e2:n-j-1=n-(j+1):=by omega
  have e3:(1:Int)≤((n-j:Nat):Int):=by omega
  refine⟨j+1,by omega,by omega,?_,rfl⟩;generalize 32*j=c at *
  rw[←Yao,←e2];generalize n-j=k at *
  simp -implicitDefEqProofs[l226_0,hpos,hx,hx0,hw,e1,e3]
theorem zmm:∀(a:List UInt32),val a≠0→∃j,∃h:j<a.length,(∀i (hi:i<j),(a[i]'(by omega)).toNat=0)∧(a[j]'h).toNat≠0∧val a=4294967296^j*val (a.drop j)
 | [],h=>by simp at h
 | x::a,h=>by
  by_cases hx:x.toNat=0
  ·have h2:val a≠0:=by
    intro e;apply h;rw[zak,hx,e]
   obtain⟨j,hj,h3,h4,h5⟩:=zmm a h2;refine⟨j+1,by simpa using hj,?_,by simpa using h4,?_⟩
   ·intro i hi;cases i with
    | zero=>simpa using hx
    | succ i=>simpa using h3 i (by omega)
   ·rw[zak,hx,h5,Yco,Y8,Yah,Yam (4294967296^j) 4294967296,Yab]
  ·exact⟨0,by simp,fun i hi=>by omega,by simpa using hx,by simp⟩
theorem zfn(P a S:List UInt32)(hl:a.length≤100000)(h:val a≠0):∃(P' S':List UInt32) (m k:Nat),val a=2^k*m∧m%2=1∧k≤32*a.length∧(ofN m).length≤a.length∧P'.length+(ofN m).length+S'.length=P.length+a.length+S.length ∧
  Zbx T 226 [.bs (.bor 0) 0 1 P.length a.length] [(.bor 0,⟨0,.own,1,Za (P++(a++S))⟩)] =
   some (.tup [.bs (.bor 0) 0 1 P'.length (ofN m).length,.i .i64 k],[(.bor 0,⟨0,.own,1,Za (P'++(ofN m++S'))⟩)]):=by
 obtain⟨j,hj,hz,hne,hv⟩:=zmm a h;obtain⟨s,c,hsc,hc⟩:=zzd hne;have hx:=zaj (a[j]'hj);have hs:s<32:=by
  rcases Yq s 32 with h1 | h1
  ·omega
  ·have h2:2^32≤2^s:=Ym (by decide) h1;have h3:2^s≤2^s*c:=Ycm _ (by omega);omega
 have hd:=Yk hj
 -- the rest is odd
 have hm:∃m,val (a.drop j)=2^s*m∧m%2=1:=by
  refine⟨c+2^(32-s)*val (a.drop (j+1)),?_,?_⟩
  ·rw[hd,zak,hsc,Yan,←Yab,←Ybe,show s+(32-s)=32 by omega]
  ·have:2^(32-s)=2*2^(31-s):=by rw[←Nat.pow_succ'];grind
   rw[this,Yab];omega
 obtain⟨m,hm1,hm2⟩:=hm;have hdiv:val (a.drop j)/2^s=m:=by grind[Nat.mul_div_cancel_left]
 have hlen:(a.drop j).length=a.length-j:=by simp
 obtain⟨S',hS',hdown⟩:=zrf (T:=T) (P++a.take j) (a.drop j) S s hs (by omega);rw[hdiv]at hS' hdown;have hPl:(P++a.take j).length=P.length+j:=by grind
 have hbox:(P++a.take j)++(a.drop j++S)=P++(a++S):=by
  grind[List.take_append_drop]
 rw[hPl,hlen,hbox]at hdown;have hml:(ofN m).length≤a.length:=by
  have h1:m≤val (a.drop j):=by rw[hm1];exact Yb7 _ (Ya2 (by decide))
  have h2:=zas h1;have h3:=zad (a.drop j);omega
 refine⟨P++a.take j,S',m,32*j+s,?_,hm2,by omega,hml,by omega,?_⟩
 ·rw[hv,hm1,zkw,Ybe,Yab]
 ·have hst:=zrg (T:=T) (P++(a++S)) P.length a.length j (by omega) hj (fun i hi=>⟨_,by grind,hz i hi⟩) ⟨_,by grind,hne⟩ 0 (Yl _);have hzr:=zn8 (T:=T) c s hc (by omega);rw[←hsc]at hzr;have hg:(P++(a++S))[P.length+j]? = some (a[j]'hj):=by grind
  have hpos:0<a.length-j:=by omega
  have hw:IntKind.wrap .i64 (((32*j:Nat):Int)+s)=((32*j+s:Nat):Int):=by rw[zab _ (by omega)];omega
  simp only[Yal,Yx,Yel,Yt]at hst;rw[hPl,f226 _ _ rfl,b226];generalize 32*j=c1 at *
  simp -implicitDefEqProofs[hst,hzr,hg,hpos,hw,hdown]
end
theorem zzx{P m a S b:List UInt32}{i c s d:Nat}(hm:m.length=i)(h0:i<a.length)(hv:val m+val (b.take i)=val (a.take i)+4294967296^i*c)(hs:s<4294967296)(h:s+(atW b i+c)=(a[i]'h0).toNat+4294967296*d) :
  val (m++[w32 s])+val (b.take (i+1))=val (a.take (i+1))+4294967296^(i+1)*d:=by
 grind[zbc,zai,zak,zah,atW]
section
variable{T:Tbl}[Z5 T][Zah T][Z3 T][Zaa T][Z4 T]
def Ziv(Q R:List UInt32)(o n o2 n2 c i:Nat):St:=⟨[(0,.bs (.bor 0) 0 1 o n),(1,.bs (.bor 1) 1 1 o2 n2),(4,u64 c),(5,.i .i64 i)],[(.bor 0,⟨0,.own,1,Za Q⟩),(.bor 1,⟨1,.own,1,Za R⟩)],6⟩
theorem z2g(Q R b:List UInt32)(o n o2 n2 c i:Nat)(x:UInt32)(hi:i<n)(hn:n≤1000000)(hb:b.length≤1000000)(hc:c≤1)(hx:Q[o+i]? = some x)(hR:List.take n2 (List.drop o2 R)=b)(hR2:o2+n2≤R.length) :
  evX (orc T) T 2 l2097_0 (Ziv Q R o n o2 n2 c i)=some (.n,Ziv (Q.set (o+i) (w32 (if x.toNat<atW b i+c then x.toNat+4294967296-(atW b i+c) else x.toNat-(atW b i+c)))) R o n o2 n2 (if x.toNat<atW b i+c then 1 else 0) (i+1)):=by
 have h1:(i:Int)<n:=by omega
 have hw:IntKind.wrap .i64 ((i:Int)+1)=((i+1:Nat):Int):=zab _ (by omega);have cb:=zct (T:=T) b i hb;have lx:=zaj x;have lb:=zhy b i;generalize atW b i=y at *
 have m2:y%18446744073709551616=y:=Yi (by omega);have m3:(y+c)%18446744073709551616=y+c:=Yi (by omega);have m4:(x.toNat+4294967296)%18446744073709551616=x.toNat+4294967296:=Yi (by omega);obtain⟨b1,hgx⟩:=Yc.1 hx;unfold Ziv;by_cases hlt:x.toNat<y+c
 ·have hs:Zdq (x.toNat+4294967296) (y+c)=x.toNat+4294967296-(y+c):=zea (by omega) (by omega);simp -implicitDefEqProofs[l2097_0,h1,hw,cb,m2,m3,m4,b1,hgx,hR,hR2,hlt,hs]
 ·have hs:Zdq x.toNat (y+c)=x.toNat-(y+c):=zea (by omega) (by omega);simp -implicitDefEqProofs[l2097_0,h1,hw,cb,m2,m3,b1,hgx,hR,hR2,hlt,hs]
theorem z2h(P a S R b:List UInt32)(o2 n2:Nat)(hl:a.length≤1000000)(hb:b.length≤1000000)(hR:List.take n2 (List.drop o2 R)=b)(hR2:o2+n2≤R.length):∀y:Nat×Nat×List UInt32,
  (y.1≤a.length∧y.2.1≤1∧y.2.2.length=y.1∧val y.2.2+val (b.take y.1)=val (a.take y.1)+4294967296^y.1*y.2.1) →
  ∃r,(∃(c:Nat) (m:List UInt32),r=(Ex.n,(⟨[],[(.bor 0,⟨0,.own,1,Za (P++(m++S))⟩),(.bor 1,⟨1,.own,1,Za R⟩)],6⟩:St)) ∧
   m.length=a.length∧c≤1∧val m+val (b.take a.length)=val a+4294967296^a.length*c) ∧
   Zn T 2 0 (.norm false []) l2097_0 (Ziv (P++(y.2.2++(a.drop y.1++S))) R P.length a.length o2 n2 y.2.1 y.1)=some r:=by
 refine zaq (fun y:Nat×Nat×List UInt32=>Ziv (P++(y.2.2++(a.drop y.1++S))) R P.length a.length o2 n2 y.2.1 y.1) _ (fun y=>a.length-y.1) _ ?_
 rintro⟨i,c,m⟩ ⟨hi,hc,hm,hv⟩
 simp only at hi hc hm hv;by_cases h0:i<a.length
 ·left;have lx:=zaj (a[i]'h0);have lb:=zhy b i;have hstep:=z2g (T:=T) (P++(m++(a.drop i++S))) R b P.length a.length o2 n2 c i (a[i]'h0) h0 hl hb hc (zn9 hm h0) hR hR2;rw[zoa hm h0]at hstep;by_cases hlt:(a[i]'h0).toNat<atW b i+c
  ·rw[if_pos hlt,if_pos hlt]at hstep;exact⟨(i+1,1,m++[w32 ((a[i]'h0).toNat+4294967296-(atW b i+c))]),⟨h0,Yf _,by grind,by simp only;exact zzx (P:=P) (S:=S) hm h0 hv (by omega) (by omega)⟩,by omega,hstep⟩
  ·rw[if_neg hlt,if_neg hlt]at hstep;exact⟨(i+1,0,m++[w32 ((a[i]'h0).toNat-(atW b i+c))]),⟨h0,Yl _,by grind,by simp only;exact zzx (P:=P) (S:=S) hm h0 hv (by omega) (by omega)⟩,by omega,hstep⟩
 ·right;have:i=a.length:=by omega
  subst this;rw[Yb (Yf a.length)]at hv;refine⟨_,⟨c,m,rfl,hm,hc,hv⟩,?_,?_⟩<;>simp -implicitDefEqProofs[l2097_0,Ziv]
theorem zh0(P a S P2 b S2:List UInt32)(hl:a.length≤1000000)(hb:b.length≤a.length)(hab:val b≤val a) :
  ∃m:List UInt32,m.length=a.length∧val m=val a-val b ∧
   Zbx T 2097 [.bs (.bor 0) 0 1 P.length a.length,.bs (.bor 1) 1 1 P2.length b.length] [(.bor 0,⟨0,.own,1,Za (P++(a++S))⟩),(.bor 1,⟨1,.own,1,Za (P2++(b++S2))⟩)] =
    some (.tup [],[(.bor 0,⟨0,.own,1,Za (P++(m++S))⟩),(.bor 1,⟨1,.own,1,Za (P2++(b++S2))⟩)]):=by
 obtain⟨_,⟨c,m,rfl,hm,hc,hv⟩,hr⟩:=z2h (T:=T) P a S (P2++(b++S2)) b P2.length b.length hl (by omega) (by simp) (by simp) (0,0,[]) ⟨Yl _,Yl _,rfl,by simp⟩;rw[Yb hb]at hv;have hlo:=zax m;have hval:val m=val a-val b:=by
  rcases Yay c with h1 | h1
  all_goals grind
 refine⟨m,hm,hval,?_⟩;unfold Ziv at hr;simp only[Yaz,Yaa,Yt]at hr;rw[za4 Z4.h2097 rfl,b2097];simp -implicitDefEqProofs[hr]
theorem zmn(a:List UInt32):Zb T 229 [.sl (Za (ofN (val a))) .an]=some (.b (decide (val a=1))):=by
 rw[zac Z4.h229 rfl,b229];generalize val a=n;by_cases h0:n=0
 ·subst h0;simp -implicitDefEqProofs
 ·rw[zga h0];by_cases h1:n/4294967296=0
  ·have e:ofN (n/4294967296)=[]:=zar.2 h1;have e2:n%4294967296=n:=Yi (by omega);simp -implicitDefEqProofs[e,Za,zbv,e2]
  ·have h2:¬ ofN (n/4294967296)=[]:=fun e=>h1 (zar.1 e);have h3:¬ n=1:=by omega
   have h4:¬ ((ofN (n/4294967296)).length:Int)+1=1:=by
    have:=Yb6.2 h2;omega
   simp -implicitDefEqProofs[Za,h3,h4]
theorem zje(a g:List UInt32)(ha:a.length≤10000)(hg:g.length≤10000)(h0:val g≠0):Zb T 230 [.sl (Za a) .an,.sl (Za (ofN (val g))) .an]=some (.sl (Za (ofN (val a/val g))) .an):=by
 have ho:=zmn (T:=T) g;have hn:=zbi (T:=T) a (by omega);have hd:=zuw (T:=T) a (ofN (val g)) (by omega) (by have:=zad g;omega) (by rw[zae];omega);rw[zae]at hd;rw[zac Z4.h230 rfl,b230];by_cases h1:val g=1
 ·rw[h1]at ho hd ⊢;simp -implicitDefEqProofs[ho,hn]
 ·simp -implicitDefEqProofs[ho,h1,hd]
theorem zmo(a:List UInt32)(k:Nat)(ha:a.length≤10000)(hk:k≤1000000):Zb T 227 [.sl (Za a) .an,.i .i64 k]=some (.sl (Za (ofN (2^k*val a))) .an):=by
 have hq:(k:Int).tdiv 32=(k:Int)/32:=Ybo (by omega);have hm2:(k:Int).tmod 32=(k:Int)%32:=Yca (by omega);have s0:¬ (k:Int)%32<0:=by omega
 have s1:((k:Int)%32).toNat=k%32:=by omega
 have s2:min (k%32) 32=k%32:=by omega
 have w1:IntKind.wrap .i64 ((k:Int)/32)=((k/32:Nat):Int):=by rw[zab (k/32) (by omega)];omega
 have h2:2^(k%32)<4294967296:=by
  have:=Nat.pow_lt_pow_right (show 1<2 by decide) (Ya1 k (show 0<32 by decide));omega
 have s3:2^(k%32)%4294967296=2^(k%32):=Yi h2;have hmul:=zcl (T:=T) (List.replicate (k/32) 0++a) [w32 (2^(k%32))] (by grind) (by simp);have hv:val (List.replicate (k/32) 0++a)*val [w32 (2^(k%32))]=2^k*val a:=by
  rw[zai,zau,Ycb,zak,za3,zah h2,Yal,Yx,Yah,zkw,Yam,←Yab,←Ybe,show k%32+32*(k/32)=k by omega]
 rw[hv]at hmul;have b2:k/32+a.length≤4294967296:=by omega
 have b3:((k/32:Nat):Int)≤4294967296:=by omega
 have hu:Za [w32 (2^(k%32))]=[[u32 (2^(k%32))]]:=by simp[Za,zah h2]
 rw[hu]at hmul;have ht:List.take (k/32+a.length) (List.replicate (k/32) 0++a)=List.replicate (k/32) 0++a:=Yb (by simp);rw[f227 _ rfl,b227];generalize k/32=q at *
 simp -implicitDefEqProofs[hq,hm2,w1,s0,s1,s2,s3,hmul,b2,b3,ht]
def nmX:BId:=.fld (.loc 12) 22
def nmY:BId:=.fld (.loc 14) 22
def nm2(f:Bool):BId×BId:=if f then (nmX,nmY) else (nmY,nmX)
def Zgc(f:Bool)(P a S P2 b S2:List UInt32)(m n:Nat):St:=
 ⟨[(5,.bs (nm2 f).1 1 1 P.length a.length),(6,.bs (nm2 f).2 2 1 P2.length b.length),(7,.i .i64 m),(8,.i .i64 n)],[((nm2 f).1,⟨1,.own,1,Za (P++(a++S))⟩),((nm2 f).2,⟨2,.own,1,Za (P2++(b++S2))⟩)],4⟩
theorem zagb(f:Bool)(P S P2 S2:List UInt32)(X Y m n:Nat)(hX:(ofN X).length≤10000)(hY:(ofN Y).length≤10000)(h:Y<X) :
  ∃(P' S':List UInt32) (k x:Nat),X-Y=2^k*x∧x%2=1 ∧
   evX (orc T) T 0 l228_0 (Zgc f P (ofN X) S P2 (ofN Y) S2 m n)=some (.n,Zgc f P' (ofN x) S' P2 (ofN Y) S2 m n):=by
 have hc:=zd1 (T:=T) (ofN X) (ofN Y) (by omega) (by omega);rw[zae,zae,show Zde X Y=1 by unfold Zde;omega]at hc;obtain⟨d,hd,hv,hless⟩:=zh0 (T:=T) P (ofN X) S P2 (ofN Y) S2 (by omega) (zas (Yc8 h)) (by rw[zae,zae];omega);rw[zae,zae]at hv;obtain⟨P',S',x,k,e1,e2,e3,e4,e5,hodd⟩:=zfn (T:=T) P d S (by omega) (by omega);refine⟨P',S',k,x,by omega,e2,?_⟩;have t1:List.take (ofN X).length (List.drop P.length (P++(ofN X++S)))=ofN X:=by simp
 have t2:List.take (ofN Y).length (List.drop P2.length (P2++(ofN Y++S2)))=ofN Y:=by simp
 have b1:P.length+(ofN X).length≤(P++(ofN X++S)).length:=by simp
 have b2:P2.length+(ofN Y).length≤(P2++(ofN Y++S2)).length:=by simp
 rw[hd]at hodd;unfold Zgc;cases f<;>simp -implicitDefEqProofs[l228_0,nm2,nmX,nmY,hc,hless,hodd]
theorem zagc(f:Bool)(P S P2 S2:List UInt32)(X Y m n:Nat)(hX:(ofN X).length≤10000)(hY:(ofN Y).length≤10000)(h:X<Y) :
  ∃(P' S':List UInt32) (k x:Nat),Y-X=2^k*x∧x%2=1 ∧
   evX (orc T) T 0 l228_0 (Zgc f P (ofN X) S P2 (ofN Y) S2 m n)=some (.n,Zgc (!f) P' (ofN x) S' P (ofN X) S m n):=by
 have hc:=zd1 (T:=T) (ofN X) (ofN Y) (by omega) (by omega);rw[zae,zae,show Zde X Y=-1 by unfold Zde;omega]at hc;obtain⟨d,hd,hv,hless⟩:=zh0 (T:=T) P2 (ofN Y) S2 P (ofN X) S (by omega) (zas (Yc8 h)) (by rw[zae,zae];omega);rw[zae,zae]at hv;obtain⟨P',S',x,k,e1,e2,e3,e4,e5,hodd⟩:=zfn (T:=T) P2 d S2 (by omega) (by omega);refine⟨P',S',k,x,by omega,e2,?_⟩;have t1:List.take (ofN X).length (List.drop P.length (P++(ofN X++S)))=ofN X:=by simp
 have t2:List.take (ofN Y).length (List.drop P2.length (P2++(ofN Y++S2)))=ofN Y:=by simp
 have b1:P.length+(ofN X).length≤(P++(ofN X++S)).length:=by simp
 have b2:P2.length+(ofN Y).length≤(P2++(ofN Y++S2)).length:=by simp
 rw[hd]at hodd;unfold Zgc;cases f<;>simp -implicitDefEqProofs[l228_0,nm2,nmX,nmY,hc,hless,hodd]
theorem zagd(f:Bool)(P S P2 S2:List UInt32)(X m n:Nat)(hX:(ofN X).length≤10000){G:Option (Ex×St)}
  (hG:G=some (.n,⟨[(5,.bs (nm2 f).1 1 1 P.length (ofN X).length),(7,.i .i64 m),(8,.i .i64 n)],[((nm2 f).1,⟨1,.own,1,Za (P++(ofN X++S))⟩)],3⟩)) :
  Zdk (evX (orc T) T 0 l228_0 (Zgc f P (ofN X) S P2 (ofN X) S2 m n))=true∧Zdj 0 0 (Gh.norm false [5,7,8]) (evX (orc T) T 0 l228_0 (Zgc f P (ofN X) S P2 (ofN X) S2 m n))=G:=by
 subst hG;have hc:=zd1 (T:=T) (ofN X) (ofN X) (by omega) (by omega);rw[zae,show Zde X X=0 by grind[Zde]]at hc;have t1:List.take (ofN X).length (List.drop P.length (P++(ofN X++S)))=ofN X:=by simp
 have t2:List.take (ofN X).length (List.drop P2.length (P2++(ofN X++S2)))=ofN X:=by simp
 have b1:P.length+(ofN X).length≤(P++(ofN X++S)).length:=by simp
 have b2:P2.length+(ofN X).length≤(P2++(ofN X++S2)).length:=by simp
 unfold Zgc;generalize P++(ofN X++S)=Q at *
 generalize P2++(ofN X++S2)=R at *
 generalize ofN X=A at *
 cases f<;>constructor<;>simp -implicitDefEqProofs[l228_0,nm2,nmX,nmY,hc,t1,t2,b1,b2]
structure Gc where
 f:Bool
 P:List UInt32
 S:List UInt32
 P2:List UInt32
 S2:List UInt32
 X:Nat
 Y:Nat
theorem z2i(G m n:Nat):∀y:Gc,((ofN y.X).length≤10000∧(ofN y.Y).length≤10000∧y.X%2=1∧y.Y%2=1∧Nat.gcd y.X y.Y=G) →
  ∃r,(∃(f:Bool) (P S:List UInt32),r=(Ex.n,(⟨[(5,.bs (nm2 f).1 1 1 P.length (ofN G).length),(7,.i .i64 m),(8,.i .i64 n)],[((nm2 f).1,⟨1,.own,1,Za (P++(ofN G++S))⟩)],3⟩:St))) ∧
   Zn T 0 0 (.norm false [5,7,8]) l228_0 (Zgc y.f y.P (ofN y.X) y.S y.P2 (ofN y.Y) y.S2 m n)=some r:=by
 refine zaq (fun y:Gc=>Zgc y.f y.P (ofN y.X) y.S y.P2 (ofN y.Y) y.S2 m n) _ (fun y=>y.X+y.Y) _ ?_
 rintro⟨f,P,S,P2,S2,X,Y⟩ ⟨hX,hY,oX,oY,hG⟩
 rcases Ybr X Y with h | h | h
 ·left;obtain⟨P',S',k,x,e1,e2,he⟩:=zagc (T:=T) f P S P2 S2 X Y m n hX hY h;have hle:x≤Y-X:=by rw[e1];exact Yb7 _ (Ya2 (by decide))
  refine⟨⟨!f,P',S',P,S,x,X⟩,⟨?_,hX,e2,oX,?_⟩,by grind,he⟩
  ·have:=zas (show x≤Y by omega)
   grind
  grind[zp2,Nat.gcd_comm]
 ·subst h;obtain⟨h1,h2⟩:=zagd (T:=T) f P S P2 S2 X m n hX rfl
  grind
 ·left;obtain⟨P',S',k,x,e1,e2,he⟩:=zagb (T:=T) f P S P2 S2 X Y m n hX hY h;have hle:x≤X-Y:=by rw[e1];exact Yb7 _ (Ya2 (by decide))
  refine⟨⟨f,P',S',P2,S2,x,Y⟩,⟨?_,hY,e2,oY,?_⟩,by grind,he⟩
  ·have:=zas (show x≤X by omega)
   grind
  grind[zp2]
theorem zux(a b:List UInt32)(ha:a.length≤10000)(hb:b.length≤10000):Zb T 228 [.sl (Za a) .an,.sl (Za b) .an]=some (.sl (Za (ofN (Nat.gcd (val a) (val b)))) .an):=by
 have n1:=zep (T:=T) a (by omega);have n2:=zep (T:=T) b (by omega);have la:=zad a;have lb:=zad b;rw[f228 _ rfl,b228];generalize val a=X at *
 generalize val b=Y at *
 have tY:List.take (ofN Y).length (ofN Y)=ofN Y:=Yb (Yf _);by_cases hX:X=0
 ·subst hX;rw[Nat.gcd_zero_left];simp -implicitDefEqProofs[n1,n2,tY]
 ·have eX:¬ ofN X=[]:=fun e=>hX (zar.1 e);by_cases hY:Y=0
  ·subst hY;rw[Yd6];simp -implicitDefEqProofs[n1,n2,eX]
  ·have eY:¬ ofN Y=[]:=fun e=>hY (zar.1 e);obtain⟨P1,S1,x,m,e1,e2,e3,e4,e5,o1⟩:=zfn (T:=T) [] (ofN X) [] (by omega) (by rw[zae];omega);obtain⟨P2,S2,y,n,g1,g2,g3,g4,g5,o2⟩:=zfn (T:=T) [] (ofN Y) [] (by omega) (by rw[zae];omega);rw[zae]at e1 g1;obtain⟨_,⟨f,P,S,rfl⟩,hl⟩:=z2i (T:=T) (Nat.gcd x y) m n ⟨true,P1,S1,P2,S2,x,y⟩ ⟨by grind,by grind,e2,g2,rfl⟩;have hG:Nat.gcd X Y=2^(min m n)*Nat.gcd x y:=by rw[e1,g1];exact z3d e2 g2
   have hgl:(ofN (Nat.gcd x y)).length≤10000:=by
    have:=zas (Nat.gcd_le_left y (show 0<x by omega));omega
   have hdb:=zmo (T:=T) (ofN (Nat.gcd x y)) (min m n) hgl (by omega);rw[zae,←hG]at hdb;simp only[Yaz,Ybc,Y1]at o1 o2;unfold Zgc at hl;have t1:List.take (ofN (Nat.gcd x y)).length (List.drop P.length (P++(ofN (Nat.gcd x y)++S)))=ofN (Nat.gcd x y):=by simp
   have b1:P.length+(ofN (Nat.gcd x y)).length≤(P++(ofN (Nat.gcd x y)++S)).length:=by simp
   have hmin:(if n<m then (n:Int) else (m:Int))=((min m n:Nat):Int):=by omega
   simp only[nm2,nmX,nmY,if_true]at hl;cases f<;>simp only[Yz,if_false,if_true]at hl<;>simp -implicitDefEqProofs[n1,n2,eX,eY,o1,o2,hl,hdb,hmin,mm2]
end
end Go.Ab
end
section
namespace Go.Ab
section
variable{T:Tbl}[Zai T]
theorem zjg(n:Bool)(a:List UInt32)(ha:a.length≤1000000):Zb T 39 [wh n a]=some (ez (wv n a)):=by
 have h:=zbi (T:=T) a ha;have hl:(0<(ofN (val a)).length)=(val a≠0):=by
  rw[eq_iff_iff,Yb6];exact not_congr zar
 rw[zac Zai.h39 rfl,b39];unfold wv;rw[z28];cases n<;>simp -implicitDefEqProofs[h,hl]
theorem zuy(n m:Bool)(a b:List UInt32)(ha:a.length≤10000)(hb:b.length≤10000):Zb T 24 [wh n a,wh m b]=some (ez (wv n a+wv m b)):=by
 have hc:=zd1 (T:=T) a b (by omega) (by omega);rw[zac Zai.h24 rfl,b24];have fin:∀(s:Bool) (k:Nat),sg s k=wv n a+wv m b→(ofN k).length≤1000000→Zb T 39 [wh s (ofN k)]=some (ez (wv n a+wv m b)):=by
  intro s k h1 h2;rw[zjg (T:=T) s (ofN k) h2];have:wv s (ofN k)=sg s k:=by unfold wv;rw[zae]
  rw[this,h1]
 have hla:=zad a;have hlb:=zad b;obtain⟨z,hz⟩:∃z,z=wv n a+wv m b:=⟨_,rfl⟩;by_cases h:n=m
 ·subst h;have h1:=zfm (T:=T) a b (by omega) (by omega);have h2:=fin n (val a+val b) (zif _ _ _) (by
   have:=zbo (x:=(val a:Int)) (y:=val b) (L:=10000) (by simpa using Ye hla ha) (by simpa using Ye hlb hb);have e:((val a:Int)+val b).natAbs=val a+val b:=by omega
   rw[e]at this;omega)
  rw[←hz]at h2 ⊢;simp -implicitDefEqProofs[h1,h2]
 ·by_cases hlt:val a<val b
  ·have h1:=zmk (T:=T) b a (by omega) (by omega) (by omega);have h2:=fin m (val b-val a) (zna h hlt) (by have:=zas (Nat.sub_le (val b) (val a));omega);rw[←hz]at h2 ⊢;simp -implicitDefEqProofs[h,hc,zcj,hlt,h1,h2]
  ·have h1:=zmk (T:=T) a b (by omega) (by omega) (by omega);have h2:=fin n (val a-val b) (znb h hlt) (by have:=zas (Nat.sub_le (val a) (val b));omega);rw[←hz]at h2 ⊢;simp -implicitDefEqProofs[h,hc,zcj,hlt,h1,h2]
theorem zrh(l:List UInt8)(hl:l.length≤1000000):Zb T 33 [.s l]=some (.tup (if 0≤Zbc l then [wh false [],.i .i64 (Zbc l+Zcc l)] else [ez (Zy l),.i .i64 (-1)])):=by
 obtain⟨l',hl'⟩:∃l',l'=if l.head? = some 45 then l.tail else l:=⟨_,rfl⟩
 have hl2:l'.length≤1000000:=by
  rw[hl'];split
  ·simp;omega
  ·exact hl
 have h1:=zh1 (T:=T) l' hl2;have hwb:Zp l'≤60:=by
  unfold Zp;split
  ·omega
  ·exact ze0 0 l' (by omega)
 have hdr:∀c r,l=c::r→c=45→l'=r:=by rintro c r rfl rfl;rw[hl'];rfl
 have hdn:l.head?≠some 45→l'=l:=by intro h;rw[hl',if_neg h]
 unfold Zbc Zy;rw[←hl',zac Zai.h33 rfl,b33];have hrd:¬ 0≤Zp l'→Zb T 67 [.s l']=some (.sl (Za (ofN (rd l'))) .an):=by
  intro h0;have h1:Zb1 0 l'<0:=by
   unfold Zp at h0;split at h0
   ·omega
   ·omega
  obtain⟨h2,h3⟩:=zdl 0 l' (Yl _) h1;exact zjf (T:=T) l' (by omega) h3
 have hrl:¬ 0≤Zp l'→(ofN (rd l')).length≤1000000:=by
  intro h0;have h1:Zb1 0 l'<0:=by
   unfold Zp at h0;split at h0
   ·omega
   ·omega
  obtain⟨h2,h3⟩:=zdl 0 l' (Yl _) h1;refine Ye (zag (k:=60) ?_) (by decide);have h4:=zon h3;have h5:10^l'.length≤10^60:=Ym (by decide) (by omega);exact Yp h4 (Ye h5 (by decide))
 have hno:∀n,¬ 0≤Zp l'→Zb T 39 [wh n (ofN (rd l'))]=some (ez (sg n (rd l'))):=by
  intro n h0;rw[zjg (T:=T) n _ (hrl h0)];unfold wv;rw[zae]
 by_cases h45:l.head? = some 45
 ·cases l with
  | nil=>cases h45
  | cons c r=>
   have hc:c=45:=by simpa using h45
   have hr:=hdr c r rfl hc;subst hc;subst hr;have b1:(1:Int)≤(l'.length:Int)+1:=by omega
   have b2:(0:Int)<(l'.length:Int)+1:=by omega
   by_cases h0:0≤Zp l'
   ·have hw:IntKind.wrap .i64 (1+Zp l')=Zp l'+1:=by rw[zab _ (by omega)];omega
    simp -implicitDefEqProofs[h1,h0,hw,b1,b2,Zcc]
   ·have h5:=hrd h0;have h6:=hno true h0;obtain⟨z,hz⟩:∃z,z=sg true (rd l'):=⟨_,rfl⟩;rw[←hz]at h6;simp -implicitDefEqProofs[h1,h0,b1,b2,h5,h6,←hz]
 ·have hr:=hdn h45;rw[hr]at h1 hwb hrd hno ⊢;clear hdr hdn hl' hr hrl hl2;have hw:0≤Zp l→IntKind.wrap .i64 (Zp l)=Zp l:=fun _=>zab _ (by omega);cases l with
  | nil=>
   have e:Zp []=0:=rfl;rw[e]at h1;simp -implicitDefEqProofs[h1,e,Zcc]
  | cons c r=>
   have hc:c≠45:=by simpa using h45
   have hc2:¬ c.toNat=45:=fun h=>hc (by rw[←UInt8.toNat_inj];exact h);by_cases h0:0≤Zp (c::r)
   ·have hw1:=hw h0;simp -implicitDefEqProofs[h1,h0,hw1,hc,hc2,Zcc]
   ·have h5:=hrd h0;have h6:=hno false h0;obtain⟨z,hz⟩:∃z,z=sg false (rd (c::r)):=⟨_,rfl⟩;rw[←hz]at h6;simp -implicitDefEqProofs[h1,h0,hc,hc2,h5,h6,←hz]
end
end Go.Ab
end
section
namespace Go.Ab
theorem z2j(n:Bool)(x y:Nat):sg n (x*y)=sg n x*(y:Int):=by cases n<;>simp[sg,Int.neg_mul]
theorem zzy(q:Rat):val (fz q).2.2≠0:=by
 unfold fz;rw[zae];exact q.den_nz
section
variable{T:Tbl}[Z5 T][Zah T][Z3 T][Zaa T][Z4 T][Zai T][Z8 T]
theorem zby(x:Fz)(hx:fsz x≤10000):Zb T 231 [efz x]=some (efz (fz (fv x))):=by
 obtain⟨n,a,d⟩:=x;have la:=ze1 (n,a,d);have ld:=ze2 (n,a,d);simp only at la ld;have n1:=zbi (T:=T) a (by omega);have n2:=zbi (T:=T) d (by omega);have la2:=zad a;have ld2:=zad d;have ho:=zmn (T:=T) d;have hg:=zux (T:=T) (ofN (val a)) (ofN (val d)) (by omega) (by omega);rw[zae,zae]at hg;show _=some (efz (fz (mkRat (sg n (val a)) (val d))));by_cases hd:val d=0
 ·rw[hd,Yer,zwp,zac Z8.h231 rfl,b231];rw[hd]at n2;simp -implicitDefEqProofs[n1,n2,show Za [1]=[[u32 1]] from rfl]
 ·by_cases ha:val a=0
  ·have e0:mkRat (sg n (val a)) (val d)=0:=by rw[Rat.mkRat_eq_zero hd,ha];cases n<;>rfl
   have ed:¬ ofN (val d)=[]:=fun e=>hd (zar.1 e);rw[e0,zwp,zac Z8.h231 rfl,b231];rw[ha]at n1;simp -implicitDefEqProofs[n1,n2,ed,show Za [1]=[[u32 1]] from rfl]
  ·have ea:¬ ofN (val a)=[]:=fun e=>ha (zar.1 e);have ed:¬ ofN (val d)=[]:=fun e=>hd (zar.1 e);rw[z8j n (val a) hd,show decide (val a≠0)=true by grind,Yeb];have gpos:Nat.gcd (val a) (val d)≠0:=by
    grind
   have glen:(ofN (Nat.gcd (val a) (val d))).length≤10000:=by
    have:=zas (Nat.gcd_le_right (val a) (Ya8 hd));omega
   have o1:=zje (T:=T) (ofN (val a)) (ofN (Nat.gcd (val a) (val d))) (by omega) glen (by rw[zae];omega);have o2:=zje (T:=T) (ofN (val d)) (ofN (Nat.gcd (val a) (val d))) (by omega) glen (by rw[zae];omega);rw[zae,zae]at o1 o2;rw[zac Z8.h231 rfl,b231];by_cases h1:val d=1
   ·rw[h1]at n2 ho ed ⊢;rw[Nat.gcd_one_right,Yeu,Yeu];simp -implicitDefEqProofs[n1,n2,ho,ea,ed]
   ·generalize ofN (val d/Nat.gcd (val a) (val d))=D' at *
    simp -implicitDefEqProofs[n1,n2,ho,ea,ed,h1,hg,o1,o2]
theorem zpp(n:Nat)(h:n<18446744073709551616):Zb T 353 [u64 n]=some (.sl (Za (ofN n)) .an):=by
 have e2:val [w32 n,w32 (n/4294967296)]=n:=by simp[zbv];omega
 have h2:=zbi (T:=T) [w32 n,w32 (n/4294967296)] (by simp);rw[e2]at h2;have h3:n/4294967296%4294967296=n/4294967296:=Yi (by omega);have h4:n/4294967296%18446744073709551616=n/4294967296:=Yi (by omega);rw[zac Z8.h353 rfl,b353];simp -implicitDefEqProofs[h3,h4,zbe _ _ _ (show n/4294967296<4294967296 by omega),h2]
theorem zmp(k:Int)(h1:-9223372036854775808≤k)(h2:k<9223372036854775808):Zb T 232 [.i .i64 k]=some (efz (fz (k:Rat))):=by
 have hu:Za [1]=[[u32 1]]:=rfl;rw[zac Z8.h232 rfl,b232];by_cases hk:k<0
 ·have w1:IntKind.wrap .i64 (k+1)=k+1:=zab _ (by omega);have w2:IntKind.wrap .i64 (-(k+1))=-(k+1):=zab _ (by omega);have w3:(-(k+1)%18446744073709551616).toNat=k.natAbs-1:=by omega
  have c1:=zpp (T:=T) (k.natAbs-1) (by omega);have c2:=zfm (T:=T) (ofN (k.natAbs-1)) [1] (by have:=zag (n:=k.natAbs-1) (k:=2) (by omega);omega) (by decide);have e1:val (ofN (k.natAbs-1))+val [1]=k.natAbs:=by rw[zae];show _+(1+4294967296*0)=_;omega
  rw[e1,hu]at c2;have c3:=zby (T:=T) (true,ofN k.natAbs,[1]) (by
   have:=zag (n:=k.natAbs) (k:=2) (by omega)
   grind[fsz])
  have e2:fv (true,ofN k.natAbs,[1])=(k:Rat):=by
   unfold fv wv;simp only[zae];rw[show val [1]=1 from rfl,show sg true k.natAbs=k by unfold sg;grind];exact Rat.num_divInt_den (k:Rat)
  rw[e2]at c3
  change Zb T 231 [.agg [.b true,.sl (Za (ofN k.natAbs)) .an,.sl (Za [1]) .an]]=_ at c3
  rw[hu]at c3;simp -implicitDefEqProofs[hk,w1,w2,w3,c1,c2,c3]
 ·have w3:(k%18446744073709551616).toNat=k.natAbs:=by omega
  have c1:=zpp (T:=T) k.natAbs (by omega);have c3:=zby (T:=T) (false,ofN k.natAbs,[1]) (by
   have:=zag (n:=k.natAbs) (k:=2) (by omega)
   grind[fsz])
  have e2:fv (false,ofN k.natAbs,[1])=(k:Rat):=by
   unfold fv wv;simp only[zae];rw[show val [1]=1 from rfl,show sg false k.natAbs=k by unfold sg;grind];exact Rat.num_divInt_den (k:Rat)
  rw[e2]at c3
  change Zb T 231 [.agg [.b false,.sl (Za (ofN k.natAbs)) .an,.sl (Za [1]) .an]]=_ at c3
  rw[hu]at c3;simp -implicitDefEqProofs[hk,w3,c1,c3]
theorem zf2:Zb T 232 [.i .i64 0]=some (efz (fz 0)):=zmp 0 (by decide) (by decide)
theorem zri:Zb T 232 [.i .i64 1]=some (efz (fz 1)):=zmp 1 (by decide) (by decide)
theorem zcc(x y:Fz)(hx:fsz x≤10000):Zb T 233 [efz x,efz y]=some (.b (decide (x=y))):=by
 obtain⟨n,a,d⟩:=x;obtain⟨m,b,e⟩:=y;have la:=ze1 (n,a,d);have ld:=ze2 (n,a,d);simp only at la ld;have c1:=zjd (T:=T) a b (by omega);have c2:=zjd (T:=T) d e (by omega);rw[zac Z8.h233 rfl,b233];by_cases h1:n=m
 ·subst h1;by_cases h2:a=b
  ·subst h2;by_cases h3:d=e
   ·simp -implicitDefEqProofs[c1,c2]
   ·simp -implicitDefEqProofs[c1,c2,h3]
  ·simp -implicitDefEqProofs[c1,h2]
 ·simp -implicitDefEqProofs[h1]
theorem zuz(x y:Fz)(hx:fsz x≤1000)(hy:fsz y≤1000)(h1:val x.2.2≠0)(h2:val y.2.2≠0):Zb T 239 [efz x,efz y]=some (efz (fz (fv x+fv y))):=by
 obtain⟨n,a,d⟩:=x;obtain⟨m,b,e⟩:=y;have la:=ze1 (n,a,d);have ld:=ze2 (n,a,d);have lb:=ze1 (m,b,e);have le:=ze2 (m,b,e);simp only at la ld lb le h1 h2;have c1:=zcl (T:=T) a e (by omega) (by omega);have c2:=zcl (T:=T) b d (by omega) (by omega);have c4:=zcl (T:=T) d e (by omega) (by omega);have l1:(ofN (val a*val e)).length≤2000:=by
  have:=zbp (x:=val a) (y:=val e) (L:=1000) (M:=1000) (Ye (zad a) (by omega)) (Ye (zad e) (by omega));omega
 have l2:(ofN (val b*val d)).length≤2000:=by
  have:=zbp (x:=val b) (y:=val d) (L:=1000) (M:=1000) (Ye (zad b) (by omega)) (Ye (zad d) (by omega));omega
 have l4:(ofN (val d*val e)).length≤2000:=by
  have:=zbp (x:=val d) (y:=val e) (L:=1000) (M:=1000) (Ye (zad d) (by omega)) (Ye (zad e) (by omega));omega
 have c3:=zuy (T:=T) n m (ofN (val a*val e)) (ofN (val b*val d)) (by omega) (by omega);have e3:wv n (ofN (val a*val e))+wv m (ofN (val b*val d))=sg n (val a)*(val e:Int)+sg m (val b)*(val d:Int):=by
  grind[wv,zae,z2j]
 have l3:(ofN (sg n (val a)*(val e:Int)+sg m (val b)*(val d:Int)).natAbs).length≤3000:=by
  rw[←e3];have:=zbo (x:=wv n (ofN (val a*val e))) (y:=wv m (ofN (val b*val d))) (L:=2000) (Ye (zcw _ _) l1) (Ye (zcw _ _) l2);omega
 rw[e3]at c3;obtain⟨z,hz⟩:∃z,z=sg n (val a)*(val e:Int)+sg m (val b)*(val d:Int):=⟨_,rfl⟩;rw[←hz]at c3 l3;have c5:=zby (T:=T) (decide (z<0),ofN z.natAbs,ofN (val d*val e)) (by unfold fsz;grind);have e1:fv (decide (z<0),ofN z.natAbs,ofN (val d*val e))=fv (n,a,d)+fv (m,b,e):=by
  unfold fv;simp only[zae,zie];rw[hz];exact(Ydw _ _ h1 h2).symm
 rw[e1]at c5;rw[zac Z8.h239 rfl,b239];simp -implicitDefEqProofs[c1,c2,c3,c4,c5,zhm]
theorem zrj(p q:Rat)(hp:sz p≤1000)(hq:sz q≤1000):Zb T 239 [efz (fz p),efz (fz q)]=some (efz (fz (p+q))):=by
 have:=zuz (T:=T) (fz p) (fz q) hp hq (zzy p) (zzy q)
 simp_all
end
end Go.Ab
end
section
namespace Go.Ab
section
variable{T:Tbl}[Z5 T][Zah T][Z3 T][Zaa T][Z4 T][Zai T][Z8 T][Zas T]
def Zpw(n i:Nat):St:=⟨[(0,.i .i64 n),(3,.bs (.loc 3) 1 3 0 i),(4,.i .i64 i)],[(.loc 3,⟨1,.own,3,Zf (List.replicate i (fz 0))⟩)],3⟩
def Zpx(l:List Fz)(i:Nat):St:=⟨[(0,.sl (Zf l) .an),(3,.bs (.loc 3) 1 3 0 i),(4,.i .i64 i)],[(.loc 3,⟨1,.own,3,Zf (nrm (l.take i))⟩)],3⟩
def Zjd(a b:List Fz)(i:Nat):St:=⟨[(0,.sl (Zf a) .an),(1,.sl (Zf b) .an),(5,.i .i64 i)],[],2⟩
theorem zrl(a b:List Fz)(hab:a.length=b.length)(hl:a.length≤1000)(ha:∀x∈a,fsz x≤10000) :
  Zn T 0 0 (.norm false []) l279_0 (Zjd a b 0)=if a.drop 0=b.drop 0 then some (.n,⟨[],[],2⟩) else some (.r,⟨[(4,.b false)],[],2⟩):=by
 refine zbb (Zjd a b) a.length (fun i=>if a.drop i=b.drop i then some (.n,⟨[],[],2⟩) else some (.r,⟨[(4,.b false)],[],2⟩)) (fun i hi=>?_) ?_
 ·have hga:a[i]? = some (a[i]'hi):=Ya hi;have hib:i<b.length:=by omega
  have hgb:b[i]? = some (b[i]'hib):=Ya hib;have hws:=zbr hi (by omega);have c:=zcc (T:=T) (a[i]'hi) (b[i]'hib) (ha _ (Yaf hi));have hib':(i:Int)<b.length:=by omega
  have key:(a.drop i=b.drop i)↔((a[i]'hi)=(b[i]'hib)∧a.drop (i+1)=b.drop (i+1)):=by
   grind[List.drop_eq_getElem_cons]
  by_cases he:(a[i]'hi)=(b[i]'hib)
  ·left;refine⟨?_,by grind⟩;unfold Zjd;rw[decide_eq_true he]at c;clear he;simp -implicitDefEqProofs[l279_0,hi,hws,c,hib,hib']
  ·right;rw[if_neg (fun h=>he (key.1 h).1)];unfold Zjd;rw[decide_eq_false he]at c;clear he;constructor<;>simp -implicitDefEqProofs[l279_0,hi,c,hib,hib']
 ·rw[Yac,if_pos (by rw[hab,Yac])];unfold Zjd;constructor<;>simp -implicitDefEqProofs[l279_0]
theorem zeb(a b:List Fz)(hl:a.length≤1000)(ha:∀x∈a,fsz x≤10000):Zb T 279 [.sl (Zf a) .an,.sl (Zf b) .an]=some (.b (decide (a=b))):=by
 rw[zac Zas.h279 rfl,b279];by_cases hab:a.length=b.length
 ·have h:=zrl (T:=T) a b hab hl ha;rw[Yaa,Yaa]at h;unfold Zjd at h;simp only[Yt]at h;have hab':(b.length:Int)=a.length:=by omega
  by_cases he:a=b
  ·subst he;rw[if_pos rfl]at h;simp -implicitDefEqProofs[h]
  ·rw[if_neg he]at h;simp -implicitDefEqProofs[hab',h,he]
 ·have he:¬ a=b:=fun h=>hab (by rw[h]);have hab':¬ (a.length:Int)=b.length:=by omega
  simp -implicitDefEqProofs[hab',he]
def Zpy(p q:List Rat)(i:Nat):St:=⟨[(0,.sl (Zf (fzs p)) .an),(1,.sl (Zf (fzs q)) .an),(5,.bs (.loc 5) 1 3 0 i),(6,.i .i64 i)],[(.loc 5,⟨1,.own,3,Zf (fzs ((Zkt p (fzs q)).take i))⟩)],3⟩
def Zpz(p q:List Rat)(i:Nat):St:=⟨[(0,.sl (Zf (fzs p)) .an),(1,.sl (Zf (fzs q)) .an),(4,.ptr (.loc 4) 1 3 0 0),(5,.ptr (.loc 5) 2 3 0 0),(6,.i .i64 i)],
 [(.loc 4,⟨1,.str,3,[Zdy]⟩),(.loc 5,⟨2,.str,3,[Zd7 (fz (Zma (fzs p) (fzs q) i))]⟩)],4⟩
def Zeu(l:List Fz)(many words:Nat):Bool:=decide (many<l.length) || l.any fun x=>decide (words<fsz x)
def Zp0(l:List Fz)(many words:Nat)(i:Nat):St:=⟨[(0,.sl (Zf l) .an),(1,.i .i64 many),(2,.i .i64 words),(7,.i .i64 i)],[],2⟩
end
end Go.Ab
end
section
namespace Go.Ab
theorem z2l{x j:Nat}(h1:2^j≤x)(h2:x<2^(j+1)):Z7 x=j+1:=by
 have hx:x≠0:=by
  have:=Ya2 (n:=j) (show 0<2 by decide);omega
 unfold Z7;rw[if_neg hx,(Nat.log2_eq_iff hx).2 ⟨h1,h2⟩]
def Ziw(n:Int):Nat:=(min (max n 0) 300).toNat
section
variable{T:Tbl}[Z3 T]
theorem zyu(a:List UInt32)(hl:a.length≤1000000):∀y:Nat,(y≤32*a.length∧val a<2^y)→Zn T 0 0 (.norm false [3]) l95_0 (Zg1 a y)=some (.n,⟨[(3,.i .i64 (Z7 (val a)))],[],2⟩):=by
 refine zan (Zg1 a) (fun y=>y≤32*a.length∧val a<2^y) (fun y=>y) (fun _=>_) ?_
 rintro k ⟨hk,hv⟩
 by_cases h0:k=0
 ·right;subst h0;have hz:val a=0:=by
   rw[Yc9]at hv;omega
  have hb:Z7 (val a)=0:=by rw[hz];rfl
  rw[hb];constructor<;>simp -implicitDefEqProofs[l95_0,Zg1]
 ·obtain⟨j,rfl⟩:∃j,k=j+1:=⟨k-1,by omega⟩;have hw:IntKind.wrap .i64 (j:Int)=(j:Int):=zab _ (by omega);have hh:=zml (T:=T) a j hl (by omega);have hp:(0:Int)<(j:Int)+1:=by omega
  by_cases h1:val a/2^j%2=1
  ·right;have hge:2^j≤val a:=by
    rcases Yq (val a) (2^j) with h | h
    ·rw[Ya4 h]at h1;omega
    ·exact h
   rw[z2l hge hv];clear hge hv;constructor<;>simp -implicitDefEqProofs[l95_0,Zg1,hw,hh,hp,h1]
  ·left;refine⟨j,⟨by omega,zm7 hv (by generalize val a/2^j=q at *;omega)⟩,by omega,?_,rfl⟩;clear hv;simp -implicitDefEqProofs[l95_0,Zg1,hw,hh,hp,h1]
theorem zjj(a:List UInt32)(hl:a.length≤1000000):Zb T 95 [.sl (Za a) .an]=some (.i .i64 (Z7 (val a))):=by
 have hr:=zyu (T:=T) a hl (32*a.length) ⟨Yf _,by rw[←zkw];exact zax a⟩;unfold Zg1 at hr;simp at hr;have hw:IntKind.wrap .i64 (32*(a.length:Int))=32*(a.length:Int):=by
  have:=zab (32*a.length) (by omega);simpa using this
 rw[zac Z3.h95 rfl,b95];simp -implicitDefEqProofs[hr,hw]
end
section
variable{T:Tbl}[Zu T][Zz T][Z1 T][Zw T][Zs T][Za0 T][Zg T][Zj T][Z0 T][Zaz T][Zcj T]
def Zov(n i:Int):List Rat:=if 0≤i∧i<Ziw n then (List.replicate (Ziw n) 0).set i.toNat 1 else List.replicate (Ziw n) 0
end
section
variable{T:Tbl}[Z5 T][Zah T][Z3 T][Zaa T][Z4 T][Zai T][Z8 T][Zas T]
def Zow(n:Int)(i:Nat):St:=⟨[(0,.i .i64 n),(3,.bs (.loc 3) 1 3 0 i),(4,.i .i64 i)],[(.loc 3,⟨1,.own,3,Zf (List.replicate i (fz 0))⟩)],3⟩
end
end Go.Ab
end
section
namespace Go.Ab
theorem zt6{α:Type}(l:List α){i:Nat}(h:i<l.length):l.take (i+1)=l.take i++[l[i]'h]:=Ybb h
section
variable{T:Tbl}[Z5 T][Zah T][Z3 T][Zaa T][Z4 T][Zai T][Z8 T][Zas T][Zdv T][Zdw T]
theorem zxx(x:Fz):Zb T 249 [efz x]=some (efz x):=by
 rw[zac Zdv.h249 rfl,b249];simp -implicitDefEqProofs
def Zm7(l:List Fz)(i:Nat):St:=⟨[(0,.sl (Zf l) .an),(3,.bs (.loc 3) 1 3 0 i),(4,.i .i64 i)],[((.loc 3),⟨1,.own,3,Zf (l.take i)⟩)],3⟩
def Zgz(l:List Fz)(i:Nat):St:=⟨[(0,.sl (Zf l) .an),(3,.bs (.loc 3) 1 3 0 i),(4,.i .i64 i)],[((.loc 3),⟨1,.own,3,Zf (l.take i)⟩)],3⟩
theorem zt7(l:List Fz)(hl:l.length≤4294967296) :
  Zn T 0 0 (.norm false [3]) l288_0 (Zgz l 0)=some (.n,⟨[(3,.bs (.loc 3) 1 3 0 (l.length))],[((.loc 3),⟨1,.own,3,Zf (l.take (l.length))⟩)],3⟩):=by
 refine zba (Zgz l) (l.length) _ (fun i hi=>?_) ?_
 ·have hws:=zbr hi (by omega);have hb:i≤4294967295:=by omega
  have hg:l[i]? = some (l[i]'hi):=Ya hi;have hn:=zxx (T:=T) (l[i]'hi);have e:=zt6 l hi;have hml:(l.take i).length=i:=by simp;omega
  have hp:=zh5 hml (l[i]'hi);unfold Zgz;rw[e];clear e;generalize l.take i=M at *
  simp -implicitDefEqProofs[l288_0,hi,hws,hb,hp,hml,hg,hn]
 ·unfold Zgz;rw[Yb (Yf _)];constructor<;>simp -implicitDefEqProofs[l288_0]
theorem zgp(l:List Fz)(hl:l.length≤4294967296):Zb T 288 [.sl (Zf l) .an]=some (.sl (Zf l) .an):=by
 have h:=zt7 (T:=T) l hl;unfold Zgz at h;rw[Yd8,Yb (Yf _)]at h;simp only[zaz,Yt]at h;have ht:List.take l.length l=l:=Yb (Yf _);rw[zac Zdw.h288 rfl,b288];simp -implicitDefEqProofs[h,ht]
end
end Go.Ab
end
section
namespace Go.Ab
def Zle:List (List Fz)→Nat
 | []=>0
 | r::_=>r.length
def Zm3(m:List (List Fz)):Bool:=m.all fun r=>decide (r.length=Zle m)
def Zl2(m:List (List Fz))(j:Nat):List Fz:=m.map fun r=>r.getD j (false,[],[])
def Zl3(m:List (List Fz))(k:Nat):List (List Fz):=(List.range k).map fun j=>nrm (Zl2 m j)
def scM(r:List Fz)(m:List (List Fz)):List (List Fz):=List.zipWith (fun x row=>scl (fv x) row) r m
def Zm4:List (List Fz)→List Rat
 | []=>[]
 | r::m=>m.foldl Zkt (r.map fv)
def Zl4(r:List Fz)(m:List (List Fz)):List Rat:=Zm4 (scM r m)
def Zlf(m:List (List Fz))(c:List Fz):List Rat:=m.map fun r=>Zlh r c
section
variable{T:Tbl}[Zu T][Zz T][Z1 T][Zw T][Zs T][Za0 T][Zg T][Zj T][Z0 T][Zaz T][Zcj T][Zhl T]
def Zn4(m:List (List Fz))(i:Nat):St:=⟨[(0,.sl (Z2 m) .an),(5,.sl (Z2 m) .an),(6,.i .i64 m.length),(7,.i .i64 i)],[],2⟩
def Zn5(a b:List (List Fz))(i:Nat):St:=⟨[(1,.sl (Z2 b) .an),(12,.sl (Z2 a) .an),(13,.i .i64 a.length),(14,.i .i64 i)],[],2⟩
def idQ(k:Nat)(i:Nat):List (List Fz):=(List.range i).map fun j=>fzs ((List.replicate k 0).set j 1)
def Zn6(k:Nat)(i:Nat):St:=⟨[(0,.i .i64 k),(3,.bs (.loc 3) 1 1 0 i),(8,.i .i64 k),(9,.i .i64 i)],[((.loc 3),⟨1,.own,1,Z2 (idQ k i)⟩)],3⟩
def Zn7(m R:List (List Fz))(k j:Nat)(i:Nat):St:=⟨[(0,.sl (Z2 m) .an),(3,.bs (.loc 3) 1 1 0 j),(4,.i .i64 j),(5,.bs (.loc 5) 2 3 0 i),(12,.i .i64 k),(13,.i .i64 j),(16,.sl (Z2 m) .an),(17,.i .i64 m.length),(18,.i .i64 i)],[(.loc 3,⟨1,.own,1,Z2 R⟩),((.loc 5),⟨2,.own,3,Zf (nrm (Zl2 (m.take i) j))⟩)],4⟩
def Zmw(m:List (List Fz))(k:Nat)(i:Nat):St:=⟨[(0,.sl (Z2 m) .an),(3,.bs (.loc 3) 1 1 0 i),(12,.i .i64 k),(13,.i .i64 i)],[((.loc 3),⟨1,.own,1,Z2 (Zl3 m i)⟩)],3⟩
end
end Go.Ab
end
section
namespace Go.Ab
section
variable{T:Tbl}[Zu T][Zz T][Z1 T][Zw T][Zs T][Za0 T][Zg T][Zj T][Z0 T][Zaz T][Zcj T][Zhl T]
def Zn8(r:List Fz)(m:List (List Fz))(i:Nat):St:=⟨[(0,.sl (Zf r) .an),(6,.bs (.loc 6) 1 1 0 i),(19,.sl (Z2 m) .an),(20,.i .i64 m.length),(21,.i .i64 i)],[((.loc 6),⟨1,.own,1,Z2 (scM (r.take i) (m.take i))⟩)],3⟩
def Zn9(m:List (List Fz))(c:List Fz)(i:Nat):St:=⟨[(1,.sl (Zf c) .an),(6,.bs (.loc 6) 1 3 0 i),(21,.sl (Z2 m) .an),(22,.i .i64 m.length),(23,.i .i64 i)],[((.loc 6),⟨1,.own,3,Zf (fzs (Zlf (m.take i) c))⟩)],3⟩
def Zm5(a b:List (List Fz)):List (List Fz):=a.map fun r=>fzs (Zl4 r b)
def Zoa(a m:List (List Fz))(i:Nat):St:=⟨[(1,.sl (Z2 m) .an),(6,.bs (.loc 6) 1 1 0 i),(26,.sl (Z2 a) .an),(27,.i .i64 a.length),(28,.i .i64 i)],[((.loc 6),⟨1,.own,1,Z2 (Zm5 (a.take i) m)⟩)],3⟩
def Zm6(a b:List (List Fz)):List (List Fz):=List.zipWith (fun r s=>fzs (Zkt (r.map fv) s)) a b
def Zob(a m:List (List Fz))(i:Nat):St:=⟨[(1,.sl (Z2 m) .an),(6,.bs (.loc 6) 1 1 0 i),(33,.sl (Z2 a) .an),(34,.i .i64 a.length),(35,.i .i64 i)],[((.loc 6),⟨1,.own,1,Z2 (Zm6 (a.take i) (m.take i))⟩)],3⟩
end
end Go.Ab
end
section
namespace Go.Ab
def Zmm:List Rat→List Rat→Rat
 | x::a,y::b=>x*y+Zmm a b
 | _,_=>0
def Znw(m:List (List Fz)):List (List Rat):=m.map fun r=>r.map fv
def fzM(L:List (List Rat)):List (List Fz):=L.map fzs
def Zkh:List (List Rat)→Nat
 | []=>0
 | r::_=>r.length
def Znx(L:List (List Rat)):Bool:=L.all fun r=>decide (r.length=Zkh L)
def Zll(L:List (List Rat))(j:Nat):List Rat:=L.map fun p=>p.getD j 0
def Zmn(L:List (List Rat)):List (List Rat):=(List.range (Zkh L)).map (Zll L)
def Zki(L:List (List Rat))(c:List Rat):List Rat:=L.map fun p=>Zmm p c
def Zo7(r:List Rat)(L:List (List Rat)):List Rat:=Zki (Zmn L) r
end Go.Ab
end
section
namespace Go.Ab
def Zlz(q:Rat):Rat:=if q<0 then -q else q
end Go.Ab
end
section
namespace Go.Ab
def Zlq(c:Rat)(l:List Rat):List Rat:=l.map fun x=>c*x
def Zms(a b:List Rat):List Rat:=List.zipWith (· + ·) a b
def Zkw(b x:Rat):Rat:=if b<Zlz x then Zlz x else b
def Zk8(l:List Rat):Rat:=l.foldl Zkw 0
def Zn1:List (Rat×List Rat)→List Rat→List Rat
 | [],acc=>acc
 | p::l,acc=>Zn1 l (Zms acc (Zlq p.1 p.2))
end Go.Ab
end
section
namespace Go.Ab
def sqC:List UInt32→Nat
 | []=>0
 | x::r=>4294967296*(x.toNat*val r)+4294967296*4294967296*sqC r
def sqD:List UInt32→Nat
 | []=>0
 | x::r=>x.toNat*x.toNat+4294967296*4294967296*sqD r
theorem zzv:∀a:List UInt32,2*sqC a+sqD a=val a*val a
 | []=>rfl
 | x::r=>by
  have ih:=zzv r;simp only[sqC,sqD,zak];generalize 4294967296=p at *
  grind
theorem zmf(i:Nat):4294967296^(2*i+2)=4294967296^(2*i)*(4294967296*4294967296):=by
 rw[Ybe]
theorem zmg{x L:Nat}(h:(ofN x).length≤L):(ofN (x*2^1)).length≤L+1:=by
 refine zag ?_;have h1:=zax (ofN x);rw[zae]at h1;have h2:4294967296^(ofN x).length≤4294967296^L:=Ym (by decide) h;rw[Y8];omega
section
variable{T:Tbl}[Zab T][Zu T][Zz T][Z1 T][Zby T]
theorem zgq(a:List UInt32)(ha:a.length≤1000000):Zb T 356 [.sl (Za a) .an]=some (.i .i64 (Z7 (val a))):=by
 have h1:=zbf (T:=T) a (by omega);have hl:=zad a;have hv:val (ofN (val a))=val a:=zae _;rw[zac Zby.h356 rfl,b356];by_cases h0:val a=0
 ·have e:ofN (val a)=[]:=zar.2 h0;have eb:Z7 (val a)=0:=by rw[h0];rfl
  rw[e]at h1;rw[eb];simp -implicitDefEqProofs[h1]
 ·have hne:ofN (val a)≠[]:=fun h=>h0 (zar.1 h);obtain⟨B,x,hB⟩:∃B x,ofN (val a)=B++[x]:=⟨_,_,(Ydp hne).symm⟩;have hx0:x.toNat≠0:=by
   intro hx;have e1:val (ofN (val a))=val B:=by
    rw[hB,zai];simp[hx]
   have e2:ofN (val B)=ofN (val a):=by rw[←e1,zae]
   have e3:=zad B;rw[e2,hB]at e3;simp at e3;omega
  have hlog:Z7 (val a)=32*B.length+Z7 x.toNat:=by
   have hdiv:val a/2^(32*B.length)=x.toNat:=by
    have e1:val a=val B+4294967296^B.length*x.toNat:=by
     rw[←hv,hB,zai];simp
    have e2:2^(32*B.length)=4294967296^B.length:=by
     rw[Ydy]
    have e3:=zax B;rw[e2,e1,Yby _ _ (by omega),Ya4 e3,Yah]
   have:=zjc (n:=val a) (s:=32*B.length) (by rw[hdiv];exact hx0);rw[hdiv]at this;exact this
  have hbl:B.length+1≤1000000:=by
   have:=congrArg List.length hB;simp at this;omega
  have hL:=zpl (T:=T) x;have hb32:Z7 x.toNat≤32:=by
   have hx:=zaj x;unfold Z7;split
   ·omega
   ·have:=(Ydx (n:=x.toNat) (k:=32) (by assumption)).2 (by omega);omega
  rw[hB]at h1;rw[hlog];have w1:IntKind.wrap .i64 ((B.length:Int)+1-1)=(B.length:Int):=by
   rw[Int.add_sub_cancel];exact zab _ (by omega)
  have w2:IntKind.wrap .i64 (32*(B.length:Int))=32*(B.length:Int):=zab _ (by omega);have w3:IntKind.wrap .i64 (32*(B.length:Int)+(Z7 x.toNat:Int))=32*(B.length:Int)+(Z7 x.toNat:Int):=zab _ (by omega);have w4:IntKind.wrap .i64 (B.length:Int)=B.length:=zab _ (by omega);have n1:¬ (B.length:Int)+1=0:=by omega
  have n2:(B.length:Int)<(B.length:Int)+1:=by omega
  clear hlog hB hne hb32;simp -implicitDefEqProofs[h1,hL,w1,w2,w3,w4,n1,n2]
def Zi1(a X:List UInt32)(i:Nat):St:=
 ⟨[(0,.sl (Za a) .an),(3,.bs (.loc 14) 1 1 0 (2*a.length+1)),(15,.sl (Za a) .an),(16,.i .i64 a.length),(17,.i .i64 i)],[(.loc 14,⟨1,.own,1,Za (X++List.replicate (a.length+1-i) 0)⟩)],3⟩
theorem zyb(a:List UInt32)(ha:a.length≤100000):∀y:Nat×List UInt32,
  (y.1≤a.length∧y.2.length=a.length+y.1∧val y.2+4294967296^(2*y.1)*sqC (a.drop y.1)=sqC a) →
  ∃r,(∃out:List UInt32,r=(Ex.n,(⟨[(0,.sl (Za a) .an),(3,.bs (.loc 14) 1 1 0 (2*a.length+1))],[(.loc 14,⟨1,.own,1,Za out⟩)],3⟩:St))∧out.length=2*a.length+1∧val out=sqC a) ∧
   Zn T 0 0 (.norm false [0,3]) l357_0 (Zi1 a y.2 y.1)=some r:=by
 refine zaq _ _ (fun y=>a.length-y.1) _ ?_
 rintro⟨i,X⟩ ⟨hi,hX,hv⟩
 simp only at hi hX hv;by_cases h0:i<a.length
 ·left;have hag:a[i]? = some (a[i]'h0):=Ya h0;have hw:IntKind.wrap .i64 ((i:Int)+1)=((i+1:Nat):Int):=zab _ (by omega);have hw2:IntKind.wrap .i64 (2*(i:Int))=2*(i:Int):=zab _ (by omega);have hw3:IntKind.wrap .i64 (2*(i:Int)+1)=((2*i+1:Nat):Int):=zab _ (by omega);have hdl:(a.drop (i+1)).length=a.length-(i+1):=Yv;obtain⟨m,hm1,hm2,hc⟩:=zkj (T:=T) (X.take (2*i+1)) (X.drop (2*i+1)++List.replicate (a.length+1-i) 0) (a.drop (i+1)) (a[i]'h0).toNat 0 (zaj _) (by decide) (by simp;omega) (by simp;omega);have hi21:2*i+1≤X.length:=by omega
  have e1:X.take (2*i+1)++(X.drop (2*i+1)++List.replicate (a.length+1-i) 0)=X++List.replicate (a.length+1-i) 0:=by rw[←Ybg,Yaq]
  have e2:(X.take (2*i+1)).length=2*i+1:=by simp;omega
  have e3:(X.drop (2*i+1)++List.replicate (a.length+1-i) 0).length=2*a.length+1-(2*i+1):=by simp;omega
  have e4:2*i+1+(2*a.length+1-(2*i+1))=2*a.length+1:=by omega
  have e5:(X.drop (2*i+1)++List.replicate (a.length+1-i) 0).drop ((a.drop (i+1)).length+1)=List.replicate (a.length+1-(i+1)) 0:=by
   rw[Yeg,Ya6 (by simp;omega),Ydz];simp only[Yaz,Yv];congr 1;omega
  have e6:(X.drop (2*i+1)++List.replicate (a.length+1-i) 0).take (a.drop (i+1)).length=X.drop (2*i+1):=by
   rw[Ybw (by simp;omega),Yb (by simp;omega)]
  rw[e1,e2,e3,e4,e5]at hc;rw[e6]at hm2;simp only[←Ybg]at hc;refine⟨(i+1,X.take (2*i+1)++m),⟨h0,by simp only[Yu,e2,hm1];omega,?_⟩,by simp only;omega,?_⟩
  ·simp only;have e7:=zai (X.take (2*i+1)) (X.drop (2*i+1));rw[Yaq,e2]at e7;rw[Yk h0]at hv;simp only[sqC]at hv;rw[zai,e2,hm2];have p1:4294967296^(2*i+1)=4294967296^(2*i)*4294967296:=Y8 ..;have p2:4294967296^(2*(i+1))=4294967296^(2*i)*(4294967296*4294967296):=zmf i;rw[p1]at e7 ⊢;rw[p2,←hv,e7];generalize 4294967296^(2*i)=q;generalize val (a.drop (i+1))=v;generalize sqC (a.drop (i+1))=w;generalize (4294967296:Nat)=p
   grind
  ·have hle:(i:Int)+1≤a.length:=by omega
   have hle2:i+1≤a.length:=by omega
   have hm3:((2*i+1:Nat):Int)=2*(i:Int)+1:=by omega
   rw[hm3]at hc hw3;clear hv hm2 e1 e5 e6;simp -implicitDefEqProofs[l357_0,Zi1,h0,hw,hw2,hw3,hc,hag,hle,hle2]
 ·right;have:i=a.length:=by omega
  subst this;refine⟨_,⟨X++List.replicate (a.length+1-a.length) 0,rfl,by simp;omega,by rw[zai,zau];simp[sqC]at hv;simp[hv]⟩,?_,?_⟩<;>simp -implicitDefEqProofs[l357_0,Zi1]
def Zi2(a X:List UInt32)(U:List (List AV))(i:Nat):St:=
 ⟨[(6,.sl U .an),(7,.bs (.loc 38) 1 1 0 (2*a.length)),(39,.sl (Za a) .an),(40,.i .i64 a.length),(41,.i .i64 i)],[(.loc 38,⟨1,.own,1,Za (X++List.replicate (2*a.length-2*i) 0)⟩)],3⟩
theorem zyc(a:List UInt32)(U:List (List AV))(hU:wkL U=U)(ha:a.length≤100000):∀y:Nat×List UInt32,
  (y.1≤a.length∧y.2.length=2*y.1∧val y.2+4294967296^(2*y.1)*sqD (a.drop y.1)=sqD a) →
  ∃r,(∃out:List UInt32,r=(Ex.n,(⟨[(6,.sl U .an),(7,.bs (.loc 38) 1 1 0 (2*a.length))],[(.loc 38,⟨1,.own,1,Za out⟩)],3⟩:St))∧out.length=2*a.length∧val out=sqD a) ∧
   Zn T 0 2 (.norm false [6,7]) l357_1 (Zi2 a y.2 U y.1)=some r:=by
 refine zaq _ _ (fun y=>a.length-y.1) _ ?_
 rintro⟨i,X⟩ ⟨hi,hX,hv⟩
 simp only at hi hX hv;by_cases h0:i<a.length
 ·left;have hag:a[i]? = some (a[i]'h0):=Ya h0;have hm:=zpj (T:=T) (a[i]'h0) (a[i]'h0) 0 0;obtain⟨hi_,hhi⟩:∃h:UInt32,h=w32 (((a[i]'h0).toNat*(a[i]'h0).toNat+(0:UInt32).toNat+(0:UInt32).toNat)/4294967296):=⟨_,rfl⟩;obtain⟨lo_,hlo⟩:∃h:UInt32,h=w32 ((a[i]'h0).toNat*(a[i]'h0).toNat+(0:UInt32).toNat+(0:UInt32).toNat):=⟨_,rfl⟩;rw[←hhi,←hlo]at hm;have hx:=zaj (a[i]'h0);have hval:lo_.toNat+4294967296*hi_.toNat=(a[i]'h0).toNat*(a[i]'h0).toNat:=by
   have hlt:=zgh hx hx;have e0:(0:UInt32).toNat=0:=rfl;rw[hlo,hhi,zbh,zbh,e0];simp only[Yx];generalize (a[i]'h0).toNat*(a[i]'h0).toNat=q at *
   omega
  have hw:IntKind.wrap .i64 ((i:Int)+1)=((i+1:Nat):Int):=zab _ (by omega);have hw2:IntKind.wrap .i64 (2*(i:Int))=2*(i:Int):=zab _ (by omega);have hw3:IntKind.wrap .i64 (2*(i:Int)+1)=2*(i:Int)+1:=zab _ (by omega);have e1:(X++List.replicate (2*a.length-2*i) (0:UInt32))=X++0::0::List.replicate (2*a.length-2*(i+1)) 0:=by
   rw[show 2*a.length-2*i=(2*a.length-2*(i+1))+1+1 by omega,Ybk,Ybk]
  have e2:((X++0::0::List.replicate (2*a.length-2*(i+1)) (0:UInt32)).set (2*i+1) hi_).set (2*i) lo_=X++[lo_,hi_]++List.replicate (2*a.length-2*(i+1)) 0:=by
   rw[Yai _ _ (by omega),Yai _ _ (by omega),hX,Ybv,show 2*i+1-2*i=1 by omega];simp
  refine⟨(i+1,X++[lo_,hi_]),⟨h0,by simp;omega,?_⟩,by simp only;omega,?_⟩
  ·simp only;rw[Yk h0]at hv;simp only[sqD]at hv;rw[zai,hX];simp only[zak,za3,Yal,Yx];have p2:4294967296^(2*(i+1))=4294967296^(2*i)*(4294967296*4294967296):=zmf i;rw[p2,←hv,←hval];generalize 4294967296^(2*i)=q;generalize sqD (a.drop (i+1))=w;generalize (4294967296:Nat)=p
   grind
  ·unfold Zi2;simp only;rw[e1,←e2];have hl:(X++0::0::List.replicate (2*a.length-2*(i+1)) (0:UInt32)).length=2*a.length:=by simp;omega
   clear e1 e2 hv hval hhi hlo;generalize (X++0::0::List.replicate (2*a.length-2*(i+1)) (0:UInt32))=B at *
   have s1:(Za B).set (2*i+1) [u32 hi_.toNat]=Za (B.set (2*i+1) hi_):=by simp[Za,Yen]
   have s2:(Za (B.set (2*i+1) hi_)).set (2*i) [u32 lo_.toNat]=Za ((B.set (2*i+1) hi_).set (2*i) lo_):=by simp[Za,Yen]
   have b1:2*i+1<2*a.length:=by omega
   have b2:2*i<2*a.length:=by omega
   have b3:2*(i:Int)+1<2*(a.length:Int):=by omega
   have b4:2*(i:Int)<2*(a.length:Int):=by omega
   have b5:(0:Int)≤2*(i:Int)+1:=by omega
   have b6:(0:Int)≤2*(i:Int):=by omega
   have b7:(2*(i:Int)+1).toNat=2*i+1:=by omega
   have b8:(2*(i:Int)).toNat=2*i:=by omega
   have g1:B[2*i+1]? = some (B[2*i+1]'(by omega)):=Ya (by omega);have z0:(0:UInt32).toNat=0:=rfl;rw[z0]at hm;have hl2:((B.set (2*i+1) hi_)).length=2*a.length:=by simp[hl]
   simp -implicitDefEqProofs[l357_1,h0,hw,hw2,hw3,hag,hm,hl,s1,s2,b1,b2,b3,b4,b5,b6,b7,b8,hl2,hU]
 ·right;have:i=a.length:=by omega
  subst this;refine⟨_,⟨X++List.replicate (2*a.length-2*a.length) 0,rfl,by simp;omega,by rw[zai,zau];simp[sqD]at hv;simp[hv]⟩,?_,?_⟩<;>simp -implicitDefEqProofs[l357_1,Zi2,hU]
theorem zn7(a:List UInt32)(ha:a.length≤4000):Zb T 357 [.sl (Za a) .an]=some (.sl (Za (ofN (val a*val a))) .an):=by
 obtain⟨_,⟨out,rfl,ho,hv⟩,hr⟩:=zyb (T:=T) a (by omega) (0,List.replicate a.length 0) ⟨Yl _,by simp,by simp[zau]⟩;unfold Zi1 at hr;have hup:=z22 (T:=T) out 1 (by decide) (by omega);rw[Yae]at hup;have hupl:(ofN (val out*2^1)).length≤10000:=by
  have h1:=zad out;have h2:=zmg (x:=val out) (L:=out.length) (by omega);omega
 obtain⟨_,⟨dg,rfl,hd,hdv⟩,hr2⟩:=zyc (T:=T) a (Za (ofN (val out*2^1))) (by simp) (by omega) (0,[]) ⟨Yl _,rfl,by simp⟩;unfold Zi2 at hr2;have hn:=zuj (T:=T) [ofN (val out*2^1),dg] (by simp) (by
  intro x hx;simp only[Yw,Ycr,or_false]at hx;rcases hx with rfl | rfl<;>omega)
 have e1:lls [ofN (val out*2^1),dg]=[[.sl (Za (ofN (val out*2^1))) .an],[.sl (Za dg) .an]]:=rfl;have e2:Zdx [ofN (val out*2^1),dg]=val a*val a:=by
  simp only[Zdx,Y2,Yc7,zae,Yc0,List.sum_nil,hv,hdv];have:=zzv a;omega
 rw[e1,e2]at hn;simp only[Yt,Yaz,Yel,Yal]at hr hr2;have e3:List.replicate a.length (0:UInt32)++List.replicate (a.length+1) 0=List.replicate (2*a.length+1) 0:=by
  rw[Ycl];congr 1;omega
 rw[e3]at hr;have w1:IntKind.wrap .i64 (2*(a.length:Int))=2*(a.length:Int):=zab _ (by omega);have w2:IntKind.wrap .i64 (2*(a.length:Int)+1)=2*(a.length:Int)+1:=zab _ (by omega);have n1:(0:Int)≤2*(a.length:Int)+1:=by omega
 have n2:2*(a.length:Int)+1≤4294967296:=by omega
 have n3:(0:Int)≤2*(a.length:Int):=by omega
 have n4:2*(a.length:Int)≤4294967296:=by omega
 have n5:(2*(a.length:Int)+1).toNat=2*a.length+1:=by omega
 have n6:(2*(a.length:Int)).toNat=2*a.length:=by omega
 have t1:List.take (2*a.length+1) out=out:=Yb (by omega);have t2:List.take (2*a.length) dg=dg:=Yb (by omega);have o1:out.length=2*a.length+1:=ho;rw[zac Zby.h357 rfl,b357];clear e1 e2 e3 hv hdv hupl;simp -implicitDefEqProofs[w1,w2,n1,n2,n3,n4,n5,n6,hr,ho,t1,hup,hr2,hd,t2,hn]
end
theorem z11(e m:Nat)(hm:m≤63):Zad .shr (.i .i64 (e:Int)) (.i .i64 (m:Int))=some (.i .i64 ((e/2^m:Nat):Int)):=by
 have h1:¬ (m:Int)<0:=by omega
 have h2:min m 64=m:=by omega
 simp only[Zad,IntKind.bits,h1,if_false,Ycj,h2];congr 2;rw[Yd1 _ (Int.le_of_lt (Int.pow_pos (by decide)))]
 norm_cast
theorem z12(k:Nat)(hk:k<9223372036854775808):Zad .and (.i .i64 (k:Int)) (.i .i64 1)=some (.i .i64 ((k%2:Nat):Int)):=by
 show some (AV.i .i64 (IntKind.wrap .i64 ((BitVec.ofInt 64 (k:Int) &&& BitVec.ofInt 64 1).toNat:Int)))=_;have h1:(BitVec.ofInt 64 (k:Int)).toNat=k:=by
  rw[BitVec.ofInt_natCast,BitVec.toNat_ofNat];omega
 have h2:(BitVec.ofInt 64 1).toNat=1:=rfl;rw[BitVec.toNat_and,h1,h2,Nat.and_one_is_mod,zab _ (by omega)]
theorem zul(e m:Nat):e/2^m=2*(e/2^(m+1))+e/2^m%2:=by
 rw[Y8,←Ybi];omega
theorem zpn(x e:Nat)(h:e*Z7 x≤65536):(ofN (x^e)).length≤2048:=by
 by_cases h1:x^e=0
 ·rw[h1];have:ofN 0=[]:=zar.2 rfl;rw[this]
  decide
 by_cases hx:x=0
 ·subst hx;cases e with
  | zero=>exact Ye (zag (k:=1) (by decide)) (by decide)
  | succ e=>simp at h1
 ·refine zag ?_;generalize hk:(2048:Nat)=k;have h2:x<2^Z7 x:=by
   unfold Z7;rw[if_neg hx];exact Yc4
  have h5:∀m,(2:Nat)^(32*m)=4294967296^m:=fun m=>by rw[Ydy]
  cases e with
  | zero=>exact Nat.one_lt_pow (by omega) (by decide)
  | succ e=>
   have h3:x^(e+1)<(2^Z7 x)^(e+1):=Nat.pow_lt_pow_left h2 (by omega);rw[←Ydy,Yam]at h3;refine Yp h3 ?_;rw[←h5];exact Ym (by decide) (by omega)
theorem zum{e:Nat}(h:e<9223372036854775808):Z7 e≤63:=by
 unfold Z7;split
 ·omega
 ·next h0=>
  have:=(Ydx (n:=e) (k:=63) h0).2 h;omega
theorem zyd(e:Nat):e/2^Z7 e=0:=by
 unfold Z7;split
 ·next h=>simp[h]
 ·exact Ya4 Yc4
section
variable{T:Tbl}[Zab T][Zu T][Zz T][Z1 T][Zby T]
theorem zye(a:List UInt32)(e:Nat)(ha:a.length≤3000)(he:e<9223372036854775808)(hb:e*Z7 (val a)≤65536):∀b:Nat,b≤63 →
  Zn T 0 0 (.norm false [7]) l258_0 ⟨[(0,.sl (Za a) .an),(1,.i .i64 e),(7,.sl (Za (ofN (val a^(e/2^b)))) .an),(8,.i .i64 ((b:Int)-1))],[],2⟩ =
   some (.n,⟨[(7,.sl (Za (ofN (val a^e))) .an)],[],2⟩):=by
 refine zan (fun b:Nat=>⟨[(0,.sl (Za a) .an),(1,.i .i64 e),(7,.sl (Za (ofN (val a^(e/2^b)))) .an),(8,.i .i64 ((b:Int)-1))],[],2⟩) (fun b=>b≤63) (fun b=>b) (fun _=>_) ?_;intro b hb63;cases b with
 | zero=>
  right;rw[Yc9,Yeu];generalize ofN (val a^e)=R at *
  constructor<;>simp -implicitDefEqProofs[l258_0]
 | succ m=>
  left;have hs:=zul e m;have hmul:∀k,k≤e→k*Z7 (val a)≤65536:=fun k hk=>Ye (Y5 _ hk) hb;have hd0:e/2^m≤e:=Ybm _ _;have l1:=zpn (val a) (e/2^(m+1)) (hmul _ (Ybm _ _));have l2:=zpn (val a) (2*(e/2^(m+1))) (hmul _ (by omega));have c1:=zn7 (T:=T) (ofN (val a^(e/2^(m+1)))) (by omega);rw[zae,←Ybe,←Nat.two_mul]at c1;have c2:=zgr (T:=T) (ofN (val a^(2*(e/2^(m+1))))) a (by omega) (by omega);rw[zae,←Nat.pow_add_one]at c2;have hsh:=z11 e m (by omega);have han:=z12 (e/2^m) (by omega);have w1:IntKind.wrap .i64 ((m:Int)-1)=(m:Int)-1:=zab _ (by omega);have p1:(0:Int)≤m:=by omega
  have e1:((m+1:Nat):Int)-1=m:=by omega
  refine⟨m,by omega,by simp,?_,rfl⟩;rw[e1];rcases Nat.mod_two_eq_zero_or_one (e/2^m) with h0 | h0
  ·rw[h0]at han hs;rw[Yx]at hs;rw[←hs]at c1;clear l1 l2 c2 hs;generalize ofN (val a^(e/2^(m+1)))=X at *
   generalize ofN (val a^(e/2^m))=Y at *
   generalize e/2^m=q at *
   simp -implicitDefEqProofs[l258_0,p1,c1,hsh,han,w1]
  ·rw[h0]at han hs;rw[←hs]at c2;clear l1 l2 hs;generalize ofN (val a^(e/2^(m+1)))=X at *
   generalize ofN (val a^(2*(e/2^(m+1))))=Z at *
   generalize ofN (val a^(e/2^m))=Y at *
   generalize e/2^m=q at *
   simp -implicitDefEqProofs[l258_0,p1,c1,c2,hsh,han,w1]
theorem zyf(a:List UInt32)(e:Nat)(ha:a.length≤3000)(h2:2≤Z7 (val a))(hb:e≤65536/Z7 (val a)) :
  Zb T 258 [.sl (Za a) .an,.i .i64 e]=some (.tup [.sl (Za (ofN (val a^e))) .an,.b true]):=by
 have hmul:e*Z7 (val a)≤65536:=Ye (Y5 _ hb) (Nat.div_mul_le_self _ _);have he:e≤65536:=Ye hb (Ybm _ _);have c1:=zgq (T:=T) a (by omega);have c2:=zeo (T:=T) 1 (by decide);have c3:=zeo (T:=T) e (by omega);have c4:=zgq (T:=T) (ofN e) (by
  have:=zag (n:=e) (k:=1) (by omega);omega)
 rw[zae]at c4;have hl:=zye (T:=T) a e ha (by omega) hmul (Z7 e) (zum (by omega));rw[zyd,Yc9]at hl;have hbe:=zum (e:=e) (by omega);have hq:((65536:Int)).tdiv (Z7 (val a):Int)=((65536/Z7 (val a):Nat):Int):=by
  rw[Ybo (by decide)]
  rfl
 have hbl:65536/Z7 (val a)≤65536:=Ybm _ _;have w0:IntKind.wrap .i64 ((65536/Z7 (val a):Nat):Int)=((65536/Z7 (val a):Nat):Int):=zab _ (by omega);have w1:IntKind.wrap .i64 ((Z7 e:Int)-1)=(Z7 e:Int)-1:=zab _ (by omega);have q1:¬ (e:Int)<0:=by omega
 have q2:(1:Int)<(Z7 (val a):Int):=by omega
 have q2':1<Z7 (val a):=by omega
 have q3:¬ ((65536/Z7 (val a):Nat):Int)<(e:Int):=by omega
 have q3':¬ (65536/Z7 (val a))<e:=by omega
 have q4:¬ (Z7 (val a):Int)<2:=by omega
 have q4':¬ Z7 (val a)<2:=by omega
 have q5:¬ (Z7 (val a):Int)=0:=by omega
 have q5':¬ Z7 (val a)=0:=by omega
 have qm:((e:Int)%18446744073709551616).toNat=e:=by omega
 rw[zac Zby.h258 rfl,b258];generalize 65536/Z7 (val a)=Q at *
 clear hmul;generalize ofN (val a^e)=R at *
 generalize ofN 1=O at *
 generalize Z7 (val a)=B at *
 generalize ofN e=E at *
 simp -implicitDefEqProofs[c1,c2,c3,c4,hl,hq,w0,w1,q1,q2,q2',q3,q3',q4,q4',q5,q5',qm]
end
end Go.Ab
end
section
namespace Go.Ab
section
variable{T:Tbl}[Z5 T][Zah T][Z3 T][Zaa T][Z4 T][Zai T][Z8 T][Zas T][Zf0 T]
def Zoo(m:List (List Fz))(i:Nat):St:=⟨[(0,.sl (Z2 m) .an),(3,.i .i64 i)],[],2⟩
def Zop(m:List (List Fz))(i:Nat):St:=⟨[(0,.sl (Z2 m) .an),(3,.bs (.loc 3) 1 1 0 i),(4,.i .i64 i)],[((.loc 3),⟨1,.own,1,Z2 (fzM (Znw (m.take i)))⟩)],3⟩
def Zoq(a b:List (List Fz))(i:Nat):St:=⟨[(0,.sl (Z2 a) .an),(1,.sl (Z2 b) .an),(5,.i .i64 i)],[],2⟩
def Zor(n:Int)(k:Nat)(i:Nat):St:=⟨[(0,.i .i64 n),(3,.bs (.loc 3) 1 1 0 i),(4,.i .i64 i)],[((.loc 3),⟨1,.own,1,Z2 (idQ k i)⟩)],3⟩
def Zne(L:List (List Rat))(R:List (List Fz))(j:Nat)(i:Nat):St:=⟨[(0,.sl (Z2 (fzM L)) .an),(3,.bs (.loc 3) 1 1 0 j),(4,.i .i64 j),(5,.bs (.loc 5) 2 3 0 i),(6,.i .i64 i)],[(.loc 3,⟨1,.own,1,Z2 R⟩),((.loc 5),⟨2,.own,3,Zf (fzs (Zll (L.take i) j))⟩)],4⟩
def Znf(L:List (List Rat))(i:Nat):St:=⟨[(0,.sl (Z2 (fzM L)) .an),(3,.bs (.loc 3) 1 1 0 i),(4,.i .i64 i)],[((.loc 3),⟨1,.own,1,Z2 (fzM ((List.range i).map (Zll L)))⟩)],3⟩
def Zos(L:List (List Rat))(c:List Rat)(i:Nat):St:=⟨[(0,.sl (Z2 (fzM L)) .an),(1,.sl (Zf (fzs c)) .an),(5,.bs (.loc 5) 1 3 0 i),(6,.i .i64 i)],[((.loc 5),⟨1,.own,3,Zf (fzs (Zki (L.take i) c))⟩)],3⟩
def Zot(m:List (List Fz))(many words:Nat):Bool:=decide (many<m.length) || m.any fun r=>Zeu r many words
def Zou(m:List (List Fz))(many words:Nat)(i:Nat):St:=⟨[(0,.sl (Z2 m) .an),(1,.i .i64 many),(2,.i .i64 words),(7,.i .i64 i)],[],2⟩
end
end Go.Ab
end
section
namespace Go.Ab
section
variable{T:Tbl}[Zu T][Zz T][Z1 T][Zw T][Zs T][Za0 T][Zg T][Zj T][Z0 T][Zaz T][Zcj T][Zhl T][Z5 T][Zah T][Z3 T][Zaa T][Z4 T][Zai T][Z8 T][Zas T][Zf0 T][Zdv T][Zdw T][Zh2 T]
def Zm8(m:List (List Fz))(i:Nat):St:=⟨[(0,.sl (Z2 m) .an),(3,.bs (.loc 3) 1 1 0 i),(4,.i .i64 i)],[((.loc 3),⟨1,.own,1,Z2 (m.take i)⟩)],3⟩
def Zm9(a b:List (List Fz))(i:Nat):St:=⟨[(0,.sl (Z2 a) .an),(1,.sl (Z2 b) .an),(5,.i .i64 i)],[],2⟩
theorem zaf9{q:Rat}(h1:q.num.natAbs<4294967296)(h2:q.den<4294967296):sz q≤1:=Yea.2 ⟨zag (by simpa using h1),zag (by simpa using h2)⟩
end
end Go.Ab
end
section
namespace Go.Ab
class Zlw (T:Tbl):Prop where
end Go.Ab
end
section
namespace Go.Ab
def Zl9(l:List Rat):Nat→Nat
 | 0=>0
 | n+1=>if l.getD n 0=0 then Zl9 l n else n+1
def Zom(l:List Rat):List Rat:=l.take (Zl9 l l.length)
section
variable{T:Tbl}[Zu T][Zz T][Z1 T][Zw T][Zs T][Za0 T][Zg T][Zj T][Z0 T][Zaz T][Zcj T][Zlw T]
def Znd:List Rat→Rat→Rat
 | [],_=>0
 | a::l,x=>Znd l x*x+a
def dif(l:List Rat):List Rat:=(List.range (l.length-1)).map fun(i:Nat)=>(((i:Int)+1:Int):Rat)*l.getD (i+1) 0
def Zpu(l:List Fz)(i:Nat):St:=⟨[(0,.sl (Zf l) .an),(3,.bs (.loc 3) 1 3 0 i),(4,.i .i64 ((i:Int)+1))],[((.loc 3),⟨1,.own,3,Zf (fzs ((dif (l.map fv)).take i))⟩)],3⟩
end
end Go.Ab
end
section
namespace Go.Ab
def Zdc(x:Fz):Nat:=Z7 (val x.2.1)+Z7 (val x.2.2)
def Zmb(l:List Fz):Nat:=l.foldl (fun n x=>max n (Zdc x)) 0
theorem zee{x k:Nat}(h:(ofN x).length≤k):Z7 x≤32*k:=by
 unfold Z7;split
 ·omega
 ·next h0=>
  have h1:=zax (ofN x);rw[zae]at h1;have h2:4294967296^(ofN x).length≤4294967296^k:=Ym (by decide) h;have h3:(4294967296:Nat)^k=2^(32*k):=by rw[Ydy]
  have:=(Ydx (n:=x) (k:=32*k) h0).2 (by omega);omega
theorem z2m{x:Fz}{k:Nat}(h:fsz x≤k):Zdc x≤64*k:=by
 unfold Zdc;have h1:=zee (Ye (zad x.2.1) (Ye (ze1 x) h));have h2:=zee (Ye (zad x.2.2) (Ye (ze2 x) h));omega
section
variable{T:Tbl}[Zab T][Zu T][Zz T][Z1 T][Zw T][Zs T][Za0 T][Zg T][Zj T][Z0 T][Zay T][Zbi T][Zby T][Zaz T][Zcj T][Zfq T]
def Zmc(b c:Rat)(i:Nat):Rat:=if i=0 then 0 else if i=1 then b else (if b<c then c else b)
def Zp9(b c:Rat)(i:Nat):St:=⟨[(2,.ptr (.loc 2) 1 3 0 0),(3,.ptr (.loc 3) 2 3 0 0),(7,.sl [Zd7 (fz b),Zd7 (fz c)] .an),(8,.i .i64 2),(9,.i .i64 i)],
 [(.loc 2,⟨1,.str,3,[Zdy]⟩),(.loc 3,⟨2,.str,3,[Zd7 (fz (Zmc b c i))]⟩)],4⟩
def Zqa(l:List Fz)(i:Nat):St:=⟨[(2,.ptr (.loc 2) 1 3 0 0),(3,.ptr (.loc 3) 2 3 0 0),(7,.sl (Zf l) .an),(8,.i .i64 l.length),(9,.i .i64 i)],
 [(.loc 2,⟨1,.str,3,[Zdy]⟩),(.loc 3,⟨2,.str,3,[Zd7 (fz (Zk8 ((l.map fv).take i)))]⟩)],4⟩
def Zqb(l:List Fz)(i:Nat):St:=⟨[(3,.i .i64 (Zmb (l.take i))),(6,.sl (Zf l) .an),(7,.i .i64 l.length),(8,.i .i64 i)],[],2⟩
end
section
variable{T:Tbl}[Z5 T][Zah T][Z3 T][Zaa T][Z4 T][Zai T][Z8 T][Zas T][Zei T]
theorem zrq(x:Fz)(hx:fsz x≤10000):Zb T 245 [efz x]=some (.i .i64 (Zdc x)):=by
 have h1:=ze1 x;have h2:=ze2 x;have c1:=zjj (T:=T) x.2.1 (by omega);have c2:=zjj (T:=T) x.2.2 (by omega);have b1:=zee (x:=val x.2.1) (k:=10000) (Ye (zad x.2.1) (by omega));have b2:=zee (x:=val x.2.2) (k:=10000) (Ye (zad x.2.2) (by omega));have w:IntKind.wrap .i64 ((Z7 (val x.2.1):Int)+(Z7 (val x.2.2):Int))=((Zdc x:Nat):Int):=by
  have e:((Zdc x:Nat):Int)=(Z7 (val x.2.1):Int)+(Z7 (val x.2.2):Int):=by unfold Zdc;omega
  rw[e];exact zab _ (by omega)
 rw[zac Zei.h245 rfl,b245];generalize Zdc x=S at *
 generalize Z7 (val x.2.1)=B1 at *
 generalize Z7 (val x.2.2)=B2 at *
 simp -implicitDefEqProofs[c1,c2,w]
def Zqc(c:Rat)(p:List Rat)(i:Nat):St:=⟨[(1,.sl (Zf (fzs p)) .an),(2,.ptr (.loc 2) 1 3 0 0),(5,.bs (.loc 5) 2 3 0 i),(6,.i .i64 i)],
 [(.loc 2,⟨1,.str,3,[Zd7 (fz c)]⟩),(.loc 5,⟨2,.own,3,Zf (fzs ((Zlq c p).take i))⟩)],4⟩
def Zqd(p:List Rat)(i:Nat):St:=⟨[(0,.sl (Zf (fzs p)) .an),(2,.ptr (.loc 2) 1 3 0 0),(3,.ptr (.loc 3) 2 3 0 0),(4,.i .i64 i)],
 [(.loc 2,⟨1,.str,3,[Zdy]⟩),(.loc 3,⟨2,.str,3,[Zd7 (fz (Zk8 (p.take i)))]⟩)],4⟩
end
end Go.Ab
end
section
namespace Go.Ab
structure Ins where
 op:Int
 a:Int
 b:Int
 n:Fz
abbrev Zmt(i:Ins):List AV:=[.i .i64 i.op,.i .i64 i.a,.i .i64 i.b,.b i.n.1,.sl (Za i.n.2.1) .an,.sl (Za i.n.2.2) .an]
def Zix(l:List Ins):List (List AV):=l.map Zmt
@[simp] theorem zabm:Zix []=[]:=rfl
structure Tp where
 code:List Ins
 outs:List Int
 dim:Int
 par:Int
abbrev etp(t:Tp):AV:=.agg [.sl (Zix t.code) .an,.sl (ints t.outs) .an,.i .i64 t.dim,.i .i64 t.par]
def Zce(x:Fz):Bool:=decide (x=fz (fv x))
def Zls(x:Fz):Bool:=!x.1&&x.2.1.isEmpty&&x.2.2.isEmpty
def Zh9(i:Ins):List Int:=if i.op=6∨i.op=11 then [i.a] else if 7≤i.op∧i.op≤10 then [i.a,i.b] else []
def Zf4(i m:Int):Bool:=decide (0≤i)&&decide (i<m)
def Zmu(dim par p:Int)(i:Ins):Bool:=
 if i.op=1 then decide (i.a=0)&&decide (i.b=0)&&Zce i.n
 else Zls i.n&&(Zh9 i).all (fun r=>Zf4 r p) &&
  (if i.op=2 then decide (i.a=0)&&decide (i.b=0)
   else if i.op=3 then Zf4 i.a dim&&decide (i.b=0)
   else if i.op=4 then Zf4 i.a par&&decide (i.b=0)
   else if i.op=6 then decide (i.b=0)
   else if i.op=11 then decide (-8≤i.b)&&decide (i.b≤8)
   else decide ((Zh9 i).length=2))
def Ziy(dim par:Int):Nat→List Ins→Int
 | _,[]=>-1
 | p,i::r=>if Zmu dim par p i then Ziy dim par (p+1) r else p
def Zlt(t:Tp):Bool:=Zf4 (t.dim-1) 6&&Zf4 t.par 7&&decide ((t.outs.length:Int)=t.dim)&&decide (t.code.length≤300)
def Zlu(t:Tp):Int:=
 if Zlt t=false then -2 else if Ziy t.dim t.par 0 t.code≠-1 then Ziy t.dim t.par 0 t.code
 else if (t.outs.all fun o=>Zf4 o t.code.length)=false then t.code.length else -1
def okT(t:Tp):Bool:=decide (Zlu t=-1)
structure OkTp (t:Tp):Prop where
 d1:1≤t.dim
 d2:t.dim≤6
 p1:0≤t.par
 p2:t.par≤6
 ol:(t.outs.length:Int)=t.dim
 cl:t.code.length≤300
 may:∀(k:Nat) (i:Ins),t.code[k]? = some i→Zmu t.dim t.par k i=true
 outs:∀o∈t.outs,0≤o∧o<t.code.length
structure Po where
 t:Rat
 y:List Rat
 p:List Rat
structure PoF where
 t:Fz
 y:List Fz
 p:List Fz
def PoF.v(x:PoF):Po:=⟨fv x.t,x.y.map fv,x.p.map fv⟩
def Po.f(x:Po):PoF:=⟨fz x.t,fzs x.y,fzs x.p⟩
abbrev ept(x:PoF):AV:=.agg [.b x.t.1,.sl (Za x.t.2.1) .an,.sl (Za x.t.2.2) .an,.sl (Zf x.y) .an,.sl (Zf x.p) .an]
def gI(l:List Rat)(i:Int):Rat:=l.getD i.toNat 0
def Zmv(x:Rat)(e:Int):Rat:=x^e
def Zio(P:Po)(D:List Rat)(i:Ins):Rat×Bool:=
 if i.op=1 then (fv i.n,true)
 else if i.op=3 then (gI P.y i.a,true)
 else if i.op=4 then (gI P.p i.a,true)
 else if i.op=6 then (-gI D i.a,true)
 else if i.op=7 then (gI D i.a+gI D i.b,true)
 else if i.op=8 then (gI D i.a-gI D i.b,true)
 else if i.op=9 then (gI D i.a*gI D i.b,true)
 else if i.op=10 then (gI D i.a/gI D i.b,decide (gI D i.b≠0))
 else if i.op=11 then (if i.b<0∧gI D i.a=0 then (0,false) else (Zmv (gI D i.a) i.b,true))
 else (P.t,true)
def Zky(q:Rat):Nat:=Zdc (fz q)
def Zji(lim:Nat)(P:Po):List Ins→List Rat→List Rat×Nat×Nat
 | [],D=>(D,0,0)
 | i::r,D=>if (Zio P D i).2=false then ([],3,D.length) else if lim<Zky (Zio P D i).1 then ([],6,D.length) else Zji lim P r (D++[(Zio P D i).1])
end Go.Ab
end
section
namespace Go.Ab
abbrev tyI:Ty:=.cons (.int .i64) (.cons (.int .i64) (.cons (.int .i64) (.cons tyF .nil)))
abbrev tyT:Ty:=.cons (.sl tyI) (.cons (.sl (.int .i64)) (.cons (.int .i64) (.cons (.int .i64) .nil)))
abbrev tyP:Ty:=.cons tyF (.cons (.sl tyF) (.cons (.sl tyF) .nil))
end Go.Ab
end
section
namespace Go.Ab
section
variable{T:Tbl}[Zaz T][Zcb T]
theorem zl9(c:UInt8):Zb T 185 [u8 c.toNat]=some (.b (isD c)):=by
 rw[zac Zcb.h185 rfl,b185];by_cases h1:48≤c.toNat
 ·simp -implicitDefEqProofs[isD,h1]
 ·simp -implicitDefEqProofs[isD,h1]
theorem zja(c:UInt8):Zb T 186 [u8 c.toNat]=some (.b (isL c)):=by
 rw[zac Zcb.h186 rfl,b186];by_cases h1:97≤c.toNat<;>by_cases h2:c.toNat≤122<;>by_cases h3:65≤c.toNat<;>by_cases h4:c.toNat≤90<;>by_cases h5:c.toNat=95 <;>
  simp -implicitDefEqProofs[isL,h1,h2,h3,h4,h5]
theorem zxy(c:UInt8):Zb T 187 [u8 c.toNat]=some (.b (isS c)):=by rw[p187,zr9]
theorem zxz(c:UInt8):Zb T 177 [u8 c.toNat]=some (.i .i64 (Zi c)):=by
 have h1:=zl9 (T:=T) c;have h2:=zja (T:=T) c;have h3:=zxy (T:=T) c;rw[zac Zcb.h177 rfl,b177];cases e1:isD c<;>cases e2:isL c<;>cases e3:isS c<;>simp -implicitDefEqProofs[Zi,h1,h2,h3,e1,e2,e3]
theorem zx0(k:Nat)(c:UInt8):Zb T 188 [.i .i64 k,u8 c.toNat]=some (.b (Zap k c)):=by
 have h1:=zl9 (T:=T) c;have h2:=zja (T:=T) c;rw[zac Zcb.h188 rfl,b188];by_cases k1:k=1
 ·subst k1;cases e1:isD c<;>cases e2:isL c<;>simp -implicitDefEqProofs[Zap,h1,h2,e1,e2]
 ·have k1':¬ (k:Int)=1:=by omega
  by_cases k2:k=2
  ·subst k2;cases e1:isD c<;>cases e2:isL c<;>simp -implicitDefEqProofs[Zap,h1,h2,e1,e2]
  ·have k2':¬ (k:Int)=2:=by omega
   simp -implicitDefEqProofs[Zap,h1,h2,k1,k2,k1',k2']
theorem zx1(k:Nat):Zb T 179 [.i .i64 k]=some (.i .i64 (Zaw k)):=by
 rw[zac Zcb.h179 rfl,b179];by_cases k1:k=1
 ·subst k1;simp -implicitDefEqProofs[Zaw]
 ·have k1':¬ (k:Int)=1:=by omega
  by_cases k2:k=2
  ·subst k2;simp -implicitDefEqProofs[Zaw]
  ·have k2':¬ (k:Int)=2:=by omega
   simp -implicitDefEqProofs[Zaw,k1,k2,k1',k2']
theorem zq4(s:List UInt8)(hs:s.length≤1000000)(k F:Nat):∀n:Nat,(n≤s.length∧n+((s.drop n).takeWhile (Zap k)).length=F) →
  Zn T 0 0 (.norm false [5]) l178_0 ⟨[(0,.s s),(1,.i .i64 k),(5,.i .i64 n)],[],2⟩=some (.n,⟨[(5,.i .i64 F)],[],2⟩):=by
 refine zan (fun n:Nat=>⟨[(0,.s s),(1,.i .i64 k),(5,.i .i64 n)],[],2⟩) _ (fun n=>s.length-n) _ ?_
 rintro n ⟨hn,hF⟩
 by_cases h0:n<s.length
 ·have hg:s[n]? = some (s[n]'h0):=Ya h0;have hd:=Yk h0;have hgo:=zx0 (T:=T) k (s[n]'h0);have hw:IntKind.wrap .i64 ((n:Int)+1)=((n+1:Nat):Int):=zab _ (by omega);by_cases hc:Zap k (s[n]'h0)=true
  ·left;rw[hd,Yb8 hc]at hF;refine⟨n+1,⟨h0,by simp only[Yd]at hF;omega⟩,by show s.length-(n+1)<s.length-n;omega,?_,rfl⟩;simp -implicitDefEqProofs[l178_0,h0,hg,hgo,hc,hw]
  ·right;rw[hd,Yb9 hc]at hF;simp only[Y1,Yx]at hF;subst hF;constructor<;>simp -implicitDefEqProofs[l178_0,h0,hg,hgo,hc]
 ·right;have:n=s.length:=by omega
  subst this;rw[Yac]at hF;simp only[List.takeWhile_nil,Y1,Yx]at hF;subst hF;constructor<;>simp -implicitDefEqProofs[l178_0]
theorem zt9(c:UInt8)(r:List UInt8)(hs:r.length≤100000)(k:Nat):Zb T 178 [.s (c::r),.i .i64 k]=some (.i .i64 (Z9 k r)):=by
 have h:=zq4 (T:=T) (c::r) (by simp;omega) k (Z9 k r) 1 ⟨by simp,rfl⟩;rw[zac Zcb.h178 rfl,b178];simp at h;simp -implicitDefEqProofs[h]
theorem zht(c:UInt8)(n:Nat)(hn:n<256):c=UInt8.ofNat n↔c.toNat=n:=by
 constructor
 ·rintro rfl;simp;omega
 ·intro h;subst h;simp
theorem z1x(c:UInt8):isB c=(decide (c.toNat=32) || decide (c.toNat=9) || decide (c.toNat=10) || decide (c.toNat=13)):=by
 have e (n:Nat) (hn:n<256):decide (c=UInt8.ofNat n)=decide (c.toNat=n):=decide_eq_decide.2 (zht c n hn);unfold isB;rw[show (32:UInt8)=UInt8.ofNat 32 from rfl,show (9:UInt8)=UInt8.ofNat 9 from rfl,show (10:UInt8)=UInt8.ofNat 10 from rfl,show (13:UInt8)=UInt8.ofNat 13 from rfl,e 32 (by decide),e 9 (by decide),e 10 (by decide),e 13 (by decide)]
theorem zua(l:List UInt8)(h:l.length≤1000000):Zb T 184 [.s l,.s [10]]=some (.tup [.s (l.takeWhile (· != 10)),.s ((l.dropWhile (· != 10)).drop 1),.b (l.contains 10)]):=by rw[p184,zjr l h]
def wdR(w:Wd):List AV:=[.i .i64 w.1,.s w.2.1,.i .i64 w.2.2]
def Zae(l:List Wd):List (List AV):=l.map wdR
@[simp] theorem zdy(l:List Wd):(Zae l).length=l.length:=by simp[Zae]
@[simp] theorem zdk(l:List Wd):wkL (Zae l)=Zae l:=by
 induction l with
 | nil=>rfl
 | cons x l ih=>simpa[Zae,wdR,wkL,wkR]using ih
@[simp] theorem zfj(l:List Wd):((Zae l).flatMap fun r=>r.flatMap rfA)=[]:=by
 induction l with
 | nil=>rfl
 | cons x l ih=>
  have e:Zae (x::l)=wdR x::Zae l:=rfl;rw[e,Ydh,ih];simp[wdR,rfA]
theorem zjb(l:List Wd)(k a:Nat)(t:List UInt8):wkL (List.take l.length (Zae l)++[[AV.i .i64 k,.s t,.i .i64 a]])=Zae (l++[(k,t,a)]):=by
 rw[Yb (by simp),show Zae l++[[AV.i .i64 k,.s t,.i .i64 a]]=Zae (l++[(k,t,a)]) by simp[Zae,wdR],zdk]
def Zoe(s:List UInt8)(i:Nat)(acc:List Wd):St:=
 ⟨[(0,.s s),(3,.ptr (.loc 3) 1 4 0 0),(4,.bs (.loc 4) 2 3 0 acc.length),(5,.i .i64 i)],[(.loc 3,⟨1,.str,4,[[.i .i64 0,.i .i64 0,.i .i64 0,.i .i64 0]]⟩),(.loc 4,⟨2,.own,3,Zae acc⟩)],4⟩
def Zof:Except Nat (List Wd)→Option (Ex×St)
 | .ok ws=>some (.n,⟨[(3,.ptr (.loc 3) 1 4 0 0),(4,.bs (.loc 4) 2 3 0 ws.length)],[(.loc 3,⟨1,.str,4,[[.i .i64 0,.i .i64 0,.i .i64 0,.i .i64 0]]⟩),(.loc 4,⟨2,.own,3,Zae ws⟩)],4⟩)
 | .error e=>some (.r,⟨[(2,.sl [] .an),(3,.ptr (.loc 3) 1 4 0 0)],[(.loc 3,⟨1,.str,4,[[.i .i64 1,.i .i64 0,.i .i64 0,.i .i64 e]]⟩)],3⟩)
def Zmx(r:Except Nat (List Wd)):AV:=
 match r with
 | .ok ws=>.tup [.sl (Zae ws) .an,.agg [.i .i64 0,.i .i64 0,.i .i64 0,.i .i64 0]]
 | .error e=>.tup [.sl [] .an,.agg [.i .i64 1,.i .i64 0,.i .i64 0,.i .i64 e]]
def Zie(s:List UInt8):Except Nat (List Wd):=if 4000<s.length then .error 4000 else Zdg (s.drop (Zbd false s)) (Zbd false s) []
def Zam(k:Int)(t:List UInt8):Bool:=
 match t with
 | []=>false
 | c::r=>decide (k≠0)&&decide ((Zi c:Int)=k)&&decide (Z9 (Zi c) r=r.length+1)&&decide (r.length+1≤Zaw (Zi c))
theorem zma(k a:Int)(t:List UInt8)(ht:t.length≤100000):Zb T 172 [.agg [.i .i64 k,.s t,.i .i64 a]]=some (.b (Zam k t)):=by
 rw[zac Zcb.h172 rfl,b172];cases t with
 | nil=>simp -implicitDefEqProofs[Zam]
 | cons c r=>
  simp only[Yd]at ht;have hk:=zxz (T:=T) c;have hf:=zt9 (T:=T) c r (by omega) (Zi c);have hm:=zx1 (T:=T) (Zi c);by_cases h0:k=0
  ·simp -implicitDefEqProofs[Zam,h0]
  ·by_cases h1:(Zi c:Int)=k
   ·subst h1;have h0':¬ Zi c=0:=by omega
    by_cases h2:Z9 (Zi c) r=r.length+1
    ·have h2':((Z9 (Zi c) r:Nat):Int)=(r.length:Int)+1:=by omega
     by_cases h3:r.length+1≤Zaw (Zi c)
     ·have h3':(r.length:Int)+1≤(Zaw (Zi c):Nat):=by omega
      simp -implicitDefEqProofs[Zam,h0',hk,hf,hm,h2,h2',h3,h3']
     ·have h3':¬ (r.length:Int)+1≤(Zaw (Zi c):Nat):=by omega
      simp -implicitDefEqProofs[Zam,h0',hk,hf,hm,h2,h2',h3,h3']
    ·have h2':¬ ((Z9 (Zi c) r:Nat):Int)=(r.length:Int)+1:=by omega
     simp -implicitDefEqProofs[Zam,h0',hk,hf,hm,h2,h2']
   ·simp -implicitDefEqProofs[Zam,h0,hk,h1]
abbrev Wz:=Int×List UInt8×Int
def wzR(w:Wz):List AV:=[.i .i64 w.1,.s w.2.1,.i .i64 w.2.2]
def Zl6(l:List Wz):List (List AV):=l.map wzR
def Zpk(l:List Wz)(i:Nat)(b:BId):St:=
 ⟨[(3,.bs (.loc 3) 1 1 0 i),(6,.sl (Zl6 l) .an),(7,.i .i64 l.length),(8,.i .i64 i)],[(.loc 3,⟨1,.own,1,Zaj ((l.take i).map (·.2.1))⟩)],3⟩
end
end Go.Ab
end
section
namespace Go.Ab
structure Tr where
 t:Fz
 w:Fz
 h:Fz
 e:Fz
 y:List Fz
 ok:Bool
abbrev Zny(r:Tr):List AV:=[.b r.t.1,.sl (Za r.t.2.1) .an,.sl (Za r.t.2.2) .an,.b r.w.1,.sl (Za r.w.2.1) .an,.sl (Za r.w.2.2) .an,.b r.h.1,.sl (Za r.h.2.1) .an,.sl (Za r.h.2.2) .an,.b r.e.1,.sl (Za r.e.2.1) .an,.sl (Za r.e.2.2) .an,.sl (Zf r.y) .an,.b r.ok]
def Zej(l:List Tr):List (List AV):=l.map Zny
@[simp] theorem z8o:Zej []=[]:=rfl
structure Hs where
 l:List Tr
 t:Fz
 y:List Fz
abbrev ehs(h:Hs):AV:=.agg [.sl (Zej h.l) .an,.b h.t.1,.sl (Za h.t.2.1) .an,.sl (Za h.t.2.2) .an,.sl (Zf h.y) .an]
def Zh8(l:List Fz):Bool:=l.all Zce
def Tr.nums(r:Tr):List Fz:=[r.t,r.w,r.h,r.e]
def Zlm(h:Hs):Bool:=(h.l.all fun r=>Zh8 r.nums&&Zh8 r.y)&&(Zce h.t&&Zh8 h.y)
def Zmo(h:Hs):Bool:=(h.l.all fun r=>decide (r.y.length=h.y.length))&&(decide (1≤h.y.length)&&decide (h.y.length≤6))
def Zmp(r:Tr):Bool:=decide (0<fv r.w)&&decide (0<fv r.h)&&decide (fv r.h≤fv r.w)&&decide (0≤fv r.e)
def Zln(h:Hs):Bool:=h.l.all Zmp
def Zmq(r:Tr)(at_:Fz)(y:List Fz):Bool:=if r.ok then decide (fv at_=fv r.t+fv r.h) else decide (fv at_=fv r.t)&&decide (y.map fv=r.y.map fv)
def Zk7(l:List Tr)(t:Fz)(y:List Fz):Fz×List Fz:=match l with | []=>(t,y) | r::_=>(r.t,r.y)
def Zkj:List Tr→Fz→List Fz→Bool
 | [],_,_=>true
 | r::l,t,y=>Zmq r (Zk7 l t y).1 (Zk7 l t y).2&&Zkj l t y
def Zlo(h:Hs):Bool:=Zkj h.l h.t h.y
def Zlp(h:Hs):Int:=if !Zlm h then 1 else if !Zmo h then 2 else if 200<h.l.length then 3 else if !Zln h then 4 else if !Zlo h then 5 else 0
def Znz(h:Hs):Bool:=decide (Zlp h=0)
def Zn0(r:Tr):Tr:=⟨fz (fv r.t),fz (fv r.w),fz (fv r.h),fz (fv r.e),nrm r.y,r.ok⟩
def Zkv(l:List Tr):List Tr:=(l.filter (·.ok)).map Zn0
def Zo8(h:Hs):List Fz:=(Zkv h.l).map (·.t)++[fz (fv h.t)]
def Zo9(h:Hs):List (List Fz):=(Zkv h.l).map (·.y)++[nrm h.y]
def Zqy(h:Hs):List Fz:=(Zkv h.l).map (·.h)
structure HsS (h:Hs) (B:Nat):Prop where
 len:h.l.length≤1000
 t:fsz h.t≤B
 y:∀x∈h.y,fsz x≤B
 yl:h.y.length≤1000
 rt:∀r∈h.l,∀x∈r.nums,fsz x≤B
 ry:∀r∈h.l,∀x∈r.y,fsz x≤B
 rl:∀r∈h.l,r.y.length≤1000
end Go.Ab
end
section
namespace Go.Ab
theorem zn6:∀(a b:List UInt32),a.length=b.length→val a=val b→a=b
 | [],[],_,_=>rfl
 | x::a,y::b,hl,hv=>by
  simp only[zak]at hv;have hx:=zaj x;have hy:=zaj y;have h1:x.toNat=y.toNat:=by omega
  have h2:val a=val b:=by omega
  rw[Yef.1 h1,zn6 a b (by simpa using hl) h2]
 | [],_::_,hl,_=>by simp at hl
 | _::_,[],hl,_=>by simp at hl
theorem zfi{x y:Nat}:Zde x y=0↔x=y:=by
 grind[Zde]
section
variable{T:Tbl}[Zab T][Zu T][Zz T][Z1 T][Zw T][Zs T][Zg T][Zj T][Z0 T][Za9 T]
theorem zq1(x:Fz)(hx:fsz x≤10000):Zb T 208 [efz x]=some (.b (Zce x)):=by
 have hn:=zt1 (T:=T) x hx;have hs:=zza (x:=x) (L:=10000) hx (by decide);have l1:=zwn (fv x);have l2:=zp1 (fv x);unfold Zce;have e':fz (fv x)=(decide ((fv x).num<0),ofN (fv x).num.natAbs,ofN (fv x).den):=rfl;rw[e']at hn ⊢;obtain⟨n,a,d⟩:=x;have la:=ze1 (n,a,d);have ld:=ze2 (n,a,d);simp only at la ld;generalize decide ((fv (n,a,d)).num<0)=m at *
 generalize ofN (fv (n,a,d)).num.natAbs=b at *
 generalize ofN (fv (n,a,d)).den=e at *
 have c1:=zhv (T:=T) a b (by omega) (by omega);have c2:=zhv (T:=T) d e (by omega) (by omega);rw[zac Za9.h208 rfl,b208];by_cases h1:n=m
 case neg=>
  have hd:decide ((n,a,d)=(m,b,e))=false:=by grind
  have hb:(n == m)=false:=by grind
  rw[hd];simp -implicitDefEqProofs[hn,hb]
 subst h1;by_cases h2:a.length=b.length
 case neg=>
  have hd:decide ((n,a,d)=(n,b,e))=false:=by
   grind
  have hb:((a.length:Int) == b.length)=false:=by grind
  rw[hd];simp -implicitDefEqProofs[hn,hb]
 by_cases h3:d.length=e.length
 case neg=>
  have hd:decide ((n,a,d)=(n,b,e))=false:=by
   grind
  have hb:((d.length:Int) == e.length)=false:=by grind
  rw[hd];simp -implicitDefEqProofs[hn,h2,hb]
 by_cases h4:val a=val b
 case neg=>
  have hd:decide ((n,a,d)=(n,b,e))=false:=by
   grind
  have hc:¬ Zde (val a) (val b)=0:=fun h=>h4 (zfi.1 h);rw[hd];simp -implicitDefEqProofs[hn,h2,h3,c1,hc]
 have hab:=zn6 a b h2 h4;subst hab;have hk:Zde (val a) (val a)=0:=zfi.2 rfl;rw[hk]at c1;by_cases h5:val d=val e
 case neg=>
  have hd:decide ((n,a,d)=(n,a,e))=false:=by
   grind
  have hc:¬ Zde (val d) (val e)=0:=fun h=>h5 (zfi.1 h);rw[hd];simp -implicitDefEqProofs[hn,h3,c1,c2,hc]
 have hde:=zn6 d e h3 h5;subst hde;have hk2:Zde (val d) (val d)=0:=zfi.2 rfl;rw[hk2]at c2;have hd:decide ((n,a,d)=(n,a,d))=true:=by simp
 simp -implicitDefEqProofs[hn,c1,c2]
def Zpe(a:List UInt32)(k i:Nat):St:=⟨[(0,.sl (Za a) .an),(5,.sl (Za (ofN (val a^i))) .an),(7,.i .i64 k),(8,.i .i64 i)],[],2⟩
def Zpf(q:Rat)(e:Int):Rat×Bool:=if -8≤e∧e≤8∧¬ (e<0∧q=0) then (Zmv q e,true) else (0,false)
end
end Go.Ab
end
section
namespace Go.Ab
@[simp] theorem zabj:ints []=[]:=rfl
section
variable{T:Tbl}[Zab T][Zu T][Zz T][Z1 T][Zw T][Zs T][Zg T][Zj T][Z0 T][Za9 T][Zcz T]
def Zqv(t:Tp)(p:Nat)(x:Ins)(i:Nat):St:=
 ⟨[(1,.i .i64 p),(2,.ptr (.loc 2) 1 4 0 0),(5,.ptr (.loc 5) 2 6 0 0),(30,.sl (ints (Zh9 x)) .an),(31,.i .i64 (Zh9 x).length),(32,.i .i64 i)],
  [(.loc 2,⟨1,.str,4,[[.sl (Zix t.code) .an,.sl (ints t.outs) .an,.i .i64 t.dim,.i .i64 t.par]]⟩),(.loc 5,⟨2,.str,6,[Zmt x]⟩)],4⟩
end
end Go.Ab
end
section
namespace Go.Ab
section
variable{T:Tbl}[Zab T][Zu T][Zz T][Z1 T][Zw T][Zs T][Zg T][Zj T][Z0 T][Za9 T][Zcz T]
structure Small (t:Tp):Prop where
 code:t.code.length≤4294967296
 outs:t.outs.length≤4294967296
 ns:∀i∈t.code,fsz i.n≤10000
 d1:-9223372036854775808≤t.dim
 d2:t.dim<9223372036854775808
def bxT(t:Tp):Box:=⟨1,.str,4,[[.sl (Zix t.code) .an,.sl (ints t.outs) .an,.i .i64 t.dim,.i .i64 t.par]]⟩
def Zqw(t:Tp)(i:Nat):St:=⟨[(1,.ptr (.loc 1) 1 4 0 0),(11,.i .i64 t.code.length),(12,.i .i64 i)],[(.loc 1,bxT t)],3⟩
def Zqx(t:Tp)(i:Nat):St:=⟨[(1,.ptr (.loc 1) 1 4 0 0),(22,.sl (ints t.outs) .an),(23,.i .i64 t.outs.length),(24,.i .i64 i)],[(.loc 1,bxT t)],3⟩
end
end Go.Ab
end
section
namespace Go.Ab
def Zm2(n:Int):Int:=if n<0 then 0 else if 4096<n then 4096 else n
abbrev bxG(g:Nat)(s p L:Int):Box:=⟨g,.str,3,[[.i .i64 s,.i .i64 p,.i .i64 L]]⟩
def Zl0(s:Int):Int:=IntKind.wrap .i64 (s+1)
def Zl1(p:Int)(x:Fz):Int:=if p<(Zdc x:Int) then (Zdc x:Int) else p
section
variable{T:Tbl}[Zab T][Zu T][Zz T][Z1 T][Zw T][Zs T][Zg T][Zj T][Z0 T][Za9 T][Zbi T][Zby T][Zcz T][Zca T][Zdb T]
theorem zq2(x:Fz)(hx:fsz x≤10000):Zb T 223 [efz x]=some (.i .i64 (Zdc x)):=by
 have h1:=ze1 x;have h2:=ze2 x;have c1:=zgq (T:=T) x.2.1 (by omega);have c2:=zgq (T:=T) x.2.2 (by omega);have b1:=zee (x:=val x.2.1) (k:=10000) (Ye (zad x.2.1) (by omega));have b2:=zee (x:=val x.2.2) (k:=10000) (Ye (zad x.2.2) (by omega));have w:IntKind.wrap .i64 ((Z7 (val x.2.1):Int)+(Z7 (val x.2.2):Int))=((Zdc x:Nat):Int):=by
  have e:((Zdc x:Nat):Int)=(Z7 (val x.2.1):Int)+(Z7 (val x.2.2):Int):=by unfold Zdc;omega
  rw[e];exact zab _ (by omega)
 rw[zac Zbi.h223 rfl,b223];generalize Zdc x=S at *
 generalize Z7 (val x.2.1)=B1 at *
 generalize Z7 (val x.2.2)=B2 at *
 simp -implicitDefEqProofs[c1,c2,w]
def Zpg(l:List Fz)(i:Nat):St:=⟨[(3,.bs (.loc 3) 1 3 0 i),(6,.sl (Zf l) .an),(7,.i .i64 l.length),(8,.i .i64 i)],[(.loc 3,⟨1,.own,3,Zf (nrm (l.take i))⟩)],3⟩
structure PoS (x:PoF) (B:Nat):Prop where
 t:fsz x.t≤B
 y:∀u∈x.y,fsz u≤B
 p:∀u∈x.p,fsz u≤B
 yl:x.y.length≤1000
 pl:x.p.length≤1000
end
end Go.Ab
end
section
namespace Go.Ab
abbrev mD:AV:=.agg [.dead]
end Go.Ab
end
section
namespace Go.Ab
theorem zpq{n b:Nat}(h:Z7 n≤b):(ofN n).length≤b/32+1:=by
 refine zag ?_;unfold Z7 at h;split at h
 ·grind
 ·rename_i h0;have h1:n<2^(n.log2+1):=(Ydx h0).1 (Y4 _);have h3:(4294967296:Nat)^(b/32+1)=2^(32*(b/32+1)):=by rw[Ydy]
  have h2:2^(n.log2+1)≤2^(32*(b/32+1)):=Ym (by decide) (by omega);omega
theorem z2n{q:Rat}{b:Nat}(h:Zky q≤b):sz q≤b/32+1:=by
 unfold Zky Zdc fz at h;rw[zae,zae]at h;exact Yea.2 ⟨zpq (Ye (Nat.le_add_right _ _) h),zpq (Ye (Nat.le_add_left _ _) h)⟩
structure PvS (P:Po) (B:Nat):Prop where
 t:sz P.t≤B
 y:∀q∈P.y,sz q≤B
 p:∀q∈P.p,sz q≤B
def Zj5(lim:Nat)(P:Po):List Ins→List Rat→Int→Int→Int×Int
 | [],_,s,p=>(s,p)
 | i::r,D,s,p=>if (Zio P D i).2=false then (s,p) else if lim<Zky (Zio P D i).1 then (Zl0 s,Zl1 p (fz (Zio P D i).1)) else Zj5 lim P r (D++[(Zio P D i).1]) (Zl0 s) (Zl1 p (fz (Zio P D i).1))
abbrev bxM:Box:=⟨3,.str,1,[[.ptr (.bor 0) 0 3 0 0]]⟩
abbrev bxP(g:Nat)(x:PoF):Box:=⟨g,.str,5,[[.b x.t.1,.sl (Za x.t.2.1) .an,.sl (Za x.t.2.2) .an,.sl (Zf x.y) .an,.sl (Zf x.p) .an]]⟩
abbrev bxF(g:Nat)(a b c d:Int):Box:=⟨g,.str,4,[[.i .i64 a,.i .i64 b,.i .i64 c,.i .i64 d]]⟩
def Zox(Q:PoF)(L:Int)(code:List Ins)(i:Nat)(D:List Fz)(s p:Int)(kd:Kind):St:=
 ⟨[(3,.ptr (.loc 3) 3 1 0 0),(5,.ptr (.loc 5) 4 5 0 0),(7,.ptr (.loc 7) 5 4 0 0),(8,.bs (.loc 8) 6 3 0 i),(34,.sl (Zix code) .an),(35,.i .i64 code.length),(36,.i .i64 i)],
  [(.bor 0,bxG 0 s p L),(.loc 3,bxM),(.loc 5,bxP 4 Q),(.loc 7,bxF 5 0 0 0 0),(.loc 8,⟨6,kd,3,Zf D⟩)],8⟩
def Zni(n:Nat)(D:List Fz)(s p L:Int)(kd:Kind):Ex×St:=(.n,⟨[(7,.ptr (.loc 7) 3 4 0 0),(8,.bs (.loc 8) 4 3 0 n)],[(.bor 0,bxG 0 s p L),(.loc 7,bxF 3 0 0 0 0),(.loc 8,⟨4,kd,3,Zf D⟩)],6⟩)
def Znj(kind at_ s p L:Int):Ex×St:=(.r,⟨[(6,.sl [] .an),(7,.ptr (.loc 7) 3 4 0 0)],[(.bor 0,bxG 0 s p L),(.loc 7,bxF 3 kind 0 0 at_)],5⟩)
section
variable{T:Tbl}[Zab T][Zu T][Zz T][Z1 T][Zw T][Zs T][Zg T][Zj T][Z0 T][Za9 T][Zbi T][Zby T][Zcz T][Zca T][Zdb T][Ze4 T][Ze3 T]
def kdE(kd:Kind)(l:List Ins):Kind:=if l=[] then kd else .sh
def Znk(lim:Nat)(P:Po)(code l:List Ins)(D:List Rat)(s p:Int)(kd:Kind):Ex×St:=
 if (Zji lim P l D).2.1=0 then Zni code.length (fzs (Zji lim P l D).1) (Zj5 lim P l D s p).1 (Zj5 lim P l D s p).2 lim (kdE kd l)
 else Znj (Zji lim P l D).2.1 (Zji lim P l D).2.2 (Zj5 lim P l D s p).1 (Zj5 lim P l D s p).2 lim
end
end Go.Ab
end
section
namespace Go.Ab
def Znl(t:Tp)(y p:Nat):Bool:=okT t&&decide ((y:Int)=t.dim)&&decide ((p:Int)=t.par)
def Zj6(lim:Nat)(t:Tp)(P:Po):List Rat×Nat×Nat:=if Znl t P.y.length P.p.length=true then Zji lim P t.code [] else ([],2,0)
def Zmd(t:Tp)(D:List Rat):List Rat:=t.outs.map (gI D)
def Zli(lim:Nat)(t:Tp)(P:Po):List Rat×Nat×Nat:=if (Zj6 lim t P).2.1=0 then (Zmd t (Zj6 lim t P).1,0,0) else ([],(Zj6 lim t P).2)
structure TpS (t:Tp):Prop where
 small:Small t
 ns:∀i∈t.code,fsz i.n≤1000
abbrev Zqe(k s g a:Int):AV:=.agg [.i .i64 k,.i .i64 s,.i .i64 g,.i .i64 a]
section
variable{T:Tbl}[Zab T][Zu T][Zz T][Z1 T][Zw T][Zs T][Zg T][Zj T][Z0 T][Za9 T][Zbi T][Zby T][Zcz T][Zca T][Zdb T][Ze4 T][Ze3 T]
def Znm(n:Int):Nat:=(Zm2 n).toNat
def Zqf(D:List Fz)(outs:List Int)(E:List Fz)(i:Nat)(kd:Kind):St:=
 ⟨[(1,.sl (Zf D) .an),(5,.bs (.loc 5) 1 3 0 i),(20,.sl (ints outs) .an),(21,.i .i64 outs.length),(22,.i .i64 i)],[(.loc 5,⟨1,.own,3,Zf (E.take i)⟩)],3⟩
end
end Go.Ab
end
section
namespace Go.Ab
structure Sm where
 nm:List UInt8
 c:List Fz
 a:List (List Fz)
 b:List Fz
 e:List Fz
abbrev esm(s:Sm):AV:=.agg [.s s.nm,.sl (Zf s.c) .an,.sl (Z2 s.a) .an,.sl (Zf s.b) .an,.sl (Zf s.e) .an]
def Zbe:List (List Fz)→Nat→Bool
 | [],_=>true
 | r::l,i=>decide (r.length=i)&&Zbe l (i+1)
def Zbp(s:Sm):Bool:=decide (1≤s.b.length)&&decide (s.b.length≤8)&&decide (s.c.length=s.b.length)&&decide (s.a.length=s.b.length)&&(decide (s.e.length=s.b.length) || decide (s.e.length=0))&&Zbe s.a 0
def Zbf(x:Fz):Bool:=Zce x&&decide (Zdc x≤190)
def Zck(m:List (List Fz)):Bool:=m.all fun r=>r.all Zbf
def sumF(l:List Fz):Rat:=l.foldl (fun s x=>s+fv x) 0
def Zbq(a:List (List Fz))(c:List Fz):Bool:=(a.zip c).all fun p=>decide (sumF p.1=fv p.2)
def Zcl(s:Sm):Int:=
 if !Zam 2 s.nm then 1 else if !Zbp s then 2 else if !(Zck s.a&&Zck [s.b,s.c,s.e]) then 3
 else if !Zbq s.a s.c then 4 else if sumF s.b≠1 then 5 else if s.e≠[]∧sumF s.e≠1 then 6 else 0
def okS(s:Sm):Bool:=decide (Zcl s=0)
structure SmS (s:Sm):Prop where
 nm:s.nm.length≤1000
 cl:s.c.length≤1000
 al:s.a.length≤1000
 bl:s.b.length≤1000
 el:s.e.length≤1000
 c:∀x∈s.c,fsz x≤300
 a:∀r∈s.a,r.length≤1000∧∀x∈r,fsz x≤300
 b:∀x∈s.b,fsz x≤300
 e:∀x∈s.e,fsz x≤300
structure Pb where
 t:Tp
 s:Sm
 p:List Fz
 bits:Int
abbrev epb(p:Pb):AV:=.agg [.sl (Zix p.t.code) .an,.sl (ints p.t.outs) .an,.i .i64 p.t.dim,.i .i64 p.t.par,.s p.s.nm,.sl (Zf p.s.c) .an,.sl (Z2 p.s.a) .an,.sl (Zf p.s.b) .an,.sl (Zf p.s.e) .an,.sl (Zf p.p) .an,.i .i64 p.bits]
def okP(p:Pb):Bool:=okT p.t&&okS p.s&&decide ((p.p.length:Int)=p.t.par)
end Go.Ab
end
section
namespace Go.Ab
abbrev Zm0:Ty:=.cons .str (.cons (.sl tyF) (.cons (.sl (.sl tyF)) (.cons (.sl tyF) (.cons (.sl tyF) .nil))))
abbrev Zpc:Ty:=.cons tyT (.cons Zm0 (.cons (.sl tyF) (.cons (.int .i64) .nil)))
abbrev Zm1:Ty:=.cons tyF (.cons tyF (.cons tyF (.cons tyF (.cons (.sl tyF) (.cons .bool .nil)))))
abbrev Zpd:Ty:=.cons (.sl Zm1) (.cons tyF (.cons (.sl tyF) .nil))
end Go.Ab
end
section
namespace Go.Proofs.YtoppjelfghopnaaGreatDoor
open Go Go.Ab Go.ChangeShapes Go.WideShapes Go.ChangeAt Go.RowKit
theorem Tryz.own:ownKnob Tryz.prog.godebug=none:=by kernel_rfl
theorem Tryz.laidOut:laidOutB Tryz.prog=true:=by kernel_rfl
theorem Tryz.mixed:Tryz.prog.follows .mixedOrders=true:=by kernel_rfl
theorem Tryz.rowed:mapsRowed Tryz.prog=true:=by kernel_rfl
theorem Tryz.heard:Tryz.prog.stopsHeard=true:=by kernel_rfl
theorem Tryz.enters:Tryz.prog.mayEnter=true:=by kernel_rfl
theorem Tryz.keys:Tryz.prog.plainKeys=Rows.stockGetsRow.plainKeys:=by kernel_rfl
theorem Tryz.lifts:Tryz.prog.liftsFinal=Rows.stockGetsRow.lifted:=by kernel_rfl
theorem Tryz.makes:Tryz.prog.make=some Rows.stockGetsRow.make:=by kernel_rfl
def laid2:List (String×DataW Unit):=[("unicode/utf8.acceptRanges",Rows.laid_unicode_utf8_acceptRanges),("unicode/utf8.first",Rows.laid_unicode_utf8_first)]
noncomputable def laidWorld(os:Os):World:=
 let put (h:Array Obj) (g:Nat) (cs:Array Value):Array Obj:=h.modify g fun
  | .cells _ t frozen=>.cells cs t frozen
  | o=>o
 let w0:=World.holding Tryz.prog os ⟨#[],#[],[]⟩
 let h1:=put w0.heap 1 (Lib.firstTab.map fun z=>Value.int .u8 z).toArray
 let h2:=put h1 2 ((List.range 16).flatMap fun i=>[Value.int .u8 (Lib.accLo i),Value.int .u8 (Lib.accHi i)]).toArray
 { w0 with heap:=h2 }
theorem laid_met(os:Os)(args:Array Value):laidMetH Tryz.prog laid2 ((laidWorld os).forCall (fun _ _=>0) ⟨#[],args,[]⟩).memory:=
 laidMetH_of_parts3 (fuel:=8) (laidMet_of_run' 8 (by kernel_rfl) (by kernel_rfl)) (by kernel_rfl) (by kernel_rfl)
theorem laid_shaped(os:Os):(laidWorld os).Shaped Tryz.prog:=World.shaped_of_RefB (by kernel_rfl) (by kernel_rfl)
theorem tab_all:TOk Tryz.prog nu (fun u=>lTab.lookup u):=lTab_ok (str344_ok) (str194_ok) (str361_ok) (sign_ok) (str184_ok)
end Go.Proofs.YtoppjelfghopnaaGreatDoor
end
section
namespace Go.Ab
def Zx(c:UInt8):List UInt8→List (List UInt8)
 | []=>[[]]
 | b::l=>if b=c then []::Zx c l else match Zx c l with
  | []=>[[b]]
  | p::r=>(b::p)::r
theorem zcu(c:UInt8):∀l:List UInt8,(l.count c=0∧Lib.indexByte l c=-1∧Zx c l=[l]) ∨
  ∃m:Nat,m<l.length∧Lib.indexByte l c=m∧Zx c l=l.take m::Zx c (l.drop (m+1))
 | []=>.inl ⟨rfl,rfl,rfl⟩
 | b::l=>by
  by_cases h:b=c
  ·right;subst h;refine⟨0,by simp,?_,?_⟩
   ·simp[Lib.indexByte]
   ·simp[Zx]
  ·have hb:(b == c)=false:=by simpa using h
   rcases zcu c l with ⟨h1,h2,h3⟩ | ⟨m,h1,h2,h3⟩
   ·left;refine⟨by rw[List.count_cons_of_ne h,h1],by simp[Lib.indexByte,hb,h2],by simp[Zx,h,h3]⟩
   ·right;have hm:((m:Int) == -1)=false:=by simp
    refine⟨m+1,by simpa using h1,by simp[Lib.indexByte,hb,h2,hm],by simp[Zx,h,h3]⟩
theorem zbz(c:UInt8):∀l:List UInt8,(Zx c l).length=l.count c+1
 | []=>rfl
 | b::l=>by
  have ih:=zbz c l;by_cases h:b=c
  ·subst h;simp[Zx,ih]
  ·rw[List.count_cons_of_ne h,←ih];cases hs:Zx c l with
   | nil=>rw[hs]at ih;simp at ih
   | cons p r=>simp[Zx,h,hs]
theorem z2r{T:Tbl}[Zcv T](s:List UInt8)(c:UInt8):Zb T 194 [.s s,.s [c]]=some (.i .i64 (Lib.indexByte s c)):=by rw[p194];rfl
theorem z2s{T:Tbl}[Zcv T](s:List UInt8)(c:UInt8):Zb T 361 [.s s,.s [c]]=some (.i .i64 ((s.count c:Nat):Int)):=by rw[p361];rfl
section
variable{T:Tbl}[Zcv T][Zao T]
theorem zmy(s:List UInt8)(c:UInt8):Zb T 362 [.s s,.s [c]]=some (.i .i64 (Lib.indexByte s c)):=by
 have h:=z2r (T:=T) s c;rw[zac Zao.h362 rfl,b362];simp -implicitDefEqProofs[h]
def Zku(c:UInt8)(N:Nat)(ps:List (List UInt8))(s:List UInt8):St:=
 ⟨[(0,.s s),(1,.s [c]),(2,.i .i64 0),(3,.i .i64 ((N:Int)-1)),(9,.bs (.loc 31) 1 1 0 N),(10,.i .i64 ps.length)],[(.loc 31,⟨1,.own,1,Zaj ps++List.replicate (N-ps.length) [.s []]⟩)],3⟩
theorem zrv(c:UInt8)(all:List (List UInt8))(hN:all.length≤1000001):∀y:List (List UInt8)×List UInt8,(y.1++Zx c y.2=all∧y.2.length≤1000000) →
  Zn T 0 0 (.norm false [0,9,10]) l354_0 (Zku c all.length y.1 y.2)=some (.n,⟨[(0,.s (all.getLastD [])),(9,.bs (.loc 31) 1 1 0 all.length),(10,.i .i64 ((all.length:Int)-1))],[(.loc 31,⟨1,.own,1,Zaj all.dropLast++[[.s []]]⟩)],3⟩):=by
 refine zan (fun y:List (List UInt8)×List UInt8=>Zku c all.length y.1 y.2) (fun y=>y.1++Zx c y.2=all∧y.2.length≤1000000) (fun y=>y.2.length) (fun _=>_) ?_
 rintro⟨ps,s⟩ ⟨hall,hs⟩
 simp only at hall hs;have hi:=zmy (T:=T) s c;have hlen:=congrArg List.length hall;rw[Yu,zbz]at hlen;unfold Zku;rcases zcu c s with ⟨h1,h2,h3⟩ | ⟨m,h1,h2,h3⟩
 ·right;rw[h3]at hall;have e1:all.getLastD []=s:=by rw[←hall];simp
  have e2:all.dropLast=ps:=by rw[←hall];simp
  have e3:all.length-ps.length=1:=by omega
  have e4:¬ (ps.length:Int)<(all.length:Int)-1:=by omega
  have e5:(ps.length:Int)=(all.length:Int)-1:=by omega
  rw[e1,e2,e3,e5];have e6:List.replicate 1 [AV.s []]=[[AV.s []]]:=rfl;rw[e6];have hw:wkL (Zaj ps++[[AV.s []]])=Zaj ps++[[AV.s []]]:=by
   rw[zb6,Yde,←zb6,zft]
   rfl
  have hl2:(Zaj ps++[[AV.s []]]).length=all.length:=by simp;omega
  clear hall e1 e2 h3;generalize Zaj ps++[[AV.s []]]=B at *
  constructor<;>simp -implicitDefEqProofs[l354_0,hw,hl2]
 ·left;rw[h2]at hi;have hpos:0<(Zx c (s.drop (m+1))).length:=by rw[zbz];omega
  have hlen2:=congrArg List.length hall;rw[h3,Yu,Yd]at hlen2;refine⟨(ps++[s.take m],s.drop (m+1)),⟨by rw[←hall,h3];simp,by simp;omega⟩,by simp;omega,?_,rfl⟩;have q1:(ps.length:Int)<(all.length:Int)-1:=by omega
  have q2:¬ (m:Int)<0:=by omega
  have q3:IntKind.wrap .i64 ((m:Int)+0)=m:=by rw[Int.add_zero];exact zab _ (by omega)
  have q3':IntKind.wrap .i64 (m:Int)=m:=zab _ (by omega);have q4:IntKind.wrap .i64 ((m:Int)+1)=((m+1:Nat):Int):=zab _ (by omega);have q5:IntKind.wrap .i64 ((ps.length:Int)+1)=((ps.length+1:Nat):Int):=zab _ (by omega);have q6:(m:Int)≤s.length:=by omega
  have q7:((m+1:Nat):Int)≤s.length:=by omega
  have q7':m+1≤s.length:=by omega
  have q8:(m:Int)+1≤s.length:=by omega
  have e:(Zaj ps++List.replicate (all.length-ps.length) [AV.s []]).set ps.length [AV.s (s.take m)]=Zaj (ps++[s.take m])++List.replicate (all.length-(ps.length+1)) [AV.s []]:=by
   rw[Yai _ _ (by simp),zcx,Ybv,show all.length-ps.length=(all.length-(ps.length+1))+1 by omega,Ybk (n:=all.length-(ps.length+1)),Yce,
    show Zaj (ps++[s.take m])=Zaj ps++[[AV.s (s.take m)]] by simp[Zaj],Ybg]
   rfl
  have hl:(Zaj ps++List.replicate (all.length-ps.length) [AV.s []]).length=all.length:=by simp;omega
  have hk:wkL ((Zaj ps++List.replicate (all.length-ps.length) [AV.s []]).set ps.length [AV.s (s.take m)])=(Zaj ps++List.replicate (all.length-ps.length) [AV.s []]).set ps.length [AV.s (s.take m)]:=by
   rw[e,zb6,Yde,←zb6,zft];simp[wkR,wkA]
  have hg:(Zaj ps++List.replicate (all.length-ps.length) [AV.s []])[ps.length]? = some [AV.s []]:=by
   rw[Yn (by simp),zcx,Ybv,Yda,if_pos (by omega)]
  simp only[Yu,Yd,Y1];rw[←e];have hnl:ps.length<all.length:=by omega
  have hnl':(ps.length:Int)<all.length:=by omega
  clear e hall h3 hpos hlen hlen2;generalize Zaj ps++List.replicate (all.length-ps.length) [AV.s []]=B at *
  obtain⟨hb,hgE⟩:=Yc.1 hg;simp -implicitDefEqProofs[l354_0,hi,q1,q2,q3,q3',q4,q5,q6,q7,q7',q8,hl,hk,hg,hgE,hnl,hnl',h1]
theorem zvr(s:List UInt8)(c:UInt8)(hs:s.length≤1000000):Zb T 346 [.s s,.s [c]]=some (.sl (Zaj (Zx c s)) .an):=by
 have hc:=z2s (T:=T) s c;have hcl:s.count c≤s.length:=List.count_le_length;have hlen:=zbz c s;have h:=zrv (T:=T) c (Zx c s) (by omega) ([],s) ⟨by simp,hs⟩;unfold Zku at h;simp only[Y1,Yel,Yt]at h;have e0:Zaj []=[]:=rfl;rw[e0,Yaz,hlen]at h;have w1:IntKind.wrap .i64 ((s.count c:Int)+1)=((s.count c+1:Nat):Int):=zab _ (by omega);have w2:IntKind.wrap .i64 ((s.length:Int)+1)=((s.length+1:Nat):Int):=zab _ (by omega);have w3:IntKind.wrap .i64 (((s.count c+1:Nat):Int)-1)=((s.count c+1:Nat):Int)-1:=zab _ (by omega);have w4:IntKind.wrap .i64 (((s.count c+1:Nat):Int)-1+1)=((s.count c+1:Nat):Int):=by
  rw[Int.sub_add_cancel];exact zab _ (by omega)
 have mm:min ((s.count c+1:Nat):Int) ((s.length+1:Nat):Int)=((s.count c+1:Nat):Int):=by omega
 have hz:wkL (List.replicate (s.count c+1) [AV.s []])=List.replicate (s.count c+1) [AV.s []]:=by rw[zb6,List.map_replicate];rfl
 obtain⟨L,hL⟩:∃L,L=Zx c s:=⟨_,rfl⟩;rw[←hL]at h ⊢ hlen;have hne:L≠[]:=by intro e;rw[e]at hlen;simp at hlen
 have hset:(Zaj L.dropLast++[[AV.s []]]).set (s.count c) [AV.s (L.getLastD [])]=Zaj L:=by
  have h1:L.dropLast.length=s.count c:=by rw[Yc2];omega
  rw[Yai _ _ (by simp;omega),zcx,h1,Ybv,Yce];have h2:L=L.dropLast++[L.getLastD []]:=by
   rw[List.getLastD_eq_getLast?,List.getLast?_eq_some_getLast hne,Option.getD_some,Ydp]
  conv=>rhs;rw[h2]
  simp[Zaj]
 have hl2:(Zaj L.dropLast++[[AV.s []]]).length=s.count c+1:=by simp[Yc2];omega
 have hg:(Zaj L.dropLast++[[AV.s []]])[s.count c]? = some [AV.s []]:=by
  rw[Yn (by simp[Yc2];omega)];simp[Yc2,hlen]
 have hr:(Zaj L).length=s.count c+1:=by simp[hlen]
 have n1:¬ ((s.count c:Int)+1<0):=by omega
 have n2:(s.count c:Int)+1≤4294967296:=by omega
 have hwR:wkL (Zaj L)=Zaj L:=zft L;generalize s.count c=k at *
 generalize Zaj L.dropLast++[[AV.s []]]=B at *
 obtain⟨hb,hgE⟩:=Yc.1 hg;generalize L.getLastD []=last at *
 generalize Zaj L=R at *
 clear hL hne;have hk:(((k+1:Nat):Int)-1)=k:=by omega
 rw[hk]at h w3 w4;have tk:List.take (k+1) R=R:=Yb (by omega);have hnlt:¬ s.length<k:=by omega
 have nn:(0:Int)≤(k:Int)+1:=by omega
 have nt:((k:Int)+1).toNat=k+1:=by omega
 have nk:(k:Int)<(k:Int)+1:=by omega
 have nle:(k:Int)+1≤(R.length:Int):=by omega
 have nle2:(k:Int)≤(B.length:Int):=by omega
 have hg354:Zb T 354 [.s s,.s [c],.i .i64 0,.i .i64 (-1)]=some (.sl R .an):=by
  rw[zac Zao.h354 rfl,b354];simp -implicitDefEqProofs[hc,w1,w2,w3,w4,mm,hz,h,hset,hl2,hg,hgE,hr,n1,n2,tk,hnlt,nn,nt,nk,nle,nle2,hwR,hr]
 rw[zac Zao.h346 rfl,b346];simp -implicitDefEqProofs[hg354,hwR]
end
end Go.Ab
end
section
namespace Go.Ab
abbrev flt(k a:Int):AV:=.agg [.i .i64 k,.i .i64 0,.i .i64 0,.i .i64 a]
def Zdr(c:UInt8):Bool:=c == 47 || c == 46
def Ze:List UInt8→Nat
 | []=>0
 | c::r=>if Zdr c then 0 else Ze r+1
theorem zhp:∀s,Ze s≤s.length
 | []=>Yf _
 | c::r=>by
  have:=zhp r;simp only[Ze];split
  ·omega
  ·simp only[Yd];omega
theorem zpf:∀s:List UInt8,Lib.indexAny s [47,46]=if Ze s<s.length then (Ze s:Int) else -1
 | []=>rfl
 | c::r=>by
  have ih:=zpf r;have hc:([47,46]:List UInt8).contains c=Zdr c:=by
   rw[Yb5];simp only[Ybd,Yw,Ycr,or_false,Zdr,Yav,beq_iff_eq]
  have hle:=zhp r;simp only[Lib.indexAny,hc,Ze];by_cases hcut:Zdr c=true
  ·simp[hcut]
  ·simp only[hcut,if_false,Yd,Yd9,Yz];rw[ih];by_cases h:Ze r<r.length
   ·have e:((Ze r:Int) == -1)=false:=by simp
    simp[h,e]
   ·simp[h]
theorem zkb:∀(s:List UInt8),Ze s<s.length→∃c,s[Ze s]? = some c∧(c=47∨c=46)
 | [],h=>by simp at h
 | c::r,h=>by
  simp only[Ze]at h ⊢;cases hc:Zdr c with
  | true=>
   refine⟨c,by simp,?_⟩;simpa[Zdr]using hc
  | false=>
   rw[hc]at h;simp only[Yz,if_false,Yd,Yd9]at h ⊢;obtain⟨d,h1,h2⟩:=zkb r h;exact⟨d,by simpa using h1,h2⟩
theorem zpg{l:List UInt8}(h0:¬ 0≤Zp l):l.length≤60∧(ofN (rd l)).length≤60:=by
 have h1:Zb1 0 l<0:=by
  unfold Zp at h0;split at h0
  ·omega
  ·omega
 obtain⟨h2,h3⟩:=zdl 0 l (Yl _) h1;refine⟨by omega,zag (k:=60) ?_⟩;have h4:=zon h3;have h5:10^l.length≤10^60:=Ym (by decide) (by omega);exact Yp h4 (Ye h5 (by decide))
def Zdn(z:Int)(neg:Bool)(s:List UInt8)(c:UInt8)(at_:Nat):Rat×Int×Int:=
 let rest:=s.drop at_
 if 0≤Zp rest then (0,1,Zp rest+at_)
 else if c=47 then (if rd rest=0 then (0,2,at_) else (mkRat z (rd rest),0,0))
 else (mkRat (sg neg (z.natAbs*10^rest.length+rd rest)) (10^rest.length),0,0)
def Z6(s:List UInt8):Rat×Int×Int:=
 let first:=s.take (Ze s)
 if 0≤Zbc first then (0,1,Zbc first+Zcc first)
 else if Ze s<s.length then Zdn (Zy first) (s.head? = some 45) s (s.getD (Ze s) 0) (Ze s+1)
 else (mkRat (Zy first) 1,0,0)
theorem zkc{n:Nat}(h:n≤60):(ofN (10^n)).length≤60:=by
 refine zag (k:=60) ?_;have h5:10^n≤10^60:=Ym (by decide) h;exact Ycv h5 (by decide)
theorem zl7(l:List UInt8):-1≤Zbc l∧Zbc l≤60∧0≤Zcc l∧Zcc l≤1:=by
 have key:∀l',-1≤Zp l'∧Zp l'≤60:=by
  intro l';unfold Zp;split
  ·omega
  ·exact⟨zkx 0 l',ze0 0 l' (by decide)⟩
 unfold Zbc Zcc;refine⟨(key _).1,(key _).2,?_,?_⟩<;>split<;>omega
section
variable{T:Tbl}[Zu T][Zz T][Z1 T][Zw T][Zs T][Zr T][Zg T][Zj T][Z0 T][Zay T][Zcv T][Zao T][Zcu T]
theorem zkd(n:Bool)(a d:List UInt32)(ha:a.length≤10000)(hd:d.length≤10000) :
  Zb T 204 [wh n a,.sl (Za d) .an]=some (.tup (if val d=0 then [efz (fz 0),.b false] else [efz (fz (mkRat (wv n a) (val d))),.b true])):=by
 have c0:=zfh (T:=T);have c1:=zki (T:=T) d (by omega);rw[zac Zay.h204 rfl,b204];by_cases h:val d=0
 ·rw[if_pos h];rw[decide_eq_true h]at c1;generalize fz 0=Z at *
  simp -implicitDefEqProofs[c0,c1]
 ·rw[if_neg h];rw[decide_eq_false h]at c1;have c2:=zn5 (T:=T) n a d ha hd h;generalize fz (mkRat (wv n a) (val d))=R at *
  simp -implicitDefEqProofs[c1,c2]
theorem zqw(l:List UInt8):Zb T 345 [.s l,.s [45]]=some (.b (l.head? = some 45)):=by
 have h1:Zb T 123 [.s l,.s [45]]=some (.b (l.head? = some 45)):=by
  rw[zac Zr.h123 rfl,b123];cases l with
  | nil=>simp -implicitDefEqProofs
  | cons c r=>
   have h2:(1:Int)≤(r.length:Int)+1:=by omega
   by_cases hc:c=45<;>simp -implicitDefEqProofs[h2,hc]
 rw[zac Zao.h345 rfl,b345];simp -implicitDefEqProofs[h1]
theorem zi9(s:List UInt8)(k:Nat)(hk:k≤s.length)(hs:s.length≤1000000):Zb T 253 [.s s,.i .i64 k] =
  some (.tup (if 0≤Zp (s.drop k) then [.sl [] .an,flt 1 (Zp (s.drop k)+k)] else [.sl (Za (ofN (rd (s.drop k)))) .an,flt 0 0])):=by
 have h1:=zho (T:=T) (s.drop k) (by rw[Yv];omega);have hk':(k:Int)≤s.length:=by omega
 rw[zac Zcu.h253 rfl,b253];by_cases h0:0≤Zp (s.drop k)
 ·rw[if_pos h0]at h1 ⊢;have hw:Zp (s.drop k)≤60:=by
   unfold Zp;split
   ·omega
   ·exact ze0 0 _ (by decide)
  have w1:IntKind.wrap .i64 (Zp (s.drop k)+(k:Int))=Zp (s.drop k)+(k:Int):=zab _ (by omega);generalize Zp (s.drop k)=W at *
  simp -implicitDefEqProofs[hk,hk',h1,w1]
 ·rw[if_neg h0]at h1 ⊢;generalize ofN (rd (s.drop k))=R at *
  simp -implicitDefEqProofs[hk,hk',h1]
theorem zxq(n:Bool)(a:List UInt32)(s:List UInt8)(k:Nat)(ha:a.length≤10000)(hk:k≤s.length)(hs:s.length≤1000000):Zb T 254 [wh n a,.s s,.i .i64 k] =
  some (.tup (if 0≤Zp (s.drop k) then [efz (fz 0),flt 1 (Zp (s.drop k)+k)] else if rd (s.drop k)=0 then [efz (fz 0),flt 2 k] else [efz (fz (mkRat (wv n a) (rd (s.drop k)))),flt 0 0])):=by
 have h1:=zi9 (T:=T) s k hk hs;have c0:=zfh (T:=T);rw[zac Zcu.h254 rfl,b254];by_cases h0:0≤Zp (s.drop k)
 ·rw[if_pos h0]at h1 ⊢;generalize fz 0=Z at *
  generalize Zp (s.drop k)+(k:Int)=W at *
  simp -implicitDefEqProofs[h1,c0]
 ·rw[if_neg h0]at h1 ⊢;have hl:=(zpg h0).2;have h2:=zkd (T:=T) n a (ofN (rd (s.drop k))) ha (by omega);rw[zae]at h2;by_cases hz:rd (s.drop k)=0
  ·rw[if_pos hz]at h2 ⊢;clear hl h0;generalize fz 0=Z at *
   generalize ofN (rd (s.drop k))=R at *
   simp -implicitDefEqProofs[h1,h2]
  ·rw[if_neg hz]at h2 ⊢;clear hl h0;generalize fz (mkRat (wv n a) (rd (s.drop k)))=Z at *
   generalize ofN (rd (s.drop k))=R at *
   simp -implicitDefEqProofs[h1,h2]
theorem zqx(ht:∀n:Nat,n≤60→Zb T 252 [.i .i64 n]=some (.sl (Za (ofN (10^n))) .an))(n neg:Bool)(a:List UInt32)(s:List UInt8)(k:Nat)(ha:a.length≤1000)(hk:k≤s.length)(hs:s.length≤1000000) :
  Zb T 255 [wh n a,.b neg,.s s,.i .i64 k] =
  some (.tup (if 0≤Zp (s.drop k) then [efz (fz 0),flt 1 (Zp (s.drop k)+k)] else [efz (fz (mkRat (sg neg (val a*10^(s.drop k).length+rd (s.drop k))) (10^(s.drop k).length))),flt 0 0])):=by
 have h1:=zi9 (T:=T) s k hk hs;have c0:=zfh (T:=T);rw[zac Zcu.h255 rfl,b255];by_cases h0:0≤Zp (s.drop k)
 ·rw[if_pos h0]at h1 ⊢;generalize fz 0=Z at *
  generalize Zp (s.drop k)+(k:Int)=W at *
  simp -implicitDefEqProofs[h1,c0]
 ·rw[if_neg h0]at h1 ⊢;obtain⟨hl60,hl⟩:=zpg h0;have h2:=ht (s.drop k).length hl60;have ht60:=zkc hl60;have h3:=zgr (T:=T) a (ofN (10^(s.drop k).length)) (by omega) (by omega);rw[zae]at h3;have hm:(ofN (val a*10^(s.drop k).length)).length≤1060:=by
   have e1:=zad a;have e2:=zbp (x:=val a) (y:=10^(s.drop k).length) (L:=1000) (M:=60) (by omega) ht60;omega
  have h4:=zuj (T:=T) [ofN (val a*10^(s.drop k).length),ofN (rd (s.drop k))] (by simp) (by
   intro x hx;simp only[Yw,Ycr,or_false]at hx;rcases hx with rfl | rfl<;>omega)
  have e1:lls [ofN (val a*10^(s.drop k).length),ofN (rd (s.drop k))]=[[.sl (Za (ofN (val a*10^(s.drop k).length))) .an],[.sl (Za (ofN (rd (s.drop k)))) .an]]:=rfl;have e2:Zdx [ofN (val a*10^(s.drop k).length),ofN (rd (s.drop k))]=val a*10^(s.drop k).length+rd (s.drop k):=by simp[Zdx,zae]
  rw[e1,e2]at h4;have hsum:(ofN (val a*10^(s.drop k).length+rd (s.drop k))).length≤10000:=by
   have e3:=zbo (x:=((val a*10^(s.drop k).length:Nat):Int)) (y:=((rd (s.drop k):Nat):Int)) (L:=1060) (by rw[Yba];exact hm) (by rw[Yba];omega);rw[←Yad,Yba]at e3;omega
  have h5:=zkd (T:=T) neg (ofN (val a*10^(s.drop k).length+rd (s.drop k))) (ofN (10^(s.drop k).length)) hsum (by omega);have hne:¬ 10^(s.drop k).length=0:=Nat.ne_of_gt (Ya2 (by decide));rw[zae,if_neg hne]at h5;unfold wv at h5;rw[zae]at h5;have hd:(s.drop k).length=s.length-k:=Yv;have w1:IntKind.wrap .i64 ((s.length:Int)-(k:Int))=(((s.drop k).length:Nat):Int):=by
   rw[hd];have:((s.length-k:Nat):Int)=(s.length:Int)-k:=by omega
   rw[this];exact zab _ (by omega)
  clear hl hl60 ht60 hm e1 e2 hsum hne h0 hd ht;generalize 10^(s.drop k).length=TN at *
  generalize (s.drop k).length=dl at *
  generalize fz (mkRat (sg neg (val a*TN+rd (s.drop k))) TN)=R at *
  generalize ofN (val a*TN+rd (s.drop k))=R1 at *
  generalize ofN (val a*TN)=R2 at *
  generalize ofN (rd (s.drop k))=R3 at *
  generalize ofN TN=R4 at *
  simp -implicitDefEqProofs[h1,h2,h3,h4,h5,w1]
theorem zxr(ht:∀n:Nat,n≤60→Zb T 252 [.i .i64 n]=some (.sl (Za (ofN (10^n))) .an))(s:List UInt8)(hs:s.length≤100000) :
  Zb T 256 [.s s]=some (.tup [efz (fz (Z6 s).1),flt (Z6 s).2.1 (Z6 s).2.2]):=by
 have hi:Zb T 344 [.s s,.s [47,46]]=some (.i .i64 (if Ze s<s.length then (Ze s:Int) else -1)):=by
  rw[p344,←zpf];simp only[prim344];rw[if_pos (by omega)]
 have hr:=zr6 (T:=T) (s.take (Ze s)) (by rw[Y6];omega);have hle:=zhp s;have c0:=zfh (T:=T);rw[zac Zcu.h256 rfl,b256];by_cases hc:Ze s<s.length
 ·rw[if_pos hc]at hi;have q1:(0:Int)≤(Ze s:Int):=by omega
  have q2:(Ze s:Int)≤s.length:=by omega
  have q3:¬ (Ze s:Int)<0:=by omega
  by_cases h0:0≤Zbc (s.take (Ze s))
  ·have eR:Z6 s=(0,1,Zbc (s.take (Ze s))+Zcc (s.take (Ze s))):=by simp only[Z6,if_pos h0]
   rw[eR];rw[if_pos h0]at hr;clear eR;simp only;generalize fz 0=Z at *
   generalize Zbc (s.take (Ze s))+Zcc (s.take (Ze s))=W at *
   simp -implicitDefEqProofs[hi,hr,c0,q1,q2,q3,hle]
  ·rw[if_neg h0]at hr;have hrl:=zgv h0;obtain⟨c,hg,hcc⟩:=zkb s hc;obtain⟨_,hgE⟩:=Yc.1 hg;have hd:s.getD (Ze s) 0=c:=by rw[Yd2,hg];rfl
   have eR:Z6 s=Zdn (Zy (s.take (Ze s))) (decide (s.head? = some 45)) s c (Ze s+1):=by simp only[Z6,if_neg h0,if_pos hc,hd]
   rw[eR];have w1:IntKind.wrap .i64 ((Ze s:Int)+1)=((Ze s+1:Nat):Int):=zab _ (by omega);have q4:(Ze s:Int)<s.length:=by omega
   have px:=zqw (T:=T) s;rcases hcc with rfl | rfl
   ·have ho:=zxq (T:=T) (decide (Zy (s.take (Ze s))<0)) (ofN (Zy (s.take (Ze s))).natAbs) s (Ze s+1) (by omega) (by omega) (by omega);rw[zie]at ho;have ho2:Zb T 254 [ez (Zy (s.take (Ze s))),.s s,.i .i64 ((Ze s+1:Nat):Int)]=some (.tup [efz (fz (Zdn (Zy (s.take (Ze s))) (decide (s.head? = some 45)) s 47 (Ze s+1)).1),
      flt (Zdn (Zy (s.take (Ze s))) (decide (s.head? = some 45)) s 47 (Ze s+1)).2.1 (Zdn (Zy (s.take (Ze s))) (decide (s.head? = some 45)) s 47 (Ze s+1)).2.2]):=by
     rw[ho];simp only[Zdn,if_true];split
     ·rfl
     ·split<;>rfl
    clear ho eR hd;generalize Zdn (Zy (s.take (Ze s))) (decide (s.head? = some 45)) s 47 (Ze s+1)=R at *
    generalize fz R.1=Z at *
    have ec:((Ze s+1:Nat):Int)=(Ze s:Int)+1:=by omega
    rw[ec]at ho2 w1;clear hrl h0 c0 ht;generalize Zy (s.take (Ze s))=RZ at *
    simp -implicitDefEqProofs[hi,hr,q1,q2,q3,q4,hle,hc,hg,hgE,w1,ho2]
   ·have ho:=zqx (T:=T) ht (decide (Zy (s.take (Ze s))<0)) (decide (s.head? = some 45)) (ofN (Zy (s.take (Ze s))).natAbs) s (Ze s+1) (by omega) (by omega) (by omega);rw[zae]at ho;have ho2:Zb T 255 [ez (Zy (s.take (Ze s))),.b (decide (s.head? = some 45)),.s s,.i .i64 ((Ze s+1:Nat):Int)]=some (.tup [efz (fz (Zdn (Zy (s.take (Ze s))) (decide (s.head? = some 45)) s 46 (Ze s+1)).1),
      flt (Zdn (Zy (s.take (Ze s))) (decide (s.head? = some 45)) s 46 (Ze s+1)).2.1 (Zdn (Zy (s.take (Ze s))) (decide (s.head? = some 45)) s 46 (Ze s+1)).2.2]):=by
     rw[ho];simp only[Zdn,show ¬ ((46:UInt8)=47) by decide,if_false];split<;>rfl
    clear ho eR hd;generalize Zdn (Zy (s.take (Ze s))) (decide (s.head? = some 45)) s 46 (Ze s+1)=R at *
    generalize fz R.1=Z at *
    have ec:((Ze s+1:Nat):Int)=(Ze s:Int)+1:=by omega
    rw[ec]at ho2 w1;clear hrl h0 c0 ht;generalize Zy (s.take (Ze s))=RZ at *
    generalize decide (s.head? = some 45)=hd45 at *
    simp -implicitDefEqProofs[hi,hr,q1,q2,q3,q4,hle,hc,hg,hgE,w1,px,ho2]
 ·rw[if_neg hc]at hi;have hcl:Ze s=s.length:=by omega
  have htk:s.take (Ze s)=s:=by rw[hcl];exact Ybf
  rw[htk]at hr;by_cases h0:0≤Zbc s
  ·have eR:Z6 s=(0,1,Zbc s+Zcc s):=by simp only[Z6,htk,if_pos h0]
   rw[eR];rw[if_pos h0]at hr;clear eR;simp only;generalize fz 0=Z at *
   generalize Zbc s+Zcc s=W at *
   simp -implicitDefEqProofs[hi,hr,c0]
  ·have eR:Z6 s=(mkRat (Zy s) 1,0,0):=by simp only[Z6,htk,if_neg h0,if_neg hc]
   rw[eR];rw[if_neg h0]at hr;have hrl:=zgv h0;have h1:=zeo (T:=T) 1 (by decide);have h2:=zkd (T:=T) (decide (Zy s<0)) (ofN (Zy s).natAbs) (ofN 1) (by omega) (by rw[zd2];decide);rw[zae,if_neg (by decide),zie]at h2;clear hrl h0 c0 ht eR;simp only;generalize fz (mkRat (Zy s) 1)=Z at *
   generalize Zy s=RZ at *
   generalize ofN 1=O at *
   simp -implicitDefEqProofs[hi,hr,h1,h2]
end
end Go.Ab
end
section
namespace Go.Ab
def Za4:List (List UInt8)→Nat→List Rat→List Rat×Int×Int
 | [],_,acc=>(acc,0,0)
 | w::ws,k,acc=>if (Z6 w).2.1=0 then Za4 ws (k+w.length+1) (acc++[(Z6 w).1]) else ([],(Z6 w).2.1,(Z6 w).2.2+k)
def Za2(s:List UInt8):List Rat×Int×Int:=if s=[] then ([],0,0) else Za4 (Zx 44 s) 0 []
theorem zcb(w:List UInt8):((Z6 w).2.1=0∧(Z6 w).2.2=0)∨(((Z6 w).2.1=1∨(Z6 w).2.1=2)∧0≤(Z6 w).2.2∧(Z6 w).2.2≤w.length+62):=by
 have hle:=zhp w;obtain⟨z1,z2,z3,z4⟩:=zl7 (w.take (Ze w));unfold Z6;simp only;split
 ·next h=>refine .inr ⟨.inl rfl,?_,?_⟩<;>simp only<;>omega
 ·split
  ·next h h2=>
   unfold Zdn;simp only;split
   ·next h3=>
    have:Zp (w.drop (Ze w+1))≤60:=by
     unfold Zp;split
     ·omega
     ·exact ze0 0 _ (by decide)
    refine .inr ⟨.inl rfl,?_,?_⟩<;>simp only<;>omega
   ·split
    ·split
     ·refine .inr ⟨.inr rfl,?_,?_⟩<;>simp only<;>omega
     ·left;simp
    ·left;simp
  ·left;simp
section
variable{T:Tbl}[Zab T][Zu T][Zz T][Z1 T][Zw T][Zs T][Zr T][Za0 T][Zg T][Zj T][Z0 T][Zay T][Zcv T][Zao T][Zby T][Zcu T][Zaz T][Zcj T][Zco T]
theorem zxs(n:Nat)(hn:n≤60):Zb T 252 [.i .i64 n]=some (.sl (Za (ofN (10^n))) .an):=by
 have c1:=zeo (T:=T) 10 (by decide);have hb:Z7 10=4:=by decide +kernel
 have c2:=zyf (T:=T) (ofN 10) n (by
  have:=zag (n:=10) (k:=1) (by decide);omega) (by rw[zae,hb];decide) (by rw[zae,hb];omega)
 rw[zae]at c2;rw[zac Zcu.h252 rfl,b252];generalize ofN (10^n)=R at *
 generalize ofN 10=N at *
 simp -implicitDefEqProofs[c1,c2]
theorem zl8(s:List UInt8)(hs:s.length≤100000):Zb T 256 [.s s]=some (.tup [efz (fz (Z6 s).1),flt (Z6 s).2.1 (Z6 s).2.2]):=
 zxr (T:=T) zxs s hs
def Zjb(ws:List (List UInt8))(y:Nat×Nat×List Rat):St:=
 ⟨[(3,.ptr (.loc 3) 1 4 0 0),(4,.bs (.loc 4) 2 3 0 y.2.2.length),(5,.i .i64 y.2.1),(14,.sl (Zaj ws) .an),(15,.i .i64 ws.length),(16,.i .i64 y.1)],
  [(.loc 3,⟨1,.str,4,[[.i .i64 0,.i .i64 0,.i .i64 0,.i .i64 0]]⟩),(.loc 4,⟨2,.own,3,Zf (fzs y.2.2)⟩)],4⟩
def Zid(r:List Rat×Int×Int):Option (Ex×St):=
 if r.2.1=0 then some (.n,⟨[(3,.ptr (.loc 3) 1 4 0 0),(4,.bs (.loc 4) 2 3 0 r.1.length)],[(.loc 3,⟨1,.str,4,[[.i .i64 0,.i .i64 0,.i .i64 0,.i .i64 0]]⟩),(.loc 4,⟨2,.own,3,Zf (fzs r.1)⟩)],4⟩)
 else some (.r,⟨[(2,.sl [] .an),(3,.ptr (.loc 3) 1 4 0 0)],[(.loc 3,⟨1,.str,4,[[.i .i64 r.2.1,.i .i64 0,.i .i64 0,.i .i64 r.2.2]]⟩)],3⟩)
theorem z1u(ws:List (List UInt8))(hl:ws.length≤1000000)(hw:∀w∈ws,w.length≤100000):∀y:Nat×Nat×List Rat,(y.1≤ws.length∧y.2.1≤y.1*100001∧y.2.2.length=y.1) →
  Zn T 0 0 (.norm false [3,4]) l275_0 (Zjb ws y)=Zid (Za4 (ws.drop y.1) y.2.1 y.2.2):=by
 refine zan (Zjb ws) (fun y=>y.1≤ws.length∧y.2.1≤y.1*100001∧y.2.2.length=y.1) (fun y=>ws.length-y.1) (fun y=>Zid (Za4 (ws.drop y.1) y.2.1 y.2.2)) ?_
 rintro⟨i,k,acc⟩ ⟨hi,hk,ha⟩
 simp only at hi hk ha ⊢;by_cases h0:i<ws.length
 ·have hm:=Yaf h0;have hwl:=hw _ hm;have hg:(Zaj ws)[i]? = some [.s (ws[i]'h0)]:=by simp[Zaj,h0]
  have hil:i<(Zaj ws).length:=by simpa using h0
  have hil':(i:Int)<ws.length:=by omega
  obtain⟨_,hgE⟩:=Yc.1 hg;have hwR:=zft ws;have c:=zl8 (T:=T) (ws[i]'h0) hwl;have hf:=zcb (ws[i]'h0);have hdr:ws.drop i=ws[i]'h0::ws.drop (i+1):=Yk h0;have hws:=zbr h0 (by omega);generalize ws[i]'h0=w at *
  have hml:(fzs acc).length=i:=by rw[zc7,ha]
  have hb4:i≤4294967295:=by omega
  rcases hf with ⟨f1,f2⟩ | ⟨f1,f2,f3⟩
  ·left;have hp:=zh5 hml (fz (Z6 w).1);have ef:fzs (acc++[(Z6 w).1])=fzs acc++[fz (Z6 w).1]:=by simp[fzs]
   have w1:IntKind.wrap .i64 ((w.length:Int)+1)=(w.length:Int)+1:=zab _ (by omega);have w2:IntKind.wrap .i64 ((k:Int)+((w.length:Int)+1))=((k+w.length+1:Nat):Int):=by
    have:((k+w.length+1:Nat):Int)=(k:Int)+((w.length:Int)+1):=by omega
    rw[this];exact zab _ (by omega)
   refine⟨(i+1,k+w.length+1,acc++[(Z6 w).1]),⟨by omega,by simp only;omega,by simp[ha]⟩,by simp only;omega,?_,?_⟩
   ·unfold Zjb;simp only[Yu,Yd,Y1,ha];rw[ef];rw[f1,f2]at c;clear hdr ef hw f1 f2;generalize fz (Z6 w).1=X at *
    generalize fzs acc=M at *
    generalize Zaj ws=R at *
    simp -implicitDefEqProofs[l275_0,h0,hil,hil',hg,hgE,c,hws,w1,w2,hml,hb4,hp,hwR]
   ·simp only;rw[hdr,Za4,if_pos f1]
  ·right;have hne:¬ (Z6 w).2.1=0:=by omega
   have er:Za4 (ws.drop i) k acc=([],(Z6 w).2.1,(Z6 w).2.2+k):=by rw[hdr,Za4,if_neg hne]
   rw[er];unfold Zid Zjb;simp only[ha];rw[if_neg hne];have w1:IntKind.wrap .i64 ((Z6 w).2.2+(k:Int))=(Z6 w).2.2+(k:Int):=zab _ (by omega);clear hdr er hw;generalize fz (Z6 w).1=X at *
   generalize (Z6 w).2.1=K at *
   generalize (Z6 w).2.2=A at *
   generalize fzs acc=M at *
   generalize Zaj ws=R at *
   rcases f1 with rfl | rfl<;>(constructor<;>simp -implicitDefEqProofs[l275_0,h0,hil,hil',hg,hgE,c,w1])
 ·right;have hi2:i=ws.length:=by omega
  subst hi2;rw[Yac,Za4];unfold Zid Zjb;simp only[if_true,ha];have hn:¬ ws.length<(Zaj ws).length:=by simp
  generalize fzs acc=M at *
  generalize Zaj ws=R at *
  generalize ws.length=n at *
  constructor<;>simp -implicitDefEqProofs[l275_0]
theorem zhq:∀(ws:List (List UInt8)) (k:Nat) (acc:List Rat),(Za4 ws k acc).2.1≠0→(Za4 ws k acc).1=[]
 | [],_,_,h=>by simp[Za4]at h
 | w::ws,k,acc,h=>by
  unfold Za4 at h ⊢;split at h
  ·next h1=>rw[if_pos h1];exact zhq ws _ _ h
  ·next h1=>rw[if_neg h1]
theorem zke:∀(ws:List (List UInt8)) (k:Nat) (acc:List Rat),(Za4 ws k acc).2.1=0→(Za4 ws k acc).2.2=0
 | [],_,_,h=>rfl
 | w::ws,k,acc,h=>by
  unfold Za4 at h ⊢;split at h
  ·next h1=>rw[if_pos h1];exact zke ws _ _ h
  ·next h1=>exact absurd h h1
theorem zph(s:List UInt8)(hs:s.length≤100000) :
  Zb T 275 [.s s]=some (.tup [.sl (Zf (fzs (Za2 s).1)) .an,flt (Za2 s).2.1 (Za2 s).2.2]):=by
 rw[zac Zco.h275 rfl,b275];unfold Za2;by_cases h0:s=[]
 ·subst h0;have e0:fzs []=[]:=rfl;simp only[if_true,e0,zaz];simp -implicitDefEqProofs
 ·rw[if_neg h0];have hpl:∀(l:List UInt8) (w:List UInt8),w∈Zx 44 l→w.length≤l.length:=by
   intro l
   induction l with
   | nil=>intro w hw;simp[Zx]at hw;simp[hw]
   | cons b l ih=>
    intro w hw;unfold Zx at hw;split at hw
    ·rcases Yw.1 hw with rfl | hw
     ·simp
     ·have:=ih w hw;simp;omega
    ·cases hsp:Zx 44 l with
     | nil=>rw[hsp]at hw;simp at hw;simp[hw]
     | cons p r=>
      rw[hsp]at hw ih;rcases Yw.1 hw with rfl | hw
      ·have:=ih p Y9;simp;omega
      ·have:=ih w (Ys _ hw);simp;omega
  have hcl:(Zx 44 s).length≤s.length+1:=by
   rw[zbz];have:s.count 44≤s.length:=List.count_le_length;omega
  have c:=zvr (T:=T) s 44 (by omega);have h:=z1u (T:=T) (Zx 44 s) (by omega) (fun w hw=>by have:=hpl s w hw;omega) (0,0,[]) ⟨Yl _,Yl _,rfl⟩;have hnil:=zhq (Zx 44 s) 0 [];have hat:=zke (Zx 44 s) 0 [];simp only[Yaa]at h;unfold Zjb at h;have e0:fzs []=[]:=rfl;simp only[e0,zaz,Yt,Y1]at h;generalize Za4 (Zx 44 s) 0 []=r at *
  unfold Zid at h;have hsl:=zcx (Zx 44 s);have hwR:=zft (Zx 44 s);generalize Zaj (Zx 44 s)=R at *
  generalize (Zx 44 s).length=n at *
  by_cases hr:r.2.1=0
  ·rw[if_pos hr]at h;have ha:=hat hr;rw[hr,ha];have hml:(fzs r.1).length=r.1.length:=zc7 r.1;generalize fzs r.1=M at *
   generalize r.1.length=m at *
   have ht:List.take m M=M:=Yb (by omega);simp -implicitDefEqProofs[h0,c,hsl,h,ht,hml,hwR]
  ·rw[if_neg hr]at h;rw[hnil hr];simp only[e0,zaz];simp -implicitDefEqProofs[h0,c,hsl,h,hwR]
end
end Go.Ab
end
section
namespace Go.Ab
def Dig(l:List UInt8):Prop:=∀c∈l,48≤c.toNat∧c.toNat≤57
def Zpa(l:List UInt8):Prop:=∀c∈l,Zdr c=false
theorem znd{c:UInt8}:∀{l:List UInt8},(∀b∈l,b≠c)→Zx c l=[l]
 | [],_=>rfl
 | b::l,h=>by
  have h1:=h b Y9;have h2:=znd (l:=l) fun d hd=>h d (Ys _ hd);simp[Zx,h1,h2]
theorem zjs{c:UInt8}:∀{l:List UInt8} (r:List UInt8),(∀b∈l,b≠c)→Zx c (l++c::r)=l::Zx c r
 | [],r,_=>by simp[Zx]
 | b::l,r,h=>by
  have h1:=h b Y9;have h2:=zjs (l:=l) r fun d hd=>h d (Ys _ hd);simp[Zx,h1,h2]
end Go.Ab
end
section
namespace Go.Ab
def Zkx(c:Fz)(r:List Fz):List UInt8:=Zk5 (fv c)++[124]++List.intercalate [44] (Zje r)
def Zlr(s:Sm):List (List UInt8):=
 [s.nm]++(s.c.zip s.a).map (fun p=>Zkx p.1 p.2)++[[98,32]++List.intercalate [44] (Zje s.b)]++(if s.e=[] then [] else [[101,32]++List.intercalate [44] (Zje s.e)])
def textS(s:Sm):List UInt8:=List.intercalate [10] (Zlr s)
structure Rd where
 rest:List UInt8
 at_:Nat
 over:Bool
def hdC(c:UInt8)(l:List UInt8):List UInt8:=l.takeWhile (· != c)
def tlC(c:UInt8)(l:List UInt8):List UInt8:=(l.dropWhile (· != c)).drop 1
def Zc(r:Rd):List UInt8:=if r.over then [] else hdC 10 r.rest
def Zo(r:Rd):Rd:=if r.over then r else ⟨tlC 10 r.rest,r.at_+(hdC 10 r.rest).length+(if r.rest.contains 10 then 1 else 0),!r.rest.contains 10⟩
def shF(f:Int×Int)(b:Int):Int×Int:=if f=(0,0) then f else (f.1,f.2+b)
def Zbr(l:List UInt8)(from_:Int):Rat×List Rat×Int×Int:=
 if (Z6 (hdC 124 l)).2≠(0,0) then ((Z6 (hdC 124 l)).1,[],shF (Z6 (hdC 124 l)).2 from_)
 else ((Z6 (hdC 124 l)).1,(Za2 (tlC 124 l)).1,shF (Za2 (tlC 124 l)).2 (from_+(hdC 124 l).length+1))
def Zcd(c:UInt8)(r:Rd):List Rat×Int×Int:=
 if (Zc r).take 2=[c,32] then ((Za2 ((Zc r).drop 2)).1,shF (Za2 ((Zc r).drop 2)).2 (r.at_+2)) else ([],1,r.at_)
end Go.Ab
end
section
namespace Go.Ab
class Zlx (T:Tbl):Prop where
end Go.Ab
end
section
namespace Go.Ab
theorem zvn(l:List Fz)(x:Fz):sumF (l++[x])=sumF l+fv x:=by simp[sumF]
theorem zh9(l:List Fz){i:Nat}(h:i<l.length):sumF (l.take (i+1))=sumF (l.take i)+fv (l[i]'h):=by
 rw[Ybb h,zvn]
theorem zia{l:List Fz}{B:Nat}(hw:∀x∈l,fsz x≤B)(hB:1≤B):∀i,i≤l.length→sz (sumF (l.take i))≤i*(B+1)+1
 | 0,_=>by
  grind[sumF,zwq]
 | i+1,hi=>by
  have ih:=zia hw hB i (by omega);rw[zh9 l hi];have h1:=z8k (sumF (l.take i)) (fv (l[i]'hi));have h3:=zza (hw _ (Yaf hi)) hB
  grind
theorem zey{x:Fz}(h:Zbf x=true):fsz x≤6:=by
 unfold Zbf at h;simp only[Yo,decide_eq_true_eq]at h;obtain⟨h1,h2⟩:=h;unfold Zce at h1;have e:x=fz (fv x):=by grind
 rw[e]at h2 ⊢;have:=z2n (q:=fv x) (b:=190) h2;rw[zco];omega
section
variable{T:Tbl}[Zab T][Zu T][Zz T][Z1 T][Zw T][Zs T][Zg T][Zj T][Z0 T][Za9 T][Zbi T][Zby T][Zcz T][Zca T][Zdb T][Ze4 T][Ze3 T][Zat T]
def Zj8(l:List Fz)(i:Nat):St:=⟨[(2,.ptr (.loc 2) 1 3 0 0),(3,.ptr (.loc 3) 2 3 0 0),(7,.sl (Zf l) .an),(8,.i .i64 l.length),(9,.i .i64 i)],
 [(.loc 2,⟨1,.str,3,[Zdy]⟩),(.loc 3,⟨2,.str,3,[Zd7 (fz (sumF (l.take i)))]⟩)],4⟩
theorem zyz(l:List Fz){B:Nat}(hw:∀x∈l,fsz x≤B)(hB:1≤B)(hS:l.length*(B+1)+1≤1000) :
  Zn T 0 0 (.norm false [2,3]) l562_0 (Zj8 l 0)=some (.n,⟨[(2,.ptr (.loc 2) 1 3 0 0),(3,.ptr (.loc 3) 2 3 0 0)],[(.loc 2,⟨1,.str,3,[Zdy]⟩),(.loc 3,⟨2,.str,3,[Zd7 (fz (sumF l))]⟩)],4⟩):=by
 refine zba (Zj8 l) l.length _ (fun i hi=>?_) ?_
 ·have hlen:l.length*1≤1000:=Ye (Yag _ (show 1≤B+1 by omega)) (by omega);have hBB:B+1≤1000:=Ye (Yb7 _ (show 0<l.length by omega)) (by omega);have hws:=zbr hi (by omega);have ha1:=hw _ (Yaf hi);have s1:=zia hw hB i (by omega);have s2:i*(B+1)≤l.length*(B+1):=Y5 _ (by omega);have c2:=zxu (T:=T) (fz (sumF (l.take i))) (l[i]'hi) (by rw[zco];omega) (by omega);rw[zit,←zh9 l hi]at c2;unfold Zj8;simp -implicitDefEqProofs[l562_0,hi,hws,c2]
 ·unfold Zj8;constructor<;>simp -implicitDefEqProofs[l562_0]
theorem zf8(l:List Fz){B:Nat}(hw:∀x∈l,fsz x≤B)(hB:1≤B)(hS:l.length*(B+1)+1≤1000) :
  Zb T 562 [.sl (Zf l) .an]=some (efz (fz (sumF l))):=by
 have h0:=zfh (T:=T);have h:=zyz (T:=T) l hw hB hS;unfold Zj8 at h;have e0:sumF (l.take 0)=0:=rfl;rw[e0]at h;simp only[Yt]at h;rw[zac Zat.h562 rfl,b562];simp -implicitDefEqProofs[h0,h]
def Zg5(m:List (List Fz))(r:List Fz)(j i:Nat):St:=⟨[(7,.sl (Z2 m) .an),(8,.i .i64 m.length),(9,.i .i64 j),(13,.sl (Zf r) .an),(14,.i .i64 r.length),(15,.i .i64 i)],[],2⟩
theorem zvo(m:List (List Fz))(r:List Fz)(j:Nat)(hl:r.length≤1000)(hw:∀x∈r,fsz x≤1000) :
  Zn T 0 2 (.norm false [7,8,9]) l560_0 (Zg5 m r j 0)=if (r.drop 0).all Zbf=true then some (.n,⟨[(7,.sl (Z2 m) .an),(8,.i .i64 m.length),(9,.i .i64 j)],[],2⟩) else some (.r,⟨[(2,.b false)],[],2⟩):=by
 refine zbb (Zg5 m r j) r.length (fun i=>if (r.drop i).all Zbf=true then some (.n,⟨[(7,.sl (Z2 m) .an),(8,.i .i64 m.length),(9,.i .i64 j)],[],2⟩) else some (.r,⟨[(2,.b false)],[],2⟩)) (fun i hi=>?_) ?_
 ·have hws:=zbr hi (by omega);have hx:=hw _ (Yaf hi);have c1:=zq1 (T:=T) (r[i]'hi) (by omega);have c2:=zq2 (T:=T) (r[i]'hi) (by omega);have key:(r.drop i).all Zbf=(Zbf (r[i]'hi)&&(r.drop (i+1)).all Zbf):=by rw[Yk hi,Ybz]
  have hn:Zbf (r[i]'hi)=(Zce (r[i]'hi)&&decide (Zdc (r[i]'hi)≤190)):=rfl;by_cases h1:Zce (r[i]'hi)=true
  ·by_cases h2:Zdc (r[i]'hi)≤190
   ·left;refine⟨?_,by grind⟩;have h3:¬ (190:Int)<Zdc (r[i]'hi):=by omega
    unfold Zg5;simp -implicitDefEqProofs[l560_0,hi,hws,c1,c2,h1,h3]
   ·right;have h3:(190:Int)<Zdc (r[i]'hi):=by omega
    rw[if_neg (by grind)];unfold Zg5;constructor<;>simp -implicitDefEqProofs[l560_0,hi,c1,c2,h1,h3]
  ·right;have h1':Zce (r[i]'hi)=false:=by grind
   rw[if_neg (by grind)];unfold Zg5;constructor<;>simp -implicitDefEqProofs[l560_0,hi,c1,h1']
 ·simp only[Yac,Yd5,if_true];unfold Zg5;constructor<;>simp -implicitDefEqProofs[l560_0]
def Zhp(m:List (List Fz))(i:Nat):St:=⟨[(7,.sl (Z2 m) .an),(8,.i .i64 m.length),(9,.i .i64 i)],[],2⟩
theorem zvp(m:List (List Fz))(hl:m.length≤1000)(hw:∀r∈m,r.length≤1000∧∀x∈r,fsz x≤1000) :
  Zn T 0 0 (.norm false []) l560_1 (Zhp m 0)=if Zck (m.drop 0)=true then some (.n,⟨[],[],2⟩) else some (.r,⟨[(2,.b false)],[],2⟩):=by
 refine zbb (Zhp m) m.length (fun i=>if Zck (m.drop i)=true then some (.n,⟨[],[],2⟩) else some (.r,⟨[(2,.b false)],[],2⟩)) (fun i hi=>?_) ?_
 ·have hws:=zbr hi (by omega);obtain⟨h1,h2⟩:=hw _ (Yaf hi);have h:=zvo (T:=T) m (m[i]'hi) i h1 h2;have key:Zck (m.drop i)=((m[i]'hi).all Zbf&&Zck (m.drop (i+1))):=by grind[Zck,List.drop_eq_getElem_cons]
  unfold Zg5 at h;rw[Yaa]at h;simp only[Yt]at h;by_cases hr:(m[i]'hi).all Zbf=true
  ·left;rw[if_pos hr]at h;refine⟨?_,by grind⟩;unfold Zhp;simp -implicitDefEqProofs[l560_1,hi,hws,h]
  ·right;rw[if_neg hr]at h;rw[if_neg (by grind)];unfold Zhp;constructor<;>simp -implicitDefEqProofs[l560_1,hi,h]
 ·have e:Zck []=true:=rfl;simp only[Yac,e,if_true];unfold Zhp;constructor<;>simp -implicitDefEqProofs[l560_1]
theorem zeq(m:List (List Fz))(hl:m.length≤1000)(hw:∀r∈m,r.length≤1000∧∀x∈r,fsz x≤1000):Zb T 560 [.sl (Z2 m) .an]=some (.b (Zck m)):=by
 have h:=zvp (T:=T) m hl hw;unfold Zhp at h;rw[Yaa]at h;simp only[Yt]at h;rw[zac Zat.h560 rfl,b560];cases hn:Zck m with
 | true=>rw[hn]at h;simp at h;simp -implicitDefEqProofs[h]
 | false=>rw[hn]at h;simp at h;simp -implicitDefEqProofs[h]
def Zhq(a:List (List Fz))(i:Nat):St:=⟨[(43,.sl (Z2 a) .an),(44,.i .i64 a.length),(45,.i .i64 i)],[],2⟩
theorem zru(a:List (List Fz))(hl:a.length≤1000) :
  Zn T 0 0 (.norm false []) l559_0 (Zhq a 0)=if Zbe (a.drop 0) 0=true then some (.n,⟨[],[],2⟩) else some (.r,⟨[(2,.b false)],[],2⟩):=by
 refine zbb (Zhq a) a.length (fun i=>if Zbe (a.drop i) i=true then some (.n,⟨[],[],2⟩) else some (.r,⟨[(2,.b false)],[],2⟩)) (fun i hi=>?_) ?_
 ·have hws:=zbr hi (by omega);have key:Zbe (a.drop i) i=(decide ((a[i]'hi).length=i)&&Zbe (a.drop (i+1)) (i+1)):=by rw[Yk hi,Zbe]
  by_cases hr:(a[i]'hi).length=i
  ·left;refine⟨?_,by grind⟩;unfold Zhq;simp -implicitDefEqProofs[l559_0,hi,hws,hr]
  ·right;have hr':¬ ((a[i]'hi).length:Int)=i:=by omega
   rw[if_neg (by grind)];unfold Zhq;constructor<;>simp -implicitDefEqProofs[l559_0,hi,hr']
 ·have e:Zbe [] a.length=true:=rfl;simp only[Yac,e,if_true];unfold Zhq;constructor<;>simp -implicitDefEqProofs[l559_0]
theorem zmw(s:Sm)(hs:SmS s):Zb T 559 [esm s]=some (.b (Zbp s)):=by
 have h:=zru (T:=T) s.a hs.al;unfold Zhq at h;rw[Yaa]at h;have l4:=hs.el;rw[zac Zat.h559 rfl,b559];unfold Zbp;obtain⟨nm,c,a,b,e⟩:=s;by_cases p1:b.length<1
 ·have q2:b=[]:=Yb1.1 (by omega);subst q2;simp -implicitDefEqProofs[]
 have p1':1≤b.length:=by omega
 have m2:¬ (b.length:Int)<1:=by omega
 by_cases p2:8<b.length
 ·have q2:¬ b.length≤8:=by omega
  have m3:(8:Int)<b.length:=by omega
  simp -implicitDefEqProofs[p1',q2,m2,m3]
 have p2':b.length≤8:=by omega
 have m3:¬ (8:Int)<b.length:=by omega
 by_cases p3:c.length=b.length
 rotate_left
 ·have q3:¬ (c.length:Int)=b.length:=by omega
  simp -implicitDefEqProofs[p1',p2',m2,m3,p3,q3]
 by_cases p4:a.length=b.length
 rotate_left
 ·have q4:¬ (a.length:Int)=b.length:=by omega
  simp -implicitDefEqProofs[p1',p2',m2,m3,p3,p4,q4]
 rw[p4]at h;by_cases p5:e.length=b.length
 ·cases hsh:Zbe a 0<;>rw[hsh]at h<;>simp at h<;>simp -implicitDefEqProofs[p1',p2',m2,m3,p3,p4,p5,h]
 have q5:¬ (e.length:Int)=b.length:=by omega
 by_cases p6:e.length=0
 ·have e0:e=[]:=Yb1.1 p6;have q7:¬ (0:Int)=b.length:=by omega
  have q8:¬ 0=b.length:=by omega
  subst e0;cases hsh:Zbe a 0<;>rw[hsh]at h<;>simp at h<;>simp -implicitDefEqProofs[p1',p2',m2,m3,p3,p4,q7,q8,h]
 ·have q7:¬ e=[]:=fun h=>p6 (by grind);simp -implicitDefEqProofs[p1',p2',m2,m3,p3,p4,p5,q5,p6]
def bxS(s:Sm):Box:=⟨1,.str,5,[[.s s.nm,.sl (Zf s.c) .an,.sl (Z2 s.a) .an,.sl (Zf s.b) .an,.sl (Zf s.e) .an]]⟩
def Zjg(s:Sm)(i:Nat):St:=⟨[(1,.ptr (.loc 1) 1 5 0 0),(6,.sl (Z2 s.a) .an),(7,.i .i64 s.a.length),(8,.i .i64 i)],[(.loc 1,bxS s)],3⟩
theorem zvq(s:Sm)(hl:s.a.length≤8)(hc:s.c.length=s.a.length)(h1:∀r∈s.a,r.length≤8∧∀x∈r,fsz x≤6)(h2:∀x∈s.c,fsz x≤6) :
  Zn T 0 0 (.norm false []) l561_0 (Zjg s 0)=if Zbq (s.a.drop 0) (s.c.drop 0)=true then some (.n,⟨[],[],2⟩) else some (.r,⟨[(2,.b false)],[],2⟩):=by
 refine zbb (Zjg s) s.a.length (fun i=>if Zbq (s.a.drop i) (s.c.drop i)=true then some (.n,⟨[],[],2⟩) else some (.r,⟨[(2,.b false)],[],2⟩)) (fun i hi=>?_) ?_
 ·have hic:i<s.c.length:=by omega
  have hws:=zbr hi (by omega);obtain⟨g1,g2⟩:=h1 _ (Yaf hi);have g3:=h2 _ (Yaf hic);have c1:=zf8 (T:=T) (s.a[i]'hi) g2 (by decide) (by omega);have z1:=zia g2 (by decide) (s.a[i]'hi).length (Yf _);rw[Yb (Yf _)]at z1;have c2:=zhr (T:=T) (fz (sumF (s.a[i]'hi))) (s.c[i]'hic) (by rw[zco];omega) (by omega);rw[zit]at c2;have key:Zbq (s.a.drop i) (s.c.drop i)=(decide (sumF (s.a[i]'hi)=fv (s.c[i]'hic))&&Zbq (s.a.drop (i+1)) (s.c.drop (i+1))):=by
   grind[Zbq,List.drop_eq_getElem_cons,List.zip_cons_cons]
  have hic':(i:Int)<s.c.length:=by omega
  generalize fz (sumF (s.a[i]'hi))=z at *
  by_cases he:sumF (s.a[i]'hi)=fv (s.c[i]'hic)
  ·left;refine⟨?_,by grind⟩;unfold Zjg bxS;simp -implicitDefEqProofs[l561_0,hi,hws,c1,c2,he,hic,hic']
  ·right;rw[if_neg (by grind)];unfold Zjg bxS;constructor<;>simp -implicitDefEqProofs[l561_0,hi,c1,c2,he,hic,hic']
 ·have e:Zbq [] (s.c.drop s.a.length)=true:=rfl;simp only[Yac,e,if_true];unfold Zjg bxS;constructor<;>simp -implicitDefEqProofs[l561_0]
theorem zof(s:Sm)(hl:s.a.length≤8)(hc:s.c.length=s.a.length)(h1:∀r∈s.a,r.length≤8∧∀x∈r,fsz x≤6)(h2:∀x∈s.c,fsz x≤6):Zb T 561 [esm s]=some (.b (Zbq s.a s.c)):=by
 have h:=zvq (T:=T) s hl hc h1 h2;unfold Zjg bxS at h;rw[Yaa,Yaa]at h;rw[zac Zat.h561 rfl,b561];obtain⟨nm,c,a,b,e⟩:=s;cases hr:Zbq a c<;>rw[hr]at h<;>simp at h<;>simp -implicitDefEqProofs[h]
theorem zc8:∀(a:List (List Fz)) (i:Nat),Zbe a i=true→∀r∈a,r.length≤i+a.length
 | [],_,_,r,hr=>by grind
 | x::a,i,h,r,hr=>by
  simp only[Zbe,Yo,decide_eq_true_eq]at h;rcases Yw.1 hr with rfl | hr
  ·omega
  ·have:=zc8 a (i+1) h.2 r hr
   grind
theorem zjn{s:Sm}(h:Zbp s=true):1≤s.b.length∧s.b.length≤8∧s.c.length=s.b.length∧s.a.length=s.b.length∧(s.e.length=s.b.length∨s.e.length=0)∧Zbe s.a 0=true:=by
 grind[Zbp]
theorem zkr{m:List (List Fz)}(h:Zck m=true):∀r∈m,∀x∈r,fsz x≤6:=by
 grind[Zck,zey]
theorem zeg{l:List Fz}(hl:l.length≤8)(hw:∀x∈l,fsz x≤6):sz (sumF l)≤57:=by
 have:=zia hw (by decide) l.length (Yf _)
 grind
end
section
variable{T:Tbl}[Zab T][Zu T][Zz T][Z1 T][Zw T][Zs T][Zg T][Zj T][Z0 T][Za9 T][Zbi T][Zby T][Zcz T][Zca T][Zdb T][Ze4 T][Ze3 T][Zaz T][Zcb T][Zat T]
theorem zmx(s:Sm)(hs:SmS s):Zb T 551 [esm s]=some (.i .i64 (Zcl s)):=by
 have o1:=zxt (T:=T);have c1:=zma (T:=T) 2 0 s.nm (Ye hs.nm (by decide));have c2:=zmw (T:=T) s hs;have c3:=zeq (T:=T) s.a hs.al (fun r hr=>⟨(hs.a r hr).1,fun x hx=>Ye ((hs.a r hr).2 x hx) (by decide)⟩);have c4:=zeq (T:=T) [s.b,s.c,s.e] (by simp) (fun r hr=>by
  simp only[Yw,Ycr,or_false]at hr;rcases hr with rfl | rfl | rfl
  ·exact⟨hs.bl,fun x hx=>Ye (hs.b x hx) (by decide)⟩
  ·exact⟨hs.cl,fun x hx=>Ye (hs.c x hx) (by decide)⟩
  ·exact⟨hs.el,fun x hx=>Ye (hs.e x hx) (by decide)⟩)
 replace c4:Zb T 560 [.sl [[.sl (Zf s.b) .an],[.sl (Zf s.c) .an],[.sl (Zf s.e) .an]] .an]=some (.b (Zck [s.b,s.c,s.e])):=c4;have k5:=zof (T:=T) s;have k6:=fun(hl:s.b.length≤8) (h:∀x∈s.b,fsz x≤6)=>zf8 (T:=T) s.b h (by decide) (by omega);have k7:=fun(hl:s.e.length≤8) (h:∀x∈s.e,fsz x≤6)=>zf8 (T:=T) s.e h (by decide) (by omega);rw[zac Zat.h551 rfl,b551];unfold Zcl;cases g1:Zam 2 s.nm with
 | false=>
  rw[g1]at c1;obtain⟨nm,c,a,b,e⟩:=s;generalize fz 1=z1 at *
  dsimp only at *
  simp -implicitDefEqProofs[o1,c1]
 | true=>
 rw[g1]at c1;cases g2:Zbp s with
 | false=>
  rw[g2]at c2;obtain⟨nm,c,a,b,e⟩:=s;generalize fz 1=z1 at *
  dsimp only at *
  simp -implicitDefEqProofs[o1,c1,c2]
 | true=>
 rw[g2]at c2;obtain⟨s1,s2,s3,s4,s5,s6⟩:=zjn g2;cases g3:Zck s.a with
 | false=>
  rw[g3]at c3;obtain⟨nm,c,a,b,e⟩:=s;simp -implicitDefEqProofs[o1,c1,c2,c3]
 | true=>
 rw[g3]at c3;cases g4:Zck [s.b,s.c,s.e]with
 | false=>
  rw[g4]at c4;obtain⟨nm,c,a,b,e⟩:=s;simp -implicitDefEqProofs[o1,c1,c2,c3,c4]
 | true=>
 rw[g4]at c4;have n1:=zkr g3;have n2:=zkr g4;have nb:=n2 s.b (by simp);have nc:=n2 s.c (by simp);have ne:=n2 s.e (by simp);have c5:=k5 (by omega) (by omega) (fun r hr=>⟨by have:=zc8 _ _ s6 r hr;omega,n1 r hr⟩) nc;have c6:=k6 (by omega) nb;have c7:=k7 (by omega) ne;have z6:=zeg (l:=s.b) (by omega) nb;have z7:=zeg (l:=s.e) (by omega) ne;have d6:=zhr (T:=T) (fz (sumF s.b)) (fz 1) (by rw[zco];omega) (by rw[zco,z0c];omega);have d7:=zhr (T:=T) (fz (sumF s.e)) (fz 1) (by rw[zco];omega) (by rw[zco,z0c];omega);rw[zit,zit]at d6 d7;cases g5:Zbq s.a s.c with
 | false=>
  rw[g5]at c5;obtain⟨nm,c,a,b,e⟩:=s;simp -implicitDefEqProofs[o1,c1,c2,c3,c4,c5]
 | true=>
 rw[g5]at c5;obtain⟨nm,c,a,b,e⟩:=s;generalize fz (sumF b)=zb at *
 generalize fz (sumF e)=ze at *
 by_cases g6:sumF b=1
 ·by_cases g7:e=[]
  ·subst g7;replace c2:Zb T 559 [.agg [.s nm,.sl (Zf c) .an,.sl (Z2 a) .an,.sl (Zf b) .an,.sl [] .an]]=_:=c2;replace c4:Zb T 560 [.sl [[.sl (Zf b) .an],[.sl (Zf c) .an],[.sl [] .an]] .an]=_:=c4;replace c5:Zb T 561 [.agg [.s nm,.sl (Zf c) .an,.sl (Z2 a) .an,.sl (Zf b) .an,.sl [] .an]]=_:=c5;simp -implicitDefEqProofs[o1,c1,c2,c3,c4,c5,c6,d6,g6]
  ·have l7:0<e.length:=Yb6.2 g7;by_cases g8:sumF e=1
   ·simp -implicitDefEqProofs[o1,c1,c2,c3,c4,c5,c6,d6,g6,c7,d7,g7,g8,l7]
   ·simp -implicitDefEqProofs[o1,c1,c2,c3,c4,c5,c6,d6,g6,c7,d7,g7,g8,l7]
 ·simp -implicitDefEqProofs[o1,c1,c2,c3,c4,c5,c6,d6,g6]
end
end Go.Ab
end
section
namespace Go.Ab
structure PbS (q:Pb):Prop where
 t:TpS q.t
 s:SmS q.s
 p:∀x∈q.p,fsz x≤1000
 pl:q.p.length≤1000
def Znt(p:Pb)(t:Fz)(y:List Fz):List Rat×Nat×Nat:=Zli (Znm p.bits) p.t ⟨fv t,y.map fv,p.p.map fv⟩
end Go.Ab
end