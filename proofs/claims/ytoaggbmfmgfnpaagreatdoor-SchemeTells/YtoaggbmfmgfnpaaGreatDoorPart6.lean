/-
  A calculus of values, boxes and code, and what functions of the program compute, proved in it.
  Conditions: none beyond those that the theorems state. (Part 6: QsTab, QsBld, TxHalf, GpTrim, AxWp, QsEnd, TxJoin, TxJoinOk, TxStr, TxRune, TxCut, QsStr, QsJoin, Ab25, Ab26, Ab27, AxTop, NmFrac, AxTop2, QsSign, NmGcd, GpCommon, GpWhole, GpFrac, GpRow, GpRow2, GpMix, GpSpan, AxTop3, GpRow3, GpRef06, GpRef08, GpRef09, GpRef11, GpRow4, GpLaw11, GpGrid, GpGrid2, NmGrid, GpFrac2, NmRow.)
-/
import Derived.Test.YtoaggbmfmgfnpaaGreatDoorPart5
import Derived.Test.YtoaggbmfmgfnpaaGreatDoorProg
import Derived.KernelRfl
import Derived.Shelf.RegionOpenPlain
import Derived.Lib.Strings
import Derived.Lib.Slices
import Derived.Lib.Walk
import Derived.Lib.Builder
import Derived.Lib.AppendStr
import Derived.Lib.UnsafeStr
import Derived.Lib.MakeNoZero
import Derived.WalkKit
import Derived.Laws.Externs
import Derived.Laws.IdiomCopy
import Derived.Laws.BitsLemmas
import GoSem.Claims
import Derived.Deep.LoopGhost
import Derived.Shelf.Strings.Builder1
import Derived.Shelf.Strings.Builder2
import Derived.Shelf.Strings.OnBuilder
import Derived.Shelf.Strings.IndexAnyAll
import Derived.Shelf.Strings.Count
import Derived.Shelf.Strings.Search2
import Derived.Laws.RangeAny
import Derived.Laws.Runes
import Derived.Lib.DecodeN
import Derived.WalkMore
import Derived.Shelf.Small.Utf8
import Derived.Shelf.Strings.Cut
import Derived.ProofKit
import Derived.OpenShut
import Derived.Deep.DeepCutAuto
import Derived.Deep.DeepFit
import Derived.Deep.CutBlock
import Derived.Lib.OthersKept

set_option linter.unusedSectionVars false
set_option linter.unusedVariables false
set_option linter.unusedSimpArgs false
set_option linter.unnecessarySimpa false

section
namespace Go.Proofs.YtoaggbmfmgfnpaaGreatDoor
open Go Go.Ab
set_option maxRecDepth 100000
def nus:List (Nat×Nat):=[(23,197),(24,146),(25,138),(27,191),(30,225),(32,294),(34,157),(35,175),(36,132),(37,173),(38,196),(39,204),(40,184),(41,117),(43,73),(52,141),(54,88),(55,180),(56,240),(57,241),(58,110),(59,205),(60,139),(61,145),(62,239),(63,144),(64,249),(65,306),(68,159),(69,177),(70,190),(71,199),(72,118),(73,269),(84,174),(85,274),(86,181),(87,158),(88,275),(89,198),(90,211),(91,261),(92,271),(93,272),(94,273),(95,202),(96,203),(97,142),(98,278),(99,313),(100,314),(101,212),(103,213),(105,226),(106,243),(115,291),(116,292),(117,242),(118,252),(119,288),(120,289),(121,290),(122,244),(123,299),(125,253),(126,254),(127,255),(128,256),(168,165),(172,100),(173,97),(177,167),(178,168),(179,169),(180,217),(181,218),(182,219),(183,95),(184,178),(185,220),(186,221),(187,222),(188,223),(189,259),(190,260),(194,262),(198,270),(199,237),(200,238),(201,195),(202,137),(203,131),(204,295),(205,60),(207,129),(208,170),(209,108),(210,133),(211,68),(212,72),(215,172),(217,182),(223,171),(224,200),(225,201),(226,140),(227,143),(228,75),(229,74),(230,76),(231,24),(232,49),(233,32),(234,176),(235,48),(237,109),(239,80),(240,47),(245,166),(247,16),(248,21),(249,82),(251,94),(252,308),(253,307),(254,296),(255,297),(256,277),(258,315),(259,112),(265,105),(267,163),(268,96),(269,164),(274,63),(275,250),(278,106),(279,50),(284,113),(286,58),(287,65),(288,83),(289,33),(301,107),(308,93),(344,293),(345,298),(346,279),(353,111),(354,300),(356,224),(357,318),(360,309),(361,310),(362,276),(515,35),(527,37),(529,40),(536,42),(540,98),(541,99),(551,41),(555,39),(559,101),(560,102),(561,103),(562,104),(587,5),(596,36),(597,38),(598,43),(599,44),(600,45),(601,46),(602,51),(608,92),(612,156),(614,208),(615,209),(616,210),(618,246),(619,247),(620,248),(621,251),(2043,73),(2071,199),(2092,271),(2097,142),(2106,243),(2266,216)]
def nu(u:Nat):FuncId:=(nus.lookup u).getD 0
def Zep(P:Program)(ν:Nat→FuncId)(τ:Nat→Nat)(u:Nat)(af:AFx):Prop:=
 match af.body.isPrim with
 | some f=>∀xs r,f xs=some r→Zae P (ν u) xs (·=r)
 | none=>if af.body.isBad=true then (∀m∈Zia af,Zdr P af.np m.1=some (ν m.2))∧(af.res.isEmpty=true→af.np=ν af.nt) else Zct P (ν u)=some (erF ν τ af)
theorem ok_pr{P:Program}{ν:Nat→FuncId}{τ:Nat→Nat}{u:Nat}{af:AFx}{f:List AV→Option AV}(h0:af.body.isPrim=some f)(h:∀xs r,f xs=some r→Zae P (ν u) xs (·=r)):Zep P ν τ u af:=by unfold Zep;rw[h0];exact h
theorem ok_fn{P:Program}{ν:Nat→FuncId}{τ:Nat→Nat}{u:Nat}{af:AFx}(h0:af.body.isPrim=none)(h1:af.body.isBad=false)(h:Zct P (ν u)=some (erF ν τ af)):Zep P ν τ u af:=by unfold Zep;rw[h0];simp only[h1];exact h
theorem ok_cons{P:Program}{ν:Nat→FuncId}{τ:Nat→Nat}{u:Nat}{af:AFx}{l:List (Nat×AFx)}(h:Zep P ν τ u af)(hl:∀p∈l,Zep P ν τ p.1 p.2) :
  ∀p∈(u,af)::l,Zep P ν τ p.1 p.2:=by
 intro p hp;rcases List.mem_cons.1 hp with rfl | hp
 ·exact h
 ·exact hl p hp
theorem ok_lookup{P:Program}{ν:Nat→FuncId}{l:List (Nat×AFx)}(hl:∀p∈l,Zep P ν (Zo fun u=>l.lookup u) p.1 p.2):TOk P ν (fun u=>l.lookup u):=fun _ _ h=>hl _ (zds h)
theorem sub_cons{l l2:List (Nat×AFx)}{u:Nat}{af:AFx}(h:l.lookup u=some af)(h2:∀p∈l2,l.lookup p.1=some p.2):∀p∈(u,af)::l2,l.lookup p.1=some p.2:=by
 intro p hp;rcases List.mem_cons.1 hp with rfl | hp
 ·exact h
 ·exact h2 p hp
def pT(i:Nat):List (Nat×AFx):=match i with
 | 0=>[(115,row115),(116,row116),(117,row117),(118,row118),(91,row91),(86,row86),(106,row106),(71,row71),(72,row72),(73,row73),(70,row70),(87,row87),(85,row85),(56,row56),(88,row88),(57,row57),(2106,row2106),(89,row89),(100,row100),(60,row60),(92,row92),(94,row94),(90,row90),(119,row119),(120,row120)]
 | 1=>[(121,row121),(93,row93),(2071,row2071),(2092,row2092),(62,row62),(98,row98),(123,row123),(64,row64),(99,row99),(65,row65),(55,row55),(38,row38),(40,row40),(23,row23),(25,row25),(27,row27),(37,row37),(41,row41),(36,row36),(34,row34),(32,row32),(198,row198),(199,row199),(200,row200),(201,row201)]
 | 2=>[(202,row202),(203,row203),(205,row205),(207,row207),(209,row209),(210,row210),(211,row211),(212,row212),(215,row215),(217,row217),(204,row204),(208,row208),(223,row223),(258,row258),(356,row356),(357,row357),(185,row185),(186,row186),(177,row177),(188,row188),(179,row179),(178,row178),(172,row172),(251,row251),(265,row265)]
 | 3=>[(267,row267),(269,row269),(274,row274),(2266,row2266),(43,row43),(84,row84),(52,row52),(54,row54),(58,row58),(59,row59),(61,row61),(122,row122),(95,row95),(96,row96),(97,row97),(63,row63),(224,row224),(225,row225),(226,row226),(227,row227),(228,row228),(229,row229),(230,row230),(2097,row2097),(2043,row2043)]
 | 4=>[(105,row105),(69,row69),(39,row39),(30,row30),(24,row24),(35,row35),(231,row231),(232,row232),(233,row233),(234,row234),(235,row235),(237,row237),(239,row239),(240,row240),(247,row247),(353,row353),(278,row278),(279,row279),(284,row284),(286,row286),(301,row301),(248,row248),(249,row249),(287,row287),(288,row288)]
 | 5=>[(289,row289),(308,row308),(536,row536),(551,row551),(559,row559),(560,row560),(561,row561),(562,row562),(515,row515),(527,row527),(245,row245),(189,row189),(190,row190),(181,row181),(180,row180),(182,row182),(168,row168),(173,row173),(529,row529),(540,row540),(541,row541),(259,row259),(346,row346),(354,row354),(362,row362)]
 | 6=>[(345,row345),(252,row252),(253,row253),(254,row254),(255,row255),(256,row256),(275,row275),(268,row268),(555,row555),(598,row598),(601,row601),(608,row608),(612,row612),(614,row614),(615,row615),(616,row616),(618,row618),(619,row619),(620,row620),(621,row621),(597,row597),(599,row599),(602,row602),(587,row587),(596,row596)]
 | 7=>[(600,row600)]
 | _=>[]
def Znx:List (Nat×AFx):=[(68,row68),(183,row183),(187,row187),(184,row184),(344,row344),(194,row194),(361,row361)]
def lTab:List (Nat×AFx):=pT 0++pT 1++pT 2++pT 3++pT 4++pT 5++pT 6++pT 7++Znx
def gTab:List (Nat×AFx):=lTab++[(101,row101),(103,row103),(125,row125),(266,row266)]
def tab:Tbl:=fun u=>gTab.lookup u
def Ziy:Nat→Nat:=Zo fun u=>lTab.lookup u
def Zcb(l:List (Nat×AFx)):Prop:=(l.map fun p=>Zct Tryz.prog (nu p.1))=l.map fun p=>some (erF nu Ziy p.2)
theorem res_mem{l:List (Nat×AFx)}(h:Zcb l)(h2:(l.all fun p=>p.2.body.isPrim.isNone&&!p.2.body.isBad)=true):∀p∈l,Zep Tryz.prog nu Ziy p.1 p.2:=by
 intro p hp;have h3:=List.all_eq_true.1 h2 p hp;simp only[Bool.and_eq_true,Option.isNone_iff_eq_none,Bool.not_eq_true']at h3;exact ok_fn h3.1 h3.2 (List.map_inj_left.1 h p hp)
theorem ok_app{l r:List (Nat×AFx)}(h1:∀p∈l,Zep Tryz.prog nu Ziy p.1 p.2)(h2:∀p∈r,Zep Tryz.prog nu Ziy p.1 p.2):∀p∈l++r,Zep Tryz.prog nu Ziy p.1 p.2:=fun p hp=>(List.mem_append.1 hp).elim (h1 p) (h2 p)
theorem res0:Zcb (pT 0):=by unfold Zcb;kernel_rfl
theorem res1:Zcb (pT 1):=by unfold Zcb;kernel_rfl
theorem res2:Zcb (pT 2):=by unfold Zcb;kernel_rfl
theorem res3:Zcb (pT 3):=by unfold Zcb;kernel_rfl
theorem res4:Zcb (pT 4):=by unfold Zcb;kernel_rfl
theorem res5:Zcb (pT 5):=by unfold Zcb;kernel_rfl
theorem res6:Zcb (pT 6):=by unfold Zcb;kernel_rfl
theorem res7:Zcb (pT 7):=by unfold Zcb;kernel_rfl
theorem lTab_ok(hp68:∀xs r,prim68 xs=some r→Zae Tryz.prog (nu 68) xs (·=r))(hp183:∀xs r,prim183 xs=some r→Zae Tryz.prog (nu 183) xs (·=r))(hp187:∀xs r,prim187 xs=some r→Zae Tryz.prog (nu 187) xs (·=r))(hp184:∀xs r,prim184 xs=some r→Zae Tryz.prog (nu 184) xs (·=r))(hp344:∀xs r,prim344 xs=some r→Zae Tryz.prog (nu 344) xs (·=r))(hp194:∀xs r,prim194 xs=some r→Zae Tryz.prog (nu 194) xs (·=r))(hp361:∀xs r,prim361 xs=some r→Zae Tryz.prog (nu 361) xs (·=r)):TOk Tryz.prog nu (fun u=>lTab.lookup u):=ok_lookup (ok_app (ok_app (ok_app (ok_app (ok_app (ok_app (ok_app (ok_app (res_mem res0 (by kernel_rfl)) (res_mem res1 (by kernel_rfl))) (res_mem res2 (by kernel_rfl))) (res_mem res3 (by kernel_rfl))) (res_mem res4 (by kernel_rfl))) (res_mem res5 (by kernel_rfl))) (res_mem res6 (by kernel_rfl))) (res_mem res7 (by kernel_rfl))) (ok_cons (ok_pr rfl hp68) (ok_cons (ok_pr rfl hp183) (ok_cons (ok_pr rfl hp187) (ok_cons (ok_pr rfl hp184) (ok_cons (ok_pr rfl hp344) (ok_cons (ok_pr rfl hp194) (ok_cons (ok_pr rfl hp361) (fun p hp=>by cases hp)))))))))
def Zk3:List Nat→Bool
 | []=>true
 | a::l=>!l.contains a&&Zk3 l
theorem sub_app{l r:List (Nat×AFx)}(h:Zk3 (l.map (·.1))=true):∀p∈l,(l++r).lookup p.1=some p.2:=by
 induction l with
 | nil=>intro p hp;cases hp
 | cons a l ih=>
  intro p hp;obtain⟨k,v⟩:=a;simp only[List.map_cons,Zk3,Bool.and_eq_true,Bool.not_eq_true']at h;rcases List.mem_cons.1 hp with rfl | hq
  ·simp
  ·have hne:(p.1 == k)=false:=by
    cases hb:p.1 == k with
    | false=>rfl
    | true=>
     have:=eq_of_beq hb;subst this;have h5:(l.map (·.1)).contains p.1=true:=List.contains_iff_mem.2 (List.mem_map.2 ⟨p,hq,rfl⟩);rw[h5]at h;cases h.1
   rw[List.cons_append,List.lookup_cons,hne];exact ih h.2 p hq
theorem lTab_part:Part gTab lTab:=⟨sub_app (by kernel_rfl),by kernel_rfl⟩
def sTab:List (Nat×AFx):=[(118,row118),(86,row86),(106,row106),(71,row71),(70,row70),(90,row90),(101,row101),(103,row103),(125,row125)]
def Zfx:Nat→Nat:=Zo fun u=>sTab.lookup u
theorem ress_118:Zct Tryz.prog (nu 118)=some (erF nu Zfx row118):=by kernel_rfl
theorem ress_86:Zct Tryz.prog (nu 86)=some (erF nu Zfx row86):=by kernel_rfl
theorem ress_106:Zct Tryz.prog (nu 106)=some (erF nu Zfx row106):=by kernel_rfl
theorem ress_71:Zct Tryz.prog (nu 71)=some (erF nu Zfx row71):=by kernel_rfl
theorem ress_70:Zct Tryz.prog (nu 70)=some (erF nu Zfx row70):=by kernel_rfl
theorem ress_90:Zct Tryz.prog (nu 90)=some (erF nu Zfx row90):=by kernel_rfl
theorem ress_101:Zct Tryz.prog (nu 101)=some (erF nu Zfx row101):=by kernel_rfl
theorem ress_103:Zct Tryz.prog (nu 103)=some (erF nu Zfx row103):=by kernel_rfl
theorem ress_125:Zct Tryz.prog (nu 125)=some (erF nu Zfx row125):=by kernel_rfl
theorem sTab_ok:TOk Tryz.prog nu (fun u=>sTab.lookup u):=ok_lookup (ok_cons (ok_fn rfl rfl ress_118) (ok_cons (ok_fn rfl rfl ress_86) (ok_cons (ok_fn rfl rfl ress_106) (ok_cons (ok_fn rfl rfl ress_71) (ok_cons (ok_fn rfl rfl ress_70) (ok_cons (ok_fn rfl rfl ress_90) (ok_cons (ok_fn rfl rfl ress_101) (ok_cons (ok_fn rfl rfl ress_103) (ok_cons (ok_fn rfl rfl ress_125) (fun p hp=>by cases hp))))))))))
theorem sTab_part:Part gTab sTab:=⟨sub_cons (by kernel_rfl) (sub_cons (by kernel_rfl) (sub_cons (by kernel_rfl) (sub_cons (by kernel_rfl) (sub_cons (by kernel_rfl) (sub_cons (by kernel_rfl) (sub_cons (by kernel_rfl) (sub_cons (by kernel_rfl) (sub_cons (by kernel_rfl) (fun p hp=>by cases hp))))))))),by kernel_rfl⟩
instance:Zac tab:=⟨by kernel_rfl,by kernel_rfl,by kernel_rfl,by kernel_rfl,by kernel_rfl⟩
instance:Zq tab where
 h115:=by kernel_rfl
 h116:=by kernel_rfl
 h117:=by kernel_rfl
 h118:=by kernel_rfl
 h91:=by kernel_rfl
 h86:=by kernel_rfl
 h106:=by kernel_rfl
 h71:=by kernel_rfl
 h72:=by kernel_rfl
 h73:=by kernel_rfl
 h70:=by kernel_rfl
 h87:=by kernel_rfl
 h85:=by kernel_rfl
 h56:=by kernel_rfl
 h88:=by kernel_rfl
 h57:=by kernel_rfl
 h2106:=by kernel_rfl
instance:Zw tab where
 h115:=by kernel_rfl
 h116:=by kernel_rfl
 h117:=by kernel_rfl
 h118:=by kernel_rfl
 h91:=by kernel_rfl
 h86:=by kernel_rfl
 h106:=by kernel_rfl
 h71:=by kernel_rfl
 h72:=by kernel_rfl
 h73:=by kernel_rfl
 h70:=by kernel_rfl
 h87:=by kernel_rfl
 h85:=by kernel_rfl
 h56:=by kernel_rfl
 h88:=by kernel_rfl
 h57:=by kernel_rfl
 h2106:=by kernel_rfl
 h89:=by kernel_rfl
 h100:=by kernel_rfl
 h60:=by kernel_rfl
instance:Zz tab:=⟨by kernel_rfl,by kernel_rfl⟩
instance:Zs tab:=⟨by kernel_rfl,by kernel_rfl,by kernel_rfl,by kernel_rfl,by kernel_rfl⟩
instance:Zu tab:=⟨by kernel_rfl,by kernel_rfl,by kernel_rfl⟩
instance:Zn tab:=⟨by kernel_rfl,by kernel_rfl,by kernel_rfl,by kernel_rfl,by kernel_rfl,by kernel_rfl⟩
instance:Zaz tab:=⟨by kernel_rfl⟩
instance:Zhv tab:=⟨by kernel_rfl,by kernel_rfl⟩
instance:Ze tab:=⟨by kernel_rfl,by kernel_rfl,by kernel_rfl,by kernel_rfl,by kernel_rfl,by kernel_rfl,by kernel_rfl,by kernel_rfl,by kernel_rfl,by kernel_rfl,by kernel_rfl⟩
instance:Zl tab:=⟨by kernel_rfl,by kernel_rfl,by kernel_rfl,by kernel_rfl⟩
instance:Zv tab:=⟨by kernel_rfl,by kernel_rfl,by kernel_rfl,by kernel_rfl,by kernel_rfl,by kernel_rfl,by kernel_rfl,by kernel_rfl,by kernel_rfl,by kernel_rfl⟩
instance:Zbl tab:=⟨by kernel_rfl⟩
instance:Za5 tab:=⟨by kernel_rfl⟩
instance:Za9 tab:=⟨by kernel_rfl⟩
instance:Zcd tab:=⟨by kernel_rfl,by kernel_rfl,by kernel_rfl⟩
instance:Zav tab:=⟨by kernel_rfl⟩
instance:Zca tab:=⟨by kernel_rfl,by kernel_rfl,by kernel_rfl,by kernel_rfl,by kernel_rfl,by kernel_rfl,by kernel_rfl,by kernel_rfl,by kernel_rfl⟩
instance:Zbf tab:=⟨by kernel_rfl,by kernel_rfl,by kernel_rfl,by kernel_rfl,by kernel_rfl,by kernel_rfl,by kernel_rfl⟩
instance:Zg5 tab where
instance:Z5 tab:=⟨by kernel_rfl,by kernel_rfl,by kernel_rfl,by kernel_rfl,by kernel_rfl,by kernel_rfl⟩
instance:Zal tab where
 h43:=by kernel_rfl
 h84:=by kernel_rfl
 h52:=by kernel_rfl
 h54:=by kernel_rfl
 h58:=by kernel_rfl
 h59:=by kernel_rfl
 h61:=by kernel_rfl
instance:Z1 tab where
 h43:=by kernel_rfl
 h84:=by kernel_rfl
 h52:=by kernel_rfl
 h54:=by kernel_rfl
 h58:=by kernel_rfl
 h59:=by kernel_rfl
 h61:=by kernel_rfl
 h122:=by kernel_rfl
 h95:=by kernel_rfl
 h96:=by kernel_rfl
 h97:=by kernel_rfl
 h63:=by kernel_rfl
instance:Z2 tab:=⟨by kernel_rfl,by kernel_rfl,by kernel_rfl,by kernel_rfl,by kernel_rfl,by kernel_rfl,by kernel_rfl,by kernel_rfl⟩
instance:Zah tab where
 h43:=by kernel_rfl
 h84:=by kernel_rfl
 h52:=by kernel_rfl
 h54:=by kernel_rfl
 h58:=by kernel_rfl
 h59:=by kernel_rfl
 h61:=by kernel_rfl
 h122:=by kernel_rfl
 h95:=by kernel_rfl
 h96:=by kernel_rfl
 h97:=by kernel_rfl
 h63:=by kernel_rfl
 h2043:=by kernel_rfl
 h105:=by kernel_rfl
 h69:=by kernel_rfl
instance:Zaj tab where
 h43:=by kernel_rfl
 h84:=by kernel_rfl
 h52:=by kernel_rfl
 h54:=by kernel_rfl
 h58:=by kernel_rfl
 h59:=by kernel_rfl
 h61:=by kernel_rfl
 h122:=by kernel_rfl
 h95:=by kernel_rfl
 h96:=by kernel_rfl
 h97:=by kernel_rfl
 h63:=by kernel_rfl
 h2043:=by kernel_rfl
 h105:=by kernel_rfl
 h69:=by kernel_rfl
 h39:=by kernel_rfl
 h30:=by kernel_rfl
 h24:=by kernel_rfl
 h35:=by kernel_rfl
instance:Zx tab:=⟨by kernel_rfl,by kernel_rfl,by kernel_rfl,by kernel_rfl,by kernel_rfl,by kernel_rfl,by kernel_rfl,by kernel_rfl,by kernel_rfl,by kernel_rfl⟩
instance:Zai tab:=⟨by kernel_rfl,by kernel_rfl,by kernel_rfl,by kernel_rfl⟩
instance:Zdu tab:=⟨by kernel_rfl⟩
instance:Zlv tab where
instance:Zlw tab where
instance:Zcx tab:=⟨by kernel_rfl,by kernel_rfl⟩
instance:Zce tab:=⟨by kernel_rfl,by kernel_rfl,by kernel_rfl⟩
instance:Zez tab:=⟨by kernel_rfl⟩
instance:Zco tab where
instance:Zb9 tab where
instance:Zc2 tab where
instance:Zfa tab where
instance:Ze9 tab where
instance:Zg6 tab where
instance:Zkg tab where
instance:Zkh tab where
instance:Zje tab where
instance:Zi4 tab where
instance:Zad tab:=⟨by kernel_rfl,by kernel_rfl,by kernel_rfl,by kernel_rfl,by kernel_rfl,by kernel_rfl⟩
instance:Zlo tab where
instance:Zeg tab:=⟨by kernel_rfl⟩
instance:Zgh tab:=⟨by kernel_rfl⟩
instance:Zlu tab where
instance:Zk8 tab where
instance:Zel tab:=⟨by kernel_rfl⟩
instance:Zie tab where
instance:Zba tab:=⟨by kernel_rfl,by kernel_rfl,by kernel_rfl,by kernel_rfl,by kernel_rfl,by kernel_rfl,by kernel_rfl⟩
instance:Zc7 tab:=⟨by kernel_rfl,by kernel_rfl,by kernel_rfl⟩
instance:Zdt tab:=⟨by kernel_rfl⟩
instance:Ze7 tab where
instance:Zc8 tab:=⟨by kernel_rfl,by kernel_rfl,by kernel_rfl⟩
instance:Zaw tab:=⟨by kernel_rfl,by kernel_rfl,by kernel_rfl,by kernel_rfl⟩
instance:Zc6 tab:=⟨by kernel_rfl,by kernel_rfl,by kernel_rfl,by kernel_rfl,by kernel_rfl⟩
instance:Zdb tab:=⟨by kernel_rfl⟩
instance:Zem tab:=⟨by kernel_rfl⟩
instance:Zak tab:=⟨by kernel_rfl,by kernel_rfl,by kernel_rfl,by kernel_rfl,by kernel_rfl,by kernel_rfl,by kernel_rfl,by kernel_rfl,by kernel_rfl,by kernel_rfl,by kernel_rfl,by kernel_rfl⟩
instance:Zdp tab:=⟨by kernel_rfl,by kernel_rfl,by kernel_rfl⟩
instance:Zcy tab:=⟨by kernel_rfl,by kernel_rfl,by kernel_rfl⟩
end Go.Proofs.YtoaggbmfmgfnpaaGreatDoor
end
section
namespace Go.Proofs
open Go.RowKit
theorem Tryz.sizeBuilder:(Tryz.prog.info? 231).map (·.size)=some 2:=by kernel_rfl
theorem Tryz.liesBuilder:liesAt Tryz.prog Tryz.prog.depth 231 (2/Tryz.prog.cellsOf 231) 0 231 1=true:=by kernel_rfl
theorem Tryz.infoByte:(Tryz.prog.info? 5).map (fun i=>(i.zero,i.size,i.bytes))=some (some (.int .u8 0),1,1):=by kernel_rfl
theorem Tryz.cellsByte:Tryz.prog.cellsOf 5=1:=by kernel_rfl
set_option maxHeartbeats 1000000 in
set_option maxRecDepth 100000 in
theorem Tryz.bString(B b:Nat)(l:List UInt8)(w:World)(h:Lib.IsBuilder 231 5 B b (Lib.byteCells l) w)(h0:l≠[]) :
  Calls Tryz.prog 162 #[.pointer (some ⟨b,0,none⟩)] w fun e w'=>e=.returned (.string ⟨l.toArray⟩)∧Below B w w':=by
 obtain⟨p,hB,v,hbk,hown,hne⟩:∃p,Lib.BuilderAt 231 5 B b p (Lib.byteCells l) w:=by
  rcases h with h | h
  ·exact⟨_,h⟩
  ·exact⟨_,h⟩
 have hl0:l.length≠0:=by simpa using h0
 rw[Lib.byteCells_length]at hown;obtain⟨g,cap,cur,rfl,hbg,hg,hnc,hcm,hcs,htake⟩:∃g cap cur,v=.slice (some ⟨g,0,none⟩) l.length cap∧B≤g∧w.heap[g]? = some (.cells cur 5 (0,0))∧l.length≤cap∧cap≤maxLen∧cur.size=cap*1∧cur.toList.take (l.length*1)=Lib.byteCells l:=by
  rcases hown.2 with ⟨_,hz⟩ | ⟨g,cap,cur,hv,r⟩
  ·exact absurd hz hl0
  ·exact⟨g,cap,cur,hv,r⟩
 have c1:w.drew.cell? ⟨b,1,none⟩=some (.slice (some ⟨g,0,none⟩) l.length cap):=by
  have:w.drew.heap[b]? = some (.cells #[p,.slice (some ⟨g,0,none⟩) l.length cap] 231 (0,0)):=hbk;rw[Lib.cell_of_heap this];rfl
 have hSD:(Builtin.unsafeSliceData_ #[229] 279 #[.slice (some ⟨g,0,none⟩) l.length cap]).run Tryz.prog w.drew=.ok (.pointer (some ⟨g,0,none⟩)) w.drew:=
  Lib.run_unsafeSliceData_row _ _ _ _ _ _ (by omega)
 have hUS:(Builtin.unsafeString_ #[279,3] 9 #[.pointer (some ⟨g,0,none⟩),.int .i64 l.length]).run Tryz.prog w.drew=.ok (.string ⟨l.toArray⟩) (w.drew.freeze ⟨g,0,none⟩ l.length):=by
  refine Lib.run_unsafeString_row w.drew 279 3 9 5 Tryz.underlying279 Tryz.cellsByte g cur.size (by have hg':w.drew.heap[g]? = some (.cells cur 5 (0,0)):=hg;simp[World.shape?,hg']) l h0 (by omega) (by unfold maxLen at hcm;omega) ?_;intro j x hx;have:=hown.cells (g:=g) rfl j (.int .u8 x.toNat) (by simp[Lib.byteCells,hx]);exact this
 go_enter Tryz.func162,Tryz.ntmps162
 go_wp2
 go_region
 all_goals (go_wp2;go_ret;exact⟨rfl,Lib.below_freeze (Below.drew (Below.refl B w)) (p:=⟨g,0,none⟩) hbg _⟩)
set_option maxHeartbeats 1000000 in
set_option maxRecDepth 100000 in
theorem Tryz.bCheck_used(b:Nat)(w:World)(h0:w.cell? ⟨b,0,none⟩=some (.pointer (some ⟨b,0,none⟩))) :
  Calls Tryz.prog 214 #[.pointer (some ⟨b,0,none⟩)] w fun e w'=>e=.returned (.tuple #[])∧w'=w:=by
 obtain⟨j,hj,_⟩:=Option.map_eq_some_iff.1 Tryz.sizeBuilder
 go_enter Tryz.func214,Tryz.ntmps214
 go_wp2
 rw[Lib.run_neq_ptr_same w _ Tryz.underlying228 hj]
 go_wp2
 go_end0
 exact⟨rfl,rfl⟩
set_option maxHeartbeats 1000000 in
set_option maxRecDepth 100000 in
theorem Tryz.bCheck_fresh(b:Nat)(w:World)(h0:w.cell? ⟨b,0,none⟩=some (.pointer none))(hsh:w.shape? b=some (231,2))(hfz:w.frozen? ⟨b,0,none⟩=false) :
  Calls Tryz.prog 214 #[.pointer (some ⟨b,0,none⟩)] w fun e w'=>e=.returned (.tuple #[])∧w'=w.setCell ⟨b,0,none⟩ (.pointer (some ⟨b,0,none⟩)):=by
 obtain⟨j,hj,hjs⟩:=Option.map_eq_some_iff.1 Tryz.sizeBuilder
 go_enter Tryz.func214,Tryz.ntmps214
 go_wp2
 rw[Lib.run_to_unsafe w ⟨b,0,none⟩ Tryz.underlying228 Tryz.underlying321 hj (by rw[hjs];decide) hsh (Nat.zero_lt_succ 1)];simp only[Result.andThen];rw[Oper.upon_value]
 go_wp2
 rw[run_callFunc_extern Tryz.func257 (by kernel_rfl) (by kernel_rfl) (by kernel_rfl) (e:=Extern.AbiNoEscape.same) (by kernel_rfl)];rw[Lib.run_noEscape];simp only[Result.andThen];rw[Oper.upon_value]
 go_wp2
 rw[Lib.run_from_unsafe w ⟨b,0,none⟩ Tryz.underlying321 Tryz.underlying228 hj hsh Tryz.liesBuilder];simp only[Result.andThen];rw[Oper.upon_value]
 go_wp2
 go_end0
 exact⟨rfl,rfl⟩
theorem Tryz.bCheck(B b:Nat)(bs:List Value)(w:World)(h:Lib.IsBuilder 231 5 B b bs w) :
  Calls Tryz.prog 214 #[.pointer (some ⟨b,0,none⟩)] w fun e w'=>e=.returned (.tuple #[])∧(Lib.BuilderAt 231 5 B b (.pointer (some ⟨b,0,none⟩)) bs w'∧Below B w w'):=by
 rcases h with h | h
 ·refine(Tryz.bCheck_fresh b w h.cell0 h.shape h.frozen0).mono ?_
  rintro e w' ⟨rfl,rfl⟩
  exact⟨rfl,h.used _,(Below.refl B w).setCell (p:=⟨b,0,none⟩) h.1 _⟩
 ·refine(Tryz.bCheck_used b w h.cell0).mono ?_
  rintro e w' ⟨rfl,rfl⟩
  exact⟨rfl,h,Below.refl B _⟩
set_option maxHeartbeats 2000000 in
set_option maxRecDepth 100000 in
theorem Tryz.bWrite(B b:Nat)(bs:List Value)(s:ByteArray)(w:World)(h:Lib.IsBuilder 231 5 B b bs w)(hlen:bs.length+s.size≤140737488355328)(hBw:B≤w.heap.size) :
  Calls Tryz.prog 161 #[.pointer (some ⟨b,0,none⟩),.string s] w fun e w'=>e=.returned (.tuple #[.int .i64 s.size,.nilIface])∧(Lib.BuilderAt 231 5 B b (.pointer (some ⟨b,0,none⟩)) (bs++Lib.strCells s) w'∧Below B w w'):=by
 obtain⟨i0,hi,hz0,hz1,hz2⟩:=info_parts Tryz.infoByte
 go_enter Tryz.func161,Tryz.ntmps161
 go_wp2_with (go_at_call 214;refine(Tryz.bCheck B b bs _ h).mono ?_)
 rintro e w1 ⟨rfl,h1,hb1⟩
 obtain⟨hB,v,hbk,hown,hne⟩:=h1;have c0:w1.cell? ⟨b,0,none⟩=some (.pointer (some ⟨b,0,none⟩)):=by rw[Lib.cell_of_heap hbk];rfl
 have c1:w1.cell? ⟨b,1,none⟩=some v:=by rw[Lib.cell_of_heap hbk];rfl
 go_wp2_with (at_builtin;refine Lib.wpList_append_own_string _ rfl _ _ 229 9 rfl B 5 i0 Tryz.underlying229 Tryz.underlying9 hi hz0 hz1 hz2 _ _ _ rfl hown s rfl ?c3 ?c4 ?c5 ?_)
 case c3=>unfold maxLen;omega
 case c4=>omega
 case c5=>have:=hb1.size;omega
 intro v' w2 hown' hgrow _;have hlt:b<w1.heap.size:=by
  rcases Nat.lt_or_ge b w1.heap.size with h' | h'
  ·exact h'
  ·simp[Array.getElem?_eq_none h']at hbk
 have hb2:w2.heap[b]? = some (.cells #[.pointer (some ⟨b,0,none⟩),v] 231 (0,0)):=by
  rw[hgrow.block b hlt (fun e=>hne e.symm)];exact hbk
 have d0:w2.cell? ⟨b,0,none⟩=some (.pointer (some ⟨b,0,none⟩)):=by rw[Lib.cell_of_heap hb2];rfl
 have d1:w2.cell? ⟨b,1,none⟩=some v:=by rw[Lib.cell_of_heap hb2];rfl
 have f1:w2.frozen? ⟨b,1,none⟩=false:=Lib.frozen_of_heap hb2 1;obtain⟨ao,n',cap,rfl⟩:∃ao n' cap,v'=.slice ao n' cap:=by
  rcases hown'.2 with ⟨hv,_⟩ | ⟨g,cap,cur,hv,_⟩
  ·exact⟨_,_,_,hv⟩
  ·exact⟨_,_,_,hv⟩
 go_wp2
 go_ret2
 refine⟨rfl,?_,?_⟩
 ·exact Lib.BuilderAt.put (T:=231) (e:=5) hB hb2 (bs':=bs++Lib.strCells s) (by simpa[Lib.strCells_length]using hown') (by decide)
 ·exact(hb1.grown hgrow (by have:=hb1.size;omega) (fun k hk=>(hown.lt k hk).1)).setCell (p:=⟨b,1,none⟩) hB _
end Go.Proofs
end
section
namespace Go.Ab
def pieces(n:Nat):List (List UInt8):=if h:n=0 then [] else Zdn 9 (n%1000000000)::pieces (n/1000000000)
termination_by n
decreasing_by exact Ydn (Yar h) (by decide)
theorem zb6:pieces 0=[]:=by unfold pieces;simp
theorem zco{n:Nat}(h:n≠0):pieces n=Zdn 9 (n%1000000000)::pieces (n/1000000000):=by
 conv=>lhs;unfold pieces
 rw[dif_neg h]
def Zde(l:List (List UInt8)):List (List AV):=l.map fun s=>[.s s]
@[simp] theorem z1u(l:List (List UInt8)):(Zde l).length=l.length:=by simp[Zde]
@[simp] theorem z0w(l:List (List UInt8)):wkL (Zde l)=Zde l:=by
 induction l with
 | nil=>rfl
 | cons x l ih=>simpa[Zde,wkL,wkR]using ih
theorem zx9(l:List (List UInt8))(s:List UInt8):Zde l++[[.s s]]=Zde (l++[s]):=by simp[Zde]
def txL:AX:=
 (.note
 (.seq
 (.seq
  (.reg [⟨(some 11),none,.mov (.t 0)⟩,
   ⟨(some 12),none,.call 70 [(.t 11)]⟩,
   ⟨(some 13),none,.un .not (.t 12)⟩])
  (.cond (.t 13)
  .skip
  (.exit 0)))
 (.block 1
  (.seq
  (.reg [⟨(some 15),none,.mov (.t 0)⟩,
   ⟨(some 16),none,.call 90 [(.t 15),(.c (u32 1000000000))]⟩,
   ⟨(some 14),none,.mov (.t 16)⟩,
   ⟨(some 17),none,.ext (.t 14) 0⟩,
   ⟨(some 18),none,.ext (.t 14) 1⟩,
   ⟨(some 19),none,.ext (.t 14) 2⟩,
   ⟨(some 4),none,.mov (.t 17)⟩,
   ⟨(some 5),none,.mov (.t 18)⟩,
   ⟨(some 6),none,.mov (.t 19)⟩])
  (.seq
   (.reg [⟨(some 20),none,.mov (.t 3)⟩,
    ⟨(some 21),none,.mov (.t 5)⟩,
    ⟨(some 22),none,.call 101 [(.t 21)]⟩,
    ⟨(some 23),none,.bsl 1 [(.s [])] 1 [(0,(.t 22))]⟩,
    ⟨(some 24),none,.app 1 (.t 20) (.t 23)⟩,
    ⟨(some 3),none,.mov (.t 24)⟩])
   (.reg [⟨(some 25),none,.mov (.t 4)⟩,
    ⟨(some 0),none,.mov (.t 25)⟩])))))
 (.norm false [0,3]))
def tx0:AX:=(.reg [⟨(some 2),none,.mov (.c (.s []))⟩])
def txA:AX:=
  (.seq
  (.reg [⟨(some 9),none,.mov (.t 0)⟩,
   ⟨(some 10),none,.call 70 [(.t 9)]⟩])
  (.cond (.t 10)
   (.seq
   (.reg [⟨(some 2),none,.mov (.c (.s [48]))⟩])
   (.pre (.norm false [2]) .ret))
   .skip))
def tx3:AX:=(.note (.reg [⟨(some 3),none,.mov (.c (.sl [] .nl))⟩]) (.nil 3 1))
def txP:AX:=(.lp 0 (.norm false [0,3]) txL (.norm false [3]))
section
variable{T:Tbl}
theorem zah9(x:AV):evX (orc T) T 0 tx0 ⟨Zbc [x],[],1⟩=some (.n,⟨[(2,.s []),(0,x)],[],1⟩):=by
 simp -implicitDefEqProofs[tx0]
end
section
variable{T:Tbl}[Zq T]
theorem zaad(a:List UInt32)(hl:a.length≤1000)(h0:val a=0):evX (orc T) T 0 txA ⟨[(2,.s []),(0,.sl (Zb a) .an)],[],1⟩=some (.r,⟨[(2,.s [48])],[],2⟩):=by
 have hz:=zev (T:=T) a (by omega);simp -implicitDefEqProofs[txA,hz,h0]
end
section
variable{T:Tbl}[Zq T]
theorem zaae(a:List UInt32)(hl:a.length≤1000)(h0:val a≠0):evX (orc T) T 0 txA ⟨[(2,.s []),(0,.sl (Zb a) .an)],[],1⟩ =
  some (.n,⟨[(10,.b false),(9,.sl (Zb a) .an),(2,.s []),(0,.sl (Zb a) .an)],[],1⟩):=by
 have hz:=zev (T:=T) a (by omega);simp -implicitDefEqProofs[txA,hz,h0]
end
section
variable{T:Tbl}[Zq T][Zw T][Zz T][Zs T][Zn T]
def Zk4(a:List UInt32)(l:List (List UInt8)):St:=⟨[(0,.sl (Zb a) .an),(3,.bs (.loc 3) 1 1 0 l.length)],[((.loc 3),⟨1,.own,1,Zde l⟩)],3⟩
theorem ztl(l:List (List UInt8))(s:List UInt8):wkL (List.take l.length (Zde l)++[[AV.s s]])=Zde (l++[s]):=by
 rw[Yb (by simp),zx9,z0w]
end
section
variable{T:Tbl}[Zq T][Zs T][Zn T]
theorem z0x(N:Nat)(hN:N≤4294967295)(L:List (List UInt8)):∀y:List UInt32×List (List UInt8),(y.1.length≤1000∧y.2++pieces (val y.1)=L∧L.length=N) →
  Zf T 0 0 (Gh.norm false [3]) txL (Zk4 y.1 y.2)=some (.n,⟨[(3,.bs (.loc 3) 1 1 0 L.length)],[((.loc 3),⟨1,.own,1,Zde L⟩)],3⟩):=by
 refine zaq (fun y:List UInt32×List (List UInt8)=>Zk4 y.1 y.2) _ (fun y=>val y.1) _ ?_
 rintro⟨a,l⟩ ⟨ha,hL,hn⟩
 simp only at ha hL hn;have hz:=zev (T:=T) a (by omega);by_cases h0:val a=0
 ·right;rw[h0,zb6,Yaq]at hL;subst hL;constructor<;>simp -implicitDefEqProofs[txL,Zk4,hz,h0]
 ·left;have hq:=zm8 (T:=T) a 1000000000 (by omega) (by omega) (by omega);have hn9:=zos (T:=T) (val a%1000000000) (by omega);have hlen:(ofN (val a/1000000000)).length≤a.length:=Yc (zar (Ybj _ _)) (zad a);rw[zco h0]at hL;have hll:l.length≤4294967295:=by have:=congrArg List.length hL;simp at this;omega
  refine⟨(ofN (val a/1000000000),l++[Zdn 9 (val a%1000000000)]),⟨by simp only;omega,by simp only[zae,Y8,Ydu];exact hL,hn⟩,?_,?_,rfl⟩
  ·simp only[zae];exact Ydn (Yar h0) (by decide)
  ·simp -implicitDefEqProofs[txL,Zk4,hz,hq,hn9,h0,hll,ztl]
end
section
variable{T:Tbl}[Zq T][Zw T][Zz T][Zs T][Zn T]
theorem zga:∀k n,n<1000000000^k→(pieces n).length≤k
 | 0,n,h=>by
  have:n=0:=by omega
  subst this;simp[zb6]
 | k+1,n,h=>by
  by_cases h0:n=0
  ·subst h0;simp[zb6]
  ·rw[zco h0];have:=zga k (n/1000000000) (Ybg (by rw[Yae,←Y4];exact h));simp only[Ye];omega
theorem zn2(a:List UInt32):(pieces (val a)).length≤2*a.length:=by
 refine zga _ _ (Yq (zax a) ?_);rw[Yct];exact Ydd (by decide) _
theorem zpk:∀n,∀s∈pieces n,s.length=9:=by
 intro n
 induction n using Nat.strongRecOn with
 | _ n ih=>
  intro s hs;by_cases h0:n=0
  ·subst h0;simp[zb6]at hs
  ·rw[zco h0]at hs;rcases Yt.1 hs with rfl | hs
   ·exact zfg 9 _
   ·exact ih _ (Ydn (Yar h0) (by decide)) s hs
theorem zkk:∀(k n:Nat),n≠0→n<10^k→(Zdn k n).dropWhile (· == 48)=Zam n
 | 0,n,h0,h=>by omega
 | k+1,n,h0,h=>by
  rw[zej];by_cases h1:n<10
  ·have e:n/10=0:=by omega
   have e2:n%10=n:=by omega
   have hz:∀j,(Zdn j 0).dropWhile (· == 48)=[]:=by
    intro j
    induction j with
    | zero=>rfl
    | succ j ih=>rw[zej,Ydv,Nat.zero_div,ih];rfl
   rw[e,e2,Ydv,hz,zb4 h1];have:∀d,d<10→d≠0→List.dropWhile (fun x=>x == 48) [UInt8.ofNat (48+d)]=[UInt8.ofNat (48+d)]:=by decide
   simpa using this n h1 h0
  ·have ih:=zkk k (n/10) (by omega) (Ybg (by rw[Yae,←Y4];exact h));have hne:Zam (n/10)≠[]:=by
    unfold Zam;by_cases h2:n/10<10
    ·rw[zkg h2];simp
    ·rw[zqw h2];simp
   rw[Ydv,ih,zix h1];rw[if_neg (by simpa using hne)]
theorem zq5(j:Nat):∀(k n:Nat),Zdn (j+k) n=Zdn j (n/10^k)++Zdn k (n%10^k)
 | 0,n=>by simp[ziy]
 | k+1,n=>by
  rw[←Yas,zej,zq5 j k (n/10),zej,Y8];have e1:n/10/10^k=n/10^(k+1):=by rw[Ybi,Y4,Yae]
  have e2:n/10%10^k=n%10^(k+1)/10:=by rw[Y4,Yae,Nat.mod_mul_right_div_self]
  have e3:n%10^(k+1)%10=n%10:=by rw[Y4,Nat.mod_mul_left_mod]
  rw[e1,e2,e3]
theorem zpl:∀n,(pieces n).reverse.flatten=Zdn (9*(pieces n).length) n:=by
 intro n
 induction n using Nat.strongRecOn with
 | _ n ih=>
  by_cases h0:n=0
  ·subst h0;simp[zb6,ziy]
  ·rw[zco h0,Yen,List.flatten_append,ih _ (Ydn (Yar h0) (by decide))];simp only[Ye,Yer,List.flatten_nil,Yaq];rw[show 9*((pieces (n/1000000000)).length+1)=9*(pieces (n/1000000000)).length+9 by omega,zq5]
theorem zya:∀n,n<10^(9*(pieces n).length):=by
 intro n
 induction n using Nat.strongRecOn with
 | _ n ih=>
  by_cases h0:n=0
  ·subst h0;simp[zb6]
  ·have h:=ih _ (Ydn (Yar h0) (by decide:1<1000000000));rw[zco h0,Ye,Yao,Ybh];exact(Ybn (by decide:0<10^(9*1))).1 h
theorem zpm(n:Nat)(h:n≠0):((pieces n).reverse.flatten).dropWhile (· == 48)=Zam n:=by
 rw[zpl];exact zkk _ n h (zya n)
theorem zc8:∀(l:List (List UInt8)),(∀s∈l,s.length=9)→l.flatten.length=9*l.length
 | [],_=>rfl
 | s::l,h=>by
  rw[Yer,Yy,h s Yz,zc8 l fun s hs=>h s (Yn _ hs),Ye];omega
def Zli(a:List UInt32):St:=⟨[(3,.bs (.loc 3) 1 1 0 0),(3,.sl [] .nl),(10,.b false),(9,.sl (Zb a) .an),(2,.s []),(0,.sl (Zb a) .an)],[(.loc 3,⟨1,.own,1,[]⟩)],2⟩
end
section
variable{T:Tbl}
theorem zaia(a:List UInt32):evX (orc T) T 0 tx3 ⟨[(10,.b false),(9,.sl (Zb a) .an),(2,.s []),(0,.sl (Zb a) .an)],[],1⟩=some (.n,Zli a):=by
 simp -implicitDefEqProofs[tx3,Zli]
end
section
variable{T:Tbl}[Zq T][Zs T][Zn T]
theorem zaib(a:List UInt32)(hl:a.length≤1000):evX (orc T) T 0 txP (Zli a) =
  some (.n,⟨[(3,.bs (.loc 3) 1 1 0 (pieces (val a)).length)],[((.loc 3),⟨1,.own,1,Zde (pieces (val a))⟩)],3⟩):=by
 have hp:=zn2 a;have h:=z0x (T:=T) (pieces (val a)).length (by omega) (pieces (val a)) (a,[]) ⟨by simpa using hl,rfl,rfl⟩;unfold Zk4 at h;simp[Zde]at h;simp -implicitDefEqProofs[Zli,txP,h,Zde]
end
end Go.Ab
end
section
namespace Go.Ab
section
variable{T:Tbl}
theorem ztb(res:List UInt8):∀l:List UInt8,(l.length≤1000000∧l.dropWhile (· == 48)=res) →
  Zf T 0 0 (.norm false [0]) l125_0 ⟨[(0,.s l),(1,u8 48)],[],2⟩=some (.n,⟨[(0,.s res)],[],2⟩):=by
 refine zaq (fun l:List UInt8=>⟨[(0,.s l),(1,u8 48)],[],2⟩) _ (fun l=>l.length) _ ?_
 rintro l ⟨hl,hr⟩
 cases l with
 | nil=>
  right;simp at hr;subst hr;constructor<;>simp -implicitDefEqProofs[l125_0]
 | cons c r=>
  simp only[Ye]at hl;have h2:(0:Int)<(r.length:Int)+1:=by omega
  have h3:(1:Int)≤(r.length:Int)+1:=by omega
  by_cases hc:c=48
  ·left;subst hc;rw[Yeg (by decide)]at hr;exact⟨r,⟨by omega,hr⟩,Y1 _,by simp -implicitDefEqProofs[l125_0,h2,h3],rfl⟩
  ·right;rw[Yeh (by simpa using hc)]at hr;subst hr;have hc':¬ c.toNat=48:=fun h=>hc (UInt8.toNat_inj.1 h);constructor<;>simp -implicitDefEqProofs[l125_0,h2,hc']
end
section
variable{T:Tbl}[Zhv T]
theorem zxo(l:List UInt8)(hl:l.length≤1000000):Za T 103 [.s l,.s [48]]=some (.s (l.dropWhile (· == 48))):=by
 have h:=ztb (T:=T) _ l ⟨hl,rfl⟩;have h1:Za T 125 [.s l,u8 48]=some (.s (l.dropWhile (· == 48))):=by
  rw[zab Zhv.h125 rfl,b125];simp -implicitDefEqProofs[h]
 obtain⟨Z,hZ⟩:∃Z,b103=(.seq
 (.reg [⟨(some 4),none,.mov (.c (.s []))⟩])
 (.seq
  (.seq
  (.reg [⟨(some 7),none,.mov (.t 0)⟩,
   ⟨(some 8),none,.bin .eql (.t 7) (.c (.s []))⟩,
   ⟨(some 9),none,.mov (.t 8)⟩,
   ⟨(some 10),(some (9,false)),.mov (.t 1)⟩,
   ⟨(some 11),(some (9,false)),.bin .eql (.t 10) (.c (.s []))⟩,
   ⟨(some 12),none,.pick (.t 9) (.c (.b true)) (.t 11)⟩])
  (.cond (.t 12)
   (.seq
   (.reg [⟨(some 13),none,.mov (.t 0)⟩,
    ⟨(some 4),none,.mov (.t 13)⟩])
   (.pre (.norm false [4]) .ret))
   .skip))
  (.seq
  (.seq
   (.reg [⟨(some 14),none,.mov (.t 1)⟩,
    ⟨(some 15),none,.lens (.t 14)⟩,
    ⟨(some 16),none,.bin .eql (.t 15) (.c (.i .i64 1))⟩,
    ⟨(some 17),none,.mov (.t 16)⟩,
    ⟨(some 18),(some (17,true)),.mov (.t 1)⟩,
    ⟨(some 19),(some (17,true)),.ixs (.t 18) (.c (.i .i64 0))⟩,
    ⟨(some 20),(some (17,true)),.bin .lss (.t 19) (.c (u8 128))⟩,
    ⟨(some 21),none,.pick (.t 17) (.t 20) (.c (.b false))⟩])
   (.cond (.t 21)
   (.seq
    (.reg [⟨(some 22),none,.mov (.t 0)⟩,
     ⟨(some 23),none,.mov (.t 1)⟩,
     ⟨(some 24),none,.ixs (.t 23) (.c (.i .i64 0))⟩,
     ⟨(some 25),none,.call 125 [(.t 22),(.t 24)]⟩,
     ⟨(some 4),none,.mov (.t 25)⟩])
    (.pre (.norm false [4]) .ret))
   .skip)) Z)):AX):=⟨_,rfl⟩
 rw[zab Zhv.h103 rfl,hZ];by_cases h0:l=[]
 ·subst h0;simp -implicitDefEqProofs
 ·simp -implicitDefEqProofs[h0,h1]
end
end Go.Ab
end
section
namespace Go.Ab
variable{P:Program}{ν:Nat→FuncId}{T:Tbl}
theorem zvc(hT:TOk P ν T)(hm:P.follows .mixedOrders=true){cx:Cx}(hP:cx.P=P)(hk:cx.clk0=1)(c:AX){code:Code}{nt:Nat}(hnt:cx.nt=nt)(hres:Zp P nt code=some (er ν (Zo T) c)){st:St}{e:Ex}{st':St}
  (h:evX (orc T) T 0 c st=some (e,st')) {a:Act} {w:World} (hr:Rel cx st a w) {K:Exit→Act→World→Prop} (hK:∀a' w',Rel cx st' a' w'→K e.out a' w'):code.wp P K a w:=by
 obtain⟨L,h1,h2⟩:=zb0 T 0 c st _ _ h;obtain⟨n,hn⟩:=zoq T h1;have hev:=za6 (GoodO.orcN hT hm n) (k:=0) (cx:=cx) hP hk c st e st' (h2 _ hn);subst hP hnt;refine wp_mono (hev code hres hm a w hr) ?_
 rintro ex a' w' ⟨s,⟨rfl,rfl⟩,hr'⟩
 exact hK a' w' hr'
theorem zvd{nt:Nat}{w:World}{S:Nat→Nat→Prop}{cargs:Array Value}{args:List AV}(hl:cargs.size=args.length)(hn:args.length≤nt)
  (hC:∀(j:Nat) (v:Value) (c:AV),cargs[j]? = some v→args[j]? = some c→CP w S v c) (hS:∀k o,S k o→k<w.heap.size) :
  Rel ⟨P,nt,w,S,fun _=>none,1⟩ ⟨Zbc args,[],1⟩ { tmps:=cargs++Array.replicate (nt-cargs.size) undef,defers:=[] } w:=by
 refine⟨S,fun _=>none,by simp;omega,rfl,fun t=>?_,⟨⟨fun b bx hb=>(by simp at hb),fun g m hm=>(by cases hm),fun b bx b' bx' h1=>(by simp at h1),fun g g' k h1=>(by cases h1)⟩,
  Ext.refl _ _ _ _,⟨rfl,rfl,rfl,Yd _,fun _ _ _=>rfl⟩,fun k o hs=>.inl hs,hS,fun g k hm=>(by cases hm)⟩⟩
 rw[zjo];cases ha:args[t]? with
 | none=>exact .p (.dead _)
 | some x=>
  have htl:=zbb ha;have hv:cargs[t]? = some (cargs[t]'(by omega)):=Y9 _;have e1:(cargs++Array.replicate (nt-cargs.size) undef).getD t undef=cargs[t]'(by omega):=by
   simp only[Yd6];rw[Yba (by omega),hv]
   rfl
  rw[e1];exact .p (hC t _ x hv ha)
theorem Rel.below{nt:Nat}{w0:World}{S:Nat→Nat→Prop}{st:St}{a:Act}{w:World}(h:Rel ⟨P,nt,w0,S,fun _=>none,1⟩ st a w):RowKit.Below w0.heap.size w0 w:=by
 obtain⟨S',M',hr⟩:=h;exact⟨hr.wr.fr.os,hr.wr.fr.tape,hr.wr.fr.output,hr.wr.fr.size,fun k hk=>hr.wr.fr.block k hk fun⟨g,hg⟩=>(by cases hg)⟩
theorem Rel.strAt{cx:Cx}{st:St}{a:Act}{w:World}(h:Rel cx st a w){t:Nat}{l:List UInt8}(he:st.env.get t=.s l):a.tmps.getD t undef=.string ⟨l.toArray⟩:=by
 obtain⟨S',M',hr⟩:=h;have:=hr.env t;rw[he]at this;generalize a.tmps.getD t undef=v at *
 cases this with
 | p h=>cases h;rfl
theorem Rel.strs{cx:Cx}{st:St}{a:Act}{w:World}(h:Rel cx st a w){t:Nat}{b:BId}{g n:Nat}{ls:List (List UInt8)}(hne:ls≠[])(he:st.env.get t=.bs b g 1 0 n)
  (hb:st.heap.lookup b=some ⟨g,.own,1,ls.map fun s=>[.s s]⟩):∃k arr e cap,a.tmps.getD t undef=.slice (some ⟨k,0,none⟩) n cap∧w.heap[k]? = some (.cells arr e (0,0))∧n≤cap∧cap≤maxLen∧cap≤arr.size ∧
   ∀(i:Nat) (s:List UInt8),ls[i]? = some s→arr[i]? = some (Value.string ⟨s.toArray⟩):=by
 obtain⟨S',M',hr⟩:=h;have h1:=hr.env t;rw[he]at h1;obtain⟨_,_,m,hm,h2⟩:=hr.wr.heap.box b _ hb;simp only at hm h2;generalize a.tmps.getD t undef=v at *
 cases h1 with
 | p h=>cases h
 | bs _ _ _ _ _ _ hg hB h1=>
  unfold Zfg at hB;rw[hm]at hB;cases m with
  | none=>exact absurd (by simpa using h2.1) hne
  | some k=>
   obtain⟨arr,e,cap,hk,hv,c1,c2,c3⟩:=hB;obtain⟨arr',e',hk',_,hcells,_⟩:=h2;rw[hk]at hk';cases hk';refine⟨k,arr,e,cap,by rw[hv],hk,c1,c2,by omega,fun i s hi=>?_⟩;obtain⟨u,hu,_,_,hc⟩:=hcells i [.s s] 0 (.s s) (by simp[hi]) rfl;have:=hc (by simp);rw[Ydq,Yx]at hu;cases this;exact hu
end Go.Ab
end
section
namespace Go.Proofs.YtoaggbmfmgfnpaaGreatDoor
open Go Go.Ab Go.RowKit
theorem list_cons{α:Type}{n:Nat}{l:List α}(h:l.length=n+1):∃x t,l=x::t∧t.length=n:=by
 cases l with
 | nil=>simp at h
 | cons x t=>exact⟨x,t,rfl,by simpa using h⟩
set_option maxHeartbeats 2000000 in
set_option maxRecDepth 100000 in
theorem text_calls(hm:Tryz.prog.follows .mixedOrders=true)(a:List UInt32)(hl:a.length≤1000){w0:World}{S:Nat→Nat→Prop}{cargs:Array Value}(hsz:cargs.size=1)
  (hC:∀(j:Nat) (v:Value) (c:AV),cargs[j]? = some v→[AV.sl (Zb a) .an][j]? = some c→CP w0 S v c) (hS:∀k o,S k o→k<w0.heap.size) :
  Calls Tryz.prog 159 cargs w0 fun e w'=>e=.returned (.string ⟨(Zam (val a)).toArray⟩)∧Below w0.heap.size w0 w':=by
 refine calls_of_wp Tryz.func159 rfl ?_;have h0:=zvd (P:=Tryz.prog) (nt:=40) (w:=w0) (S:=S) (cargs:=cargs) (args:=[AV.sl (Zb a) .an]) (by simpa using hsz) (by simp) hC hS;refine wp_seq (zvc sTab_ok hm (cx:=⟨Tryz.prog,40,w0,S,fun _=>none,1⟩) rfl rfl tx0 (nt:=40) rfl (by kernel_rfl) (sTab_part.ev (by kernel_rfl) (zah9 (T:=tab) _)) h0 fun a1 w1 h1=>?_);refine wp_seq ?_;by_cases hz:val a=0
 ·refine zvc sTab_ok hm (cx:=⟨Tryz.prog,40,w0,S,fun _=>none,1⟩) rfl rfl txA (nt:=40) rfl (by kernel_rfl) (sTab_part.ev (by kernel_rfl) (zaad (T:=tab) a hl hz)) h1 fun a2 w2 h2=>?_;have hv:=h2.strAt (t:=2) (l:=[48]) rfl;have hb:=h2.below;have ht:Zam (val a)=[48]:=by rw[hz];exact zb4 (by decide)
  obtain⟨_,_,hr2⟩:=h2;refine(show bodyPost Tryz.prog Tryz.f159 (fun e w'=>e=.returned (.string ⟨(Zam (val a)).toArray⟩)∧Below w0.heap.size w0 w') .ret a2 w2 from ?_);refine⟨hr2.defers,.string ⟨[48].toArray⟩,?_,by rw[ht],hb⟩;rw[←hv];exact results_tmp rfl _ _ _
 ·refine zvc sTab_ok hm (cx:=⟨Tryz.prog,40,w0,S,fun _=>none,1⟩) rfl rfl txA (nt:=40) rfl (by kernel_rfl) (sTab_part.ev (by kernel_rfl) (zaae (T:=tab) a hl hz)) h1 fun a2 w2 h2=>?_;refine wp_seq (zvc sTab_ok hm (cx:=⟨Tryz.prog,40,w0,S,fun _=>none,1⟩) rfl rfl tx3 (nt:=40) rfl (by kernel_rfl) (sTab_part.ev (by kernel_rfl) (zaia (T:=tab) a)) h2 fun a3 w3 h3=>?_);refine wp_seq (zvc sTab_ok hm (cx:=⟨Tryz.prog,40,w0,S,fun _=>none,1⟩) rfl rfl txP (nt:=40) rfl (by kernel_rfl) (sTab_part.ev (by kernel_rfl) (zaib (T:=tab) a hl)) h3 fun a4 w4 h4=>?_);have hb4:=h4.below;have hne:pieces (val a)≠[]:=by rw[zco hz];simp
  obtain⟨k,arr,e,cap,hv,hk,hc1,hc2,hc3,hcells⟩:=h4.strs (t:=3) (ls:=pieces (val a)) hne rfl (by simp[Zde]);obtain⟨_,_,hr4⟩:=h4;have hdf:=hr4.defers;have hsz:=hr4.size;have hpl:=zn2 a;clear hr4 h0 h1 h2 h3
  change Code.wp _ _ _ a4 w4
  obtain⟨tm,df⟩:=a4;obtain⟨l,rfl⟩:∃l:List Value,tm=l.toArray:=⟨tm.toList,by simp⟩;simp only[Yeo]at hsz;simp only at hdf;subst hdf;obtain⟨x0,l0,rfl,s0⟩:=list_cons hsz;obtain⟨x1,l1,rfl,s1⟩:=list_cons s0;obtain⟨x2,l2,rfl,s2⟩:=list_cons s1;obtain⟨x3,l3,rfl,s3⟩:=list_cons s2;obtain⟨x4,l4,rfl,s4⟩:=list_cons s3;obtain⟨x5,l5,rfl,s5⟩:=list_cons s4;obtain⟨x6,l6,rfl,s6⟩:=list_cons s5;obtain⟨x7,l7,rfl,s7⟩:=list_cons s6;obtain⟨x8,l8,rfl,s8⟩:=list_cons s7;obtain⟨x9,l9,rfl,s9⟩:=list_cons s8;obtain⟨x10,l10,rfl,s10⟩:=list_cons s9;obtain⟨x11,l11,rfl,s11⟩:=list_cons s10;obtain⟨x12,l12,rfl,s12⟩:=list_cons s11;obtain⟨x13,l13,rfl,s13⟩:=list_cons s12;obtain⟨x14,l14,rfl,s14⟩:=list_cons s13;obtain⟨x15,l15,rfl,s15⟩:=list_cons s14;obtain⟨x16,l16,rfl,s16⟩:=list_cons s15;obtain⟨x17,l17,rfl,s17⟩:=list_cons s16;obtain⟨x18,l18,rfl,s18⟩:=list_cons s17;obtain⟨x19,l19,rfl,s19⟩:=list_cons s18;obtain⟨x20,l20,rfl,s20⟩:=list_cons s19;obtain⟨x21,l21,rfl,s21⟩:=list_cons s20;obtain⟨x22,l22,rfl,s22⟩:=list_cons s21;obtain⟨x23,l23,rfl,s23⟩:=list_cons s22;obtain⟨x24,l24,rfl,s24⟩:=list_cons s23;obtain⟨x25,l25,rfl,s25⟩:=list_cons s24;obtain⟨x26,l26,rfl,s26⟩:=list_cons s25;obtain⟨x27,l27,rfl,s27⟩:=list_cons s26;obtain⟨x28,l28,rfl,s28⟩:=list_cons s27;obtain⟨x29,l29,rfl,s29⟩:=list_cons s28;obtain⟨x30,l30,rfl,s30⟩:=list_cons s29;obtain⟨x31,l31,rfl,s31⟩:=list_cons s30;obtain⟨x32,l32,rfl,s32⟩:=list_cons s31;obtain⟨x33,l33,rfl,s33⟩:=list_cons s32;obtain⟨x34,l34,rfl,s34⟩:=list_cons s33;obtain⟨x35,l35,rfl,s35⟩:=list_cons s34;obtain⟨x36,l36,rfl,s36⟩:=list_cons s35;obtain⟨x37,l37,rfl,s37⟩:=list_cons s36;obtain⟨x38,l38,rfl,s38⟩:=list_cons s37;obtain⟨x39,l39,rfl,s39⟩:=list_cons s38;cases Yay s39;have hx3:x3=.slice (some ⟨k,0,none⟩) (pieces (val a)).length cap:=hv;subst hx3;have hjoin:=zpm (val a) hz;have hall:=zpk (val a);generalize pieces (val a)=ps at *
  have HC:Aside (∀(i:Nat) (s:List UInt8),ps[i]? = some s→arr[i]? = some (Value.string ⟨s.toArray⟩)):=hcells;have HJ:Aside (List.dropWhile (fun x=>x == 48) ps.reverse.flatten=Zam (val a)):=hjoin;have HN:Aside (∀s∈ps,s.length=9):=hall;have HB:Aside (Below w0.heap.size w0 w4):=hb4;have HK:Aside (w4.heap[k]? = some (.cells arr e (0,0))):=hk;have hk4:k<w4.heap.size:=by
   rcases Yo k w4.heap.size with h' | h'
   ·exact h'
   ·simp[Ycc h']at hk
  clear hcells hjoin hall hb4 hk
  go_wp2
  go_loopg [8] ps.length (fun g s8 wx=>s8=.int .i64 ((g:Int)-1)∧g≤ps.length∧Aside (Lib.IsBuilder 231 5 w4.heap.size w4.heap.size (Lib.byteCells (ps.drop g).reverse.flatten) wx∧Below w4.heap.size w4 wx))
  case atStart=>exact⟨rfl,Yd _,by rw[Y7];exact Lib.fresh_isBuilder 231 5 w4,(Below.refl _ _).alloc (Yd _) _⟩
  case round=>
   obtain⟨rfl,hg,HW⟩:=hrel;cases gk with
   | zero=>
    obtain⟨hBld,hBel⟩:=HW.out;rw[Yaa]at hBld;have hne':ps.reverse.flatten≠[]:=by
     intro h;have:=zc8 ps.reverse (fun s hs=>HN.out s (Ydx.1 hs));rw[h]at this;simp at this;exact hne (Yay (by omega))
    have HT:Aside (ps.reverse.flatten≠[]):=hne';clear hne';have hlenF:ps.reverse.flatten.length≤1000000:=by
     rw[zc8 ps.reverse (fun s hs=>HN.out s (Ydx.1 hs)),Yda];omega
    have hT:∀W:World,Calls Tryz.prog 213 #[.string ⟨ps.reverse.flatten.toArray⟩,.string ⟨#[48]⟩] W fun e w'=>e=.returned (.string ⟨(Zam (val a)).toArray⟩)∧Below W.heap.size W w':=by
     intro W;have h1:=zh1 sTab_ok hm (u:=103) rfl rfl (sTab_part.call (by kernel_rfl) (zxo (T:=tab) ps.reverse.flatten hlenF));rw[HJ.out]at h1;refine(h1.2 W (fun _ _=>False) #[.string ⟨ps.reverse.flatten.toArray⟩,.string ⟨#[48]⟩] rfl (fun j v c hv hc=>?_) (fun _ _ h=>h.elim)).mono ?_
     ·match j,hv,hc with
      | 0,hv,hc=>cases hv;cases hc;exact .s _
      | 1,hv,hc=>cases hv;cases hc;exact .s _
     ·rintro e w' ⟨v,r,rfl,rfl,hb,hc⟩
      cases hc;exact⟨rfl,hb⟩
    have HTT:=hT;clear hT
    go_wp2_with (go_at_call 162;refine(Tryz.bString w4.heap.size w4.heap.size ps.reverse.flatten wr hBld HT.out).mono ?_)
    rintro e1 w5 ⟨rfl,hb5⟩
    go_wp2_with (go_at_call 213;refine(HTT w5).mono ?_)
    rintro e2 w6 ⟨rfl,hb6⟩
    go_wp2
    go_ret
    refine⟨rfl,?_⟩;have hs1:=HB.out.size;have hs5:=(hBel.trans hb5).size;exact HB.out.trans (((hBel.trans hb5).mono hs1).trans (hb6.mono (by omega)))
   | succ j=>
    obtain⟨hBld,hBel⟩:=HW.out;obtain⟨s,hs⟩:∃s,ps[j]? = some s:=⟨_,Ya (by omega)⟩;have hcell:wr.cell? ⟨k,j,none⟩=some (.string ⟨s.toArray⟩):=by
     rw[hBel.cell (p:=⟨k,j,none⟩) hk4,Lib.cell_of_heap HK.out];exact HC.out j s hs
    have hs9:s.length=9:=HN.out s (Yk hs);have hflen:=zc8 (ps.drop (j+1)).reverse (fun s hs=>HN.out s (Ycm (Ydx.1 hs)));have HS:Aside (ps[j]? = some s):=hs;clear hs;rw[Yda,Yal]at hflen;have hbound:(Lib.byteCells (ps.drop (j+1)).reverse.flatten).length+(⟨s.toArray⟩:ByteArray).size≤140737488355328:=by
     rw[Lib.byteCells_length,hflen];show _+s.toArray.size≤_;simp only[Yeo];omega
    have HF:Aside ((Lib.byteCells (ps.drop (j+1)).reverse.flatten).length+(⟨s.toArray⟩:ByteArray).size≤140737488355328):=hbound;clear hflen hbound
    go_wp2_with (go_at_call 161;refine(Tryz.bWrite w4.heap.size w4.heap.size _ ⟨s.toArray⟩ wr hBld HF.out hBel.size).mono ?_)
    rintro e1 w5 ⟨rfl,h5,hb5⟩
    go_wp2
    go_roundg j
    case measure=>omega
    case rel=>
     refine⟨by congr 1,by omega,?_,hBel.trans hb5⟩;have e1:(ps.drop j).reverse.flatten=(ps.drop (j+1)).reverse.flatten++s:=by
      obtain⟨hj,he⟩:=Yu.1 HS.out;rw[Yi hj,he];simp
     rw[e1,Lib.byteCells_append];exact .inr h5
theorem word_rows:∀(els:List (List AV)) (l:List UInt32),els.mapM Zfn=some l→els=Zb l
 | [],l,h=>by cases h;rfl
 | r::els,l,h=>by
  rw[Ybl]at h;obtain⟨x,hx,h1⟩:=bind_some h;obtain⟨y,hy,h2⟩:=bind_some h1;cases h2;rw[word_rows els y hy];unfold Zfn at hx;split at hx
  ·split at hx
   ·cases hx;rename_i n hn;have:(w32 n.toNat).toNat=n.toNat:=zag (by omega);simp only[Zb,Y0,this,u32];rw[Int.toNat_of_nonneg hn.1]
   ·cases hx
  ·cases hx
theorem text_ok(hm:Tryz.prog.follows .mixedOrders=true):∀xs r,prim68 xs=some r→Zae Tryz.prog (nu 68) xs (·=r):=by
 intro xs r h;unfold prim68 at h;split at h
 ·split at h
  ·rename_i els hl;cases hw:els.mapM Zfn with
   | none=>rw[hw]at h;cases h
   | some l=>
    rw[hw]at h;cases h;have he:=word_rows els l hw;subst he;rw[zh4]at hl;refine⟨enters_of Tryz.func159 (by kernel_rfl) rfl,fun w S cargs hsz hC hS=>?_⟩;refine(text_calls hm l hl (by simpa using hsz) hC hS).mono ?_
    rintro e w' ⟨rfl,hb⟩
    exact⟨_,_,rfl,rfl,hb,.s _⟩
  ·cases h
 ·cases h
#print axioms text_ok
end Go.Proofs.YtoaggbmfmgfnpaaGreatDoor
end
section
set_option linter.unusedVariables false
namespace Go.Proofs
open Go.Shelf Go.RowKit
variable{P:Program}{ρ:Ren}
structure JL (P:Program) (ρ:Ren):Prop extends Lays.n169 P ρ,Lays.n241 P ρ,Builder.Extra P ρ where
 f156:P.funcs[ρ.f 156]? = some (Body.n156 ρ)
 f165:P.funcs[ρ.f 165]? = some (Body.n165 ρ)
 f166:P.funcs[ρ.f 166]? = some (Body.n166 ρ)
 t4:P.underlying (ρ.t 4)=some (TypeDesc.bool)
 a4:∀w,(isAgg (ρ.t 4)).run P w=.ok false w
 z4:∀w,(Go.sizeOf (ρ.t 4)).run P w=.ok 1 w
 v4:∀w,(zeroValue (ρ.t 4)).run P w=.ok (Value.bool false) w
 t20:P.underlying (ρ.t 20)=some (TypeDesc.interface #[])
 a20:∀w,(isAgg (ρ.t 20)).run P w=.ok false w
 z20:∀w,(Go.sizeOf (ρ.t 20)).run P w=.ok 1 w
 v20:∀w,(zeroValue (ρ.t 20)).run P w=.ok (Value.nilIface) w
 t31:P.underlying (ρ.t 31)=some (TypeDesc.slice (ρ.t 9))
 a31:∀w,(isAgg (ρ.t 31)).run P w=.ok false w
 z31:∀w,(Go.sizeOf (ρ.t 31)).run P w=.ok 1 w
 v31:∀w,(zeroValue (ρ.t 31)).run P w=.ok (Value.slice none 0 0) w
 t75:P.underlying (ρ.t 75)=some (TypeDesc.interface #[("Error",ρ.t 80)])
 a75:∀w,(isAgg (ρ.t 75)).run P w=.ok false w
 z75:∀w,(Go.sizeOf (ρ.t 75)).run P w=.ok 1 w
 v75:∀w,(zeroValue (ρ.t 75)).run P w=.ok (Value.nilIface) w
 t76:P.underlying (ρ.t 76)=some (TypeDesc.tuple #[ρ.t 3,ρ.t 75])
 a76:∀w,(isAgg (ρ.t 76)).run P w=.ok false w
 z76:∀w,(Go.sizeOf (ρ.t 76)).run P w=.ok 1 w
 v76:∀w,(zeroValue (ρ.t 76)).run P w=.ok (Value.tuple #[Value.int IntKind.i64 0,Value.nilIface]) w
 t164:P.underlying (ρ.t 164)=some (TypeDesc.unsafePointer)
 a164:∀w,(isAgg (ρ.t 164)).run P w=.ok false w
 z164:∀w,(Go.sizeOf (ρ.t 164)).run P w=.ok 1 w
 v164:∀w,(zeroValue (ρ.t 164)).run P w=.ok (Value.pointer none) w
 e240:∀args w,(callFunc (ρ.f 240) args).run P w=.ok (.enter (ρ.f 240) args) w
 c240:∀(B b:Nat) (bs:List Value) (w:World),Lib.IsBuilder (ρ.t 72) (ρ.t 5) B b bs w →
  Calls P (ρ.f 240) #[.pointer (some ⟨b,0,none⟩)] w fun e w'=>e=.returned (.tuple #[])∧(Lib.BuilderAt (ρ.t 72) (ρ.t 5) B b (.pointer (some ⟨b,0,none⟩)) bs w'∧Below B w w')
 c240f:∀(b:Nat) (w:World),w.cell? ⟨b,0,none⟩=some (.pointer none)→w.shape? b=some ((ρ.t 72),2)→w.frozen? ⟨b,0,none⟩=false →
  Calls P (ρ.f 240) #[.pointer (some ⟨b,0,none⟩)] w fun e w'=>e=.returned (.tuple #[])∧w'=w.setCell ⟨b,0,none⟩ (.pointer (some ⟨b,0,none⟩))
theorem Jl.hid{p:Prop}(h:p):Hid p:=h
set_option maxHeartbeats 2000000 in
set_option maxRecDepth 100000 in
theorem Jl.Builder_WriteString(L:JL P ρ)(B b:Nat)(bs:List Value)(s:ByteArray)(w:World)(h:Lib.IsBuilder (ρ.t 72) (ρ.t 5) B b bs w)(hlen:bs.length+s.size≤140737488355328)(hBw:B≤w.heap.size) :
  Calls P (ρ.f 166) #[.pointer (some ⟨b,0,none⟩),.string s] w fun e w'=>e=.returned (.tuple #[.int .i64 s.size,.nilIface])∧(Lib.BuilderAt (ρ.t 72) (ρ.t 5) B b (.pointer (some ⟨b,0,none⟩)) (bs++Lib.strCells s) w'∧Below B w w'):=by
 obtain⟨i0,hi,hz0,hz1,hz2⟩:=info_parts L.infoByte;have mixed:=L.mixed;have t72:=L.t72;have a72:=L.a72;have z72:=L.z72;have v72:=L.v72;have u72:=run_underlying L.t72;have t70:=L.t70;have a70:=L.a70;have z70:=L.z70;have v70:=L.v70;have u70:=run_underlying L.t70;have t37:=L.t37;have a37:=L.a37;have z37:=L.z37;have v37:=L.v37;have u37:=run_underlying L.t37;have t3:=L.t3;have a3:=L.a3;have z3:=L.z3;have v3:=L.v3;have u3:=run_underlying L.t3;have t9:=L.t9;have a9:=L.a9;have z9:=L.z9;have v9:=L.v9;have u9:=run_underlying L.t9;have t4:=L.t4;have a4:=L.a4;have z4:=L.z4;have v4:=L.v4;have u4:=run_underlying L.t4;have t164:=L.t164;have a164:=L.a164;have z164:=L.z164;have v164:=L.v164;have u164:=run_underlying L.t164;have t5:=L.t5;have a5:=L.a5;have z5:=L.z5;have v5:=L.v5;have u5:=run_underlying L.t5;have e240:∀args w,(callFunc (ρ.f 240) args).run P w=.ok (.enter (ρ.f 240) args) w:=L.e240
 go_enter L.f166,Body.n166_ntmps ρ
 go_wp2_with (go_at_fn (ρ.f 240);refine(L.c240 B b bs _ h).mono ?_)
 rintro e w1 ⟨rfl,h1,hb1⟩
 obtain⟨hB,v,hbk,hown,hne⟩:=h1;have c0:w1.cell? ⟨b,0,none⟩=some (.pointer (some ⟨b,0,none⟩)):=by rw[Lib.cell_of_heap hbk];rfl
 have c1:w1.cell? ⟨b,1,none⟩=some v:=by rw[Lib.cell_of_heap hbk];rfl
 go_wp2_with (at_builtin;refine Lib.wpList_append_own_string _ rfl _ _ (ρ.t 37) (ρ.t 9) rfl B (ρ.t 5) i0 L.t37 L.t9 hi hz0 hz1 hz2 _ _ _ rfl hown s rfl ?c3 ?c4 ?c5 ?_)
 case c3=>unfold maxLen;omega
 case c4=>omega
 case c5=>have:=hb1.size;omega
 intro v' w2 hown' hgrow _;have hlt:b<w1.heap.size:=by
  rcases Nat.lt_or_ge b w1.heap.size with h' | h'
  ·exact h'
  ·simp[Array.getElem?_eq_none h']at hbk
 have hb2:w2.heap[b]? = some (.cells #[.pointer (some ⟨b,0,none⟩),v] (ρ.t 72) (0,0)):=by
  rw[hgrow.block b hlt (fun e=>hne e.symm)];exact hbk
 have d0:w2.cell? ⟨b,0,none⟩=some (.pointer (some ⟨b,0,none⟩)):=by rw[Lib.cell_of_heap hb2];rfl
 have d1:w2.cell? ⟨b,1,none⟩=some v:=by rw[Lib.cell_of_heap hb2];rfl
 have f1:w2.frozen? ⟨b,1,none⟩=false:=Lib.frozen_of_heap hb2 1;obtain⟨ao,n',cap,rfl⟩:∃ao n' cap,v'=.slice ao n' cap:=by
  rcases hown'.2 with ⟨hv,_⟩ | ⟨g,cap,cur,hv,_⟩
  ·exact⟨_,_,_,hv⟩
  ·exact⟨_,_,_,hv⟩
 go_wp2
 go_ret2
 refine⟨rfl,?_,?_⟩
 ·exact Lib.BuilderAt.put (T:=(ρ.t 72)) (e:=(ρ.t 5)) hB hb2 (bs':=bs++Lib.strCells s) (by simpa[Lib.strCells_length]using hown') L.neB5
 ·exact(hb1.grown hgrow (by have:=hb1.size;omega) (fun k hk=>(hown.lt k hk).1)).setCell (p:=⟨b,1,none⟩) hB _
set_option maxHeartbeats 2000000 in
set_option maxRecDepth 1000000 in
theorem Jl.Builder_Grow_fresh(L:JL P ρ)(B b n:Nat)(w:World)(hB:B≤b)(hbk:w.heap[b]? = some (.cells #[.pointer none,.slice none 0 0] (ρ.t 72) (0,0)))(hBw:B≤w.heap.size)(hn:n≤281474976710656) :
  Calls P (ρ.f 165) #[.pointer (some ⟨b,0,none⟩),.int .i64 n] w fun e w'=>e=.returned (.tuple #[])∧(Lib.BuilderAt (ρ.t 72) (ρ.t 5) B b (.pointer (some ⟨b,0,none⟩)) [] w'∧Below B w w'):=by
 have hbk1:(w.setCell ⟨b,0,none⟩ (.pointer (some ⟨b,0,none⟩))).heap[b]? = some (.cells #[.pointer (some ⟨b,0,none⟩),.slice none 0 0] (ρ.t 72) (0,0)):=by
  simp[World.setCell,Array.getElem?_modify,hbk]
 have c1:(w.setCell ⟨b,0,none⟩ (.pointer (some ⟨b,0,none⟩))).cell? ⟨b,1,none⟩=some (.slice none 0 0):=by rw[Lib.cell_of_heap hbk1];rfl
 have hb1:Below B w (w.setCell ⟨b,0,none⟩ (.pointer (some ⟨b,0,none⟩))):=(Below.refl B w).setCell (p:=⟨b,0,none⟩) hB _;have mixed:=L.mixed;have t72:=L.t72;have a72:=L.a72;have z72:=L.z72;have v72:=L.v72;have u72:=run_underlying L.t72;have t70:=L.t70;have a70:=L.a70;have z70:=L.z70;have v70:=L.v70;have u70:=run_underlying L.t70;have t37:=L.t37;have a37:=L.a37;have z37:=L.z37;have v37:=L.v37;have u37:=run_underlying L.t37;have t3:=L.t3;have a3:=L.a3;have z3:=L.z3;have v3:=L.v3;have u3:=run_underlying L.t3;have t9:=L.t9;have a9:=L.a9;have z9:=L.z9;have v9:=L.v9;have u9:=run_underlying L.t9;have t4:=L.t4;have a4:=L.a4;have z4:=L.z4;have v4:=L.v4;have u4:=run_underlying L.t4;have t164:=L.t164;have a164:=L.a164;have z164:=L.z164;have v164:=L.v164;have u164:=run_underlying L.t164;have t5:=L.t5;have a5:=L.a5;have z5:=L.z5;have v5:=L.v5;have u5:=run_underlying L.t5;have e240:∀args w,(callFunc (ρ.f 240) args).run P w=.ok (.enter (ρ.f 240) args) w:=L.e240;have e241:∀args w,(callFunc (ρ.f 241) args).run P w=.ok (.enter (ρ.f 241) args) w:=enters_of L.f241 (by kernel_rfl) rfl
 go_enter L.f165,Body.n165_ntmps ρ
 have hU:Lib.BuilderAt (ρ.t 72) (ρ.t 5) B b (.pointer (some ⟨b,0,none⟩)) [] (w.setCell ⟨b,0,none⟩ (.pointer (some ⟨b,0,none⟩))):=⟨hB,.slice none 0 0,hbk1,World.ownsRow_nil _ _ _ _,by simp[Value.ownBlock]⟩;have c1':(w.setCell ⟨b,0,none⟩ (.pointer (some ⟨b,0,none⟩))).drew.cell? ⟨b,1,none⟩=some (.slice none 0 0):=c1
 go_wp2_with (go_at_fn (ρ.f 240);refine(L.c240f b w (by rw[Lib.cell_of_heap hbk];rfl) (by simp[World.shape?,hbk]) (Lib.frozen_of_heap hbk 0)).mono ?_;rintro e w' ⟨rfl,rfl⟩)
 go_region_o
 all_goals go_wp2_with (go_at_fn (ρ.f 241);refine(Any.Builder_grow_fresh L.ton241 L.toExtra B b n (w.setCell ⟨b,0,none⟩ (.pointer (some ⟨b,0,none⟩))).drew hB hbk1 (by simpa[World.setCell,World.drew,-World.drew_eq]using hBw) hn).mono ?_;rintro e w' ⟨rfl,h1,h2⟩)
 all_goals first
  | (go_end0;exact⟨rfl,h1,hb1.drew.trans h2⟩)
  | (go_end0;exact⟨rfl,hU.drew,hb1.drew⟩)
theorem Jl.strings_Join_none(L:JL P ρ)(a:Option Addr)(c:Nat)(sep:ByteArray)(w:World) :
  Calls P (ρ.f 156) #[.slice a 0 c,.string sep] w fun e w'=>e=.returned (.string ⟨#[]⟩)∧w'=w:=by
 have mixed:=L.mixed;have t72:=L.t72;have a72:=L.a72;have z72:=L.z72;have v72:=L.v72;have u72:=run_underlying L.t72;have t70:=L.t70;have a70:=L.a70;have z70:=L.z70;have v70:=L.v70;have u70:=run_underlying L.t70;have t37:=L.t37;have a37:=L.a37;have z37:=L.z37;have v37:=L.v37;have u37:=run_underlying L.t37;have t127:=L.t127;have a127:=L.a127;have z127:=L.z127;have v127:=L.v127;have u127:=run_underlying L.t127;have t3:=L.t3;have a3:=L.a3;have z3:=L.z3;have v3:=L.v3;have u3:=run_underlying L.t3;have t9:=L.t9;have a9:=L.a9;have z9:=L.z9;have v9:=L.v9;have u9:=run_underlying L.t9;have t4:=L.t4;have a4:=L.a4;have z4:=L.z4;have v4:=L.v4;have u4:=run_underlying L.t4;have t164:=L.t164;have a164:=L.a164;have z164:=L.z164;have v164:=L.v164;have u164:=run_underlying L.t164;have t31:=L.t31;have a31:=L.a31;have z31:=L.z31;have v31:=L.v31;have u31:=run_underlying L.t31;have t5:=L.t5;have a5:=L.a5;have z5:=L.z5;have v5:=L.v5;have u5:=run_underlying L.t5;have e240:∀args w,(callFunc (ρ.f 240) args).run P w=.ok (.enter (ρ.f 240) args) w:=L.e240;have e241:∀args w,(callFunc (ρ.f 241) args).run P w=.ok (.enter (ρ.f 241) args) w:=enters_of L.f241 (by kernel_rfl) rfl;have e165:∀args w,(callFunc (ρ.f 165) args).run P w=.ok (.enter (ρ.f 165) args) w:=enters_of L.f165 (by kernel_rfl) rfl;have e166:∀args w,(callFunc (ρ.f 166) args).run P w=.ok (.enter (ρ.f 166) args) w:=enters_of L.f166 (by kernel_rfl) rfl;have e169:∀args w,(callFunc (ρ.f 169) args).run P w=.ok (.enter (ρ.f 169) args) w:=enters_of L.f169 (by kernel_rfl) rfl
 go_enter L.f156,Body.n156_ntmps ρ
 go_wp2
 go_ret
 exact⟨rfl,rfl⟩
theorem Jl.strings_Join_one(L:JL P ρ)(bk o c:Nat)(x sep:ByteArray)(w:World)(hc:w.cell? ⟨bk,o,none⟩=some (.string x)) :
  Calls P (ρ.f 156) #[.slice (some ⟨bk,o,none⟩) 1 c,.string sep] w fun e w'=>e=.returned (.string x)∧w'=w:=by
 have mixed:=L.mixed;have t72:=L.t72;have a72:=L.a72;have z72:=L.z72;have v72:=L.v72;have u72:=run_underlying L.t72;have t70:=L.t70;have a70:=L.a70;have z70:=L.z70;have v70:=L.v70;have u70:=run_underlying L.t70;have t37:=L.t37;have a37:=L.a37;have z37:=L.z37;have v37:=L.v37;have u37:=run_underlying L.t37;have t127:=L.t127;have a127:=L.a127;have z127:=L.z127;have v127:=L.v127;have u127:=run_underlying L.t127;have t3:=L.t3;have a3:=L.a3;have z3:=L.z3;have v3:=L.v3;have u3:=run_underlying L.t3;have t9:=L.t9;have a9:=L.a9;have z9:=L.z9;have v9:=L.v9;have u9:=run_underlying L.t9;have t4:=L.t4;have a4:=L.a4;have z4:=L.z4;have v4:=L.v4;have u4:=run_underlying L.t4;have t164:=L.t164;have a164:=L.a164;have z164:=L.z164;have v164:=L.v164;have u164:=run_underlying L.t164;have t31:=L.t31;have a31:=L.a31;have z31:=L.z31;have v31:=L.v31;have u31:=run_underlying L.t31;have t5:=L.t5;have a5:=L.a5;have z5:=L.z5;have v5:=L.v5;have u5:=run_underlying L.t5;have e240:∀args w,(callFunc (ρ.f 240) args).run P w=.ok (.enter (ρ.f 240) args) w:=L.e240;have e241:∀args w,(callFunc (ρ.f 241) args).run P w=.ok (.enter (ρ.f 241) args) w:=enters_of L.f241 (by kernel_rfl) rfl;have e165:∀args w,(callFunc (ρ.f 165) args).run P w=.ok (.enter (ρ.f 165) args) w:=enters_of L.f165 (by kernel_rfl) rfl;have e166:∀args w,(callFunc (ρ.f 166) args).run P w=.ok (.enter (ρ.f 166) args) w:=enters_of L.f166 (by kernel_rfl) rfl;have e169:∀args w,(callFunc (ρ.f 169) args).run P w=.ok (.enter (ρ.f 169) args) w:=enters_of L.f169 (by kernel_rfl) rfl
 go_enter L.f156,Body.n156_ntmps ρ
 go_wp2
 go_ret
 exact⟨rfl,rfl⟩
set_option maxHeartbeats 4000000 in
set_option maxRecDepth 100000 in
theorem Jl.strings_Join_many(L:JL P ρ)(bk o c:Nat)(xs:List ByteArray)(sep:ByteArray)(w:World)
  (hcells:∀(j:Nat) x,xs[j]? = some x→w.cell? ⟨bk,o+j,none⟩=some (.string x))
  (hbk:bk<w.heap.size) (h2:2≤xs.length) (hN:xs.length≤140737488355328) (hcap:xs.length≤c)
  (hlen:(Lib.join (xs.map (·.data.toList)) sep.data.toList).length≤140737488355328) :
  Calls P (ρ.f 156) #[.slice (some ⟨bk,o,none⟩) xs.length c,.string sep] w fun e w'=>e=.returned (.string ⟨(Lib.join (xs.map (·.data.toList)) sep.data.toList).toArray⟩)∧Below w.heap.size w w':=by
 have HC:=Jl.hid hcells;clear hcells
 -- the lengths
 obtain⟨x0,r,hxs⟩:∃x0 r,xs=x0::r:=by
  cases xs with
  | nil=>simp at h2
  | cons a t=>exact⟨a,t,rfl⟩
 have hjl:sep.size*(xs.length-1)+Lib.lens (xs.map (·.data.toList))≤140737488355328:=by
  have:=Lib.join_length x0.data.toList (r.map (·.data.toList)) sep.data.toList;rw[hxs]at hlen ⊢;simp only[List.map_cons]at hlen ⊢;rw[this,List.length_map]at hlen;rw[Lib.size_eq,List.length_cons,Nat.add_sub_cancel];exact hlen
 have hmul:sep.size*(xs.length-1)≤140737488355328:=by omega
 generalize hM:sep.size*(xs.length-1)=M at hjl hmul;have hcast:((xs.length:Int)-1)=((xs.length-1:Nat):Int):=by omega
 have hlt:sep.size<9223372036854775807/(xs.length-1):=by
  have:sep.size+1≤9223372036854775807/(xs.length-1):=by
   rw[Nat.le_div_iff_mul_le (by omega),Nat.add_mul,hM];omega
  omega
 have hdv:¬ (9223372036854775807/((xs.length:Int)-1)≤(sep.size:Int)):=by
  have e:(9223372036854775807:Int)/((xs.length-1:Nat):Int)=((9223372036854775807/(xs.length-1):Nat):Int):=IntWalk.up_div (x:=9223372036854775807) rfl rfl;rw[hcast,e];generalize 9223372036854775807/(xs.length-1)=q at hlt;omega
 have hprod:wrap64 ((sep.size:Int)*((xs.length:Int)-1))=(M:Int):=by
  have e:(sep.size:Int)*((xs.length-1:Nat):Int)=((sep.size*(xs.length-1):Nat):Int):=IntWalk.up_mul rfl rfl;rw[hcast,e,hM];exact IntWalk.wrap64_in _ ⟨by omega,by omega⟩
 have hM0:sep.size=0→M=0:=fun h=>by rw[←hM,h,Nat.zero_mul]
 clear hlt hcast;have hne0:((xs.length:Int) == 0)=false:=beq_eq_false_iff_ne.2 (by omega);have hne1:((xs.length:Int) == 1)=false:=beq_eq_false_iff_ne.2 (by omega);have Hxs:=Jl.hid hxs;have Hlen:=Jl.hid hlen;clear hxs hlen;have mixed:=L.mixed;have t72:=L.t72;have a72:=L.a72;have z72:=L.z72;have v72:=L.v72;have u72:=run_underlying L.t72;have t70:=L.t70;have a70:=L.a70;have z70:=L.z70;have v70:=L.v70;have u70:=run_underlying L.t70;have t37:=L.t37;have a37:=L.a37;have z37:=L.z37;have v37:=L.v37;have u37:=run_underlying L.t37;have t127:=L.t127;have a127:=L.a127;have z127:=L.z127;have v127:=L.v127;have u127:=run_underlying L.t127;have t3:=L.t3;have a3:=L.a3;have z3:=L.z3;have v3:=L.v3;have u3:=run_underlying L.t3;have t9:=L.t9;have a9:=L.a9;have z9:=L.z9;have v9:=L.v9;have u9:=run_underlying L.t9;have t4:=L.t4;have a4:=L.a4;have z4:=L.z4;have v4:=L.v4;have u4:=run_underlying L.t4;have t164:=L.t164;have a164:=L.a164;have z164:=L.z164;have v164:=L.v164;have u164:=run_underlying L.t164;have t31:=L.t31;have a31:=L.a31;have z31:=L.z31;have v31:=L.v31;have u31:=run_underlying L.t31;have t5:=L.t5;have a5:=L.a5;have z5:=L.z5;have v5:=L.v5;have u5:=run_underlying L.t5;have e240:∀args w,(callFunc (ρ.f 240) args).run P w=.ok (.enter (ρ.f 240) args) w:=L.e240;have e241:∀args w,(callFunc (ρ.f 241) args).run P w=.ok (.enter (ρ.f 241) args) w:=enters_of L.f241 (by kernel_rfl) rfl;have e165:∀args w,(callFunc (ρ.f 165) args).run P w=.ok (.enter (ρ.f 165) args) w:=enters_of L.f165 (by kernel_rfl) rfl;have e166:∀args w,(callFunc (ρ.f 166) args).run P w=.ok (.enter (ρ.f 166) args) w:=enters_of L.f166 (by kernel_rfl) rfl;have e169:∀args w,(callFunc (ρ.f 169) args).run P w=.ok (.enter (ρ.f 169) args) w:=enters_of L.f169 (by kernel_rfl) rfl
 go_enter L.f156,Body.n156_ntmps ρ
 go_wp2_with fail
 all_goals (
  go_loop [5,41] (fun n i=>∃k:Nat,k≤xs.length∧i=.int .i64 k∧n=.int .i64 ((M+Lib.lens ((xs.map (·.data.toList)).take k):Nat):Int)) (fun _ i=>xs.length-(intOf i).toNat)
  case atStart=>exact⟨0,Nat.zero_le _,rfl,by first | (simp[Lib.lens];done) | (have:=hM0 (by omega);simp[Lib.lens,this])⟩
  case round=>
   obtain⟨k,hk,rfl,rfl⟩:=hrel;by_cases hkn:k<xs.length
   ·obtain⟨x,hx⟩:∃x,xs[k]? = some x:=⟨xs[k],List.getElem?_eq_getElem hkn⟩;have hc:=HC.out k x hx;have hstep:=Lib.lens_take_succ (xs.map (·.data.toList)) k x.data.toList (by simp[hx]);have hbound:Lib.lens ((xs.map (·.data.toList)).take (k+1))≤Lib.lens (xs.map (·.data.toList)):=Lib.lens_take_le _ _;rw[←Lib.size_eq]at hstep;generalize hA1:Lib.lens ((xs.map (·.data.toList)).take (k+1))=A1 at hstep hbound;generalize Lib.lens ((xs.map (·.data.toList)).take k)=A0 at hstep;have HA1:=Jl.hid hA1;clear hA1
    go_wp2
    exact⟨⟨k+1,by omega,by go_num,by rw[HA1.out];refine congrArg _ ?_;omega⟩,by simp[intOf];omega⟩
   ·have hke:k=xs.length:=by omega
    subst hke;have hall:(xs.map (·.data.toList)).take xs.length=xs.map (·.data.toList):=List.take_of_length_le (by simp);rw[hall];generalize hT:Lib.lens (xs.map (·.data.toList))=T at hjl;have HT:=Jl.hid hT;clear hT hall
    go_wp2_with fail
    have hMT:((M:Int)+(T:Int))=((M+T:Nat):Int):=by omega
    rw[hMT];refine(Jl.Builder_Grow_fresh L w.heap.size w.heap.size (M+T) _ (Nat.le_refl _) (heap_alloc_new w _) (by simp) (by omega)).mono ?_
    rintro e w1 ⟨rfl,h1,hb1⟩
    have hb1':Below w.heap.size w w1:=((Below.refl w.heap.size w).alloc (Nat.le_refl _) _).trans hb1
    -- the first element
    have hx0:xs[0]? = some x0:=by rw[Hxs.out];rfl
    have hc0:w1.cell? ⟨bk,o,none⟩=some (.string x0):=by
     rw[hb1'.cell (p:=⟨bk,o,none⟩) hbk];exact HC.out 0 x0 hx0
    have H1:=Jl.hid (Or.inr h1:Lib.IsBuilder (ρ.t 72) (ρ.t 5) w.heap.size w.heap.size [] w1);have Hb1:=Jl.hid hb1';have hBw1:w.heap.size≤w1.heap.size:=hb1'.size;clear h1 hb1 hb1' hMT
    -- what the builder holds behind k rounds of the second loop;and that it is never longer than the whole
    have hwhole:Lib.join (xs.map (·.data.toList)) sep.data.toList=x0.data.toList++Lib.joinTail sep.data.toList (r.map (·.data.toList)):=by
     rw[Hxs.out,List.map_cons,Lib.join_cons]
    have hCle:∀k,(x0.data.toList++Lib.joinTail sep.data.toList ((r.map (·.data.toList)).take k)).length≤140737488355328:=fun k=>by
     have h1:=Hlen.out;rw[hwhole,List.length_append]at h1;have h2:=Lib.joinTail_take_le sep.data.toList (r.map (·.data.toList)) k;rw[List.length_append];omega
    have HCle:=Jl.hid hCle;have Hwhole:=Jl.hid hwhole;clear hCle hwhole
    go_wp2_with fail
    refine(Jl.Builder_WriteString L w.heap.size w.heap.size [] x0 w1 H1.out (by have:=HCle.out 0;simp[Lib.joinTail]at this ⊢;omega) hBw1).mono ?_
    rintro e w2 ⟨rfl,h2',hb2⟩
    have hstart:([]:List Value)++Lib.strCells x0=Lib.byteCells (x0.data.toList++Lib.joinTail sep.data.toList ((r.map (·.data.toList)).take 0)):=by
     simp[Lib.joinTail,Lib.strCells_eq]
    rw[hstart]at h2';have H2:=Jl.hid (Or.inr h2':Lib.IsBuilder (ρ.t 72) (ρ.t 5) w.heap.size w.heap.size _ w2);have Hb2:=Jl.hid (Hb1.out.trans hb2);clear h2' hb2 hstart;have hrl:r.length=xs.length-1:=by rw[Hxs.out];simp
    go_wp2_with fail
    go_loopw [65] (fun i wr=>∃k:Nat,k≤r.length∧i=.int .i64 k∧Hid (Lib.IsBuilder (ρ.t 72) (ρ.t 5) w.heap.size w.heap.size (Lib.byteCells (x0.data.toList++Lib.joinTail sep.data.toList ((r.map (·.data.toList)).take k))) wr)∧Hid (Below w.heap.size w wr)) (fun i _=>r.length-(intOf i).toNat)
    case atStart=>exact⟨0,Nat.zero_le _,rfl,H2,Hb2⟩
    case round=>
     obtain⟨k,hk',rfl,HB,HW⟩:=hrel;by_cases hkr:k<r.length
     ·obtain⟨y,hy⟩:∃y,r[k]? = some y:=⟨r[k],List.getElem?_eq_getElem hkr⟩;have hxy:xs[k+1]? = some y:=by rw[Hxs.out];simpa using hy
      have hcy:wr.cell? ⟨bk,o+1+k,none⟩=some (.string y):=by
       rw[HW.out.cell (p:=⟨bk,o+1+k,none⟩) hbk,show o+1+k=o+(k+1) by omega];exact HC.out (k+1) y hxy
      have hBw:w.heap.size≤wr.heap.size:=HW.out.size;have hnext:Lib.byteCells (x0.data.toList++Lib.joinTail sep.data.toList ((r.map (·.data.toList)).take k))++Lib.strCells sep++Lib.strCells y=Lib.byteCells (x0.data.toList++Lib.joinTail sep.data.toList ((r.map (·.data.toList)).take (k+1))):=by
       rw[Lib.joinTail_take_succ sep.data.toList (r.map (·.data.toList)) k y.data.toList (by simp[hy]),Lib.strCells_eq,Lib.strCells_eq,←Lib.byteCells_append,←Lib.byteCells_append,List.append_assoc,List.append_assoc,List.append_assoc]
      have hl1:=HCle.out (k+1);rw[Lib.joinTail_take_succ sep.data.toList (r.map (·.data.toList)) k y.data.toList (by simp[hy])]at hl1;simp only[List.length_append,←Lib.size_eq]at hl1;have hl0:(Lib.byteCells (x0.data.toList++Lib.joinTail sep.data.toList ((r.map (·.data.toList)).take k))).length=x0.size+(Lib.joinTail sep.data.toList ((r.map (·.data.toList)).take k)).length:=by
       rw[Lib.byteCells_length,List.length_append,←Lib.size_eq]
      generalize (Lib.joinTail sep.data.toList ((r.map (·.data.toList)).take k)).length=J at hl0 hl1;have Hn:=Jl.hid hnext;clear hnext hy hxy
      go_wp2_with fail
      refine(Jl.Builder_WriteString L w.heap.size w.heap.size _ sep wr HB.out (by rw[hl0];omega) hBw).mono ?_
      rintro e w3 ⟨rfl,h3,hb3⟩
      have hBw3:w.heap.size≤w3.heap.size:=Nat.le_trans hBw hb3.size;have H3:=Jl.hid h3;have Hb3:=Jl.hid hb3;clear h3 hb3
      go_wp2_with fail
      refine(Jl.Builder_WriteString L w.heap.size w.heap.size _ y w3 (Or.inr H3.out) (by rw[List.length_append,hl0,Lib.strCells_length];omega) hBw3).mono ?_
      rintro e w4 ⟨rfl,h4,hb4⟩
      rw[Hn.out]at h4;have H4:=Jl.hid (Or.inr h4:Lib.IsBuilder (ρ.t 72) (ρ.t 5) w.heap.size w.heap.size _ w4);have Hb4:=Jl.hid ((HW.out.trans Hb3.out).trans hb4);clear h4 hb4
      go_wp2
      exact⟨⟨k+1,by omega,by go_num,H4,Hb4⟩,by simp[intOf];omega⟩
     ·have hke:k=r.length:=by omega
      subst hke;have hfull:(r.map (·.data.toList)).take r.length=r.map (·.data.toList):=List.take_of_length_le (by simp);have hB':=HB.out;rw[hfull,←Hwhole.out]at hB';have hBw:w.heap.size≤wr.heap.size:=HW.out.size
      go_wp2_with fail
      refine(Any.Builder_String_any L.ton169 L.toExtra w.heap.size w.heap.size _ wr hB' hBw).mono ?_
      rintro e w5 ⟨rfl,hb5⟩
      have Hb5:=Jl.hid (HW.out.trans hb5);clear hb5 hB'
      go_wp2
      go_ret
      exact⟨rfl,Hb5.out⟩)
theorem Jl.strings_Join(L:JL P ρ)(bk o c:Nat)(xs:List ByteArray)(sep:ByteArray)(w:World)
  (hcells:∀(j:Nat) x,xs[j]? = some x→w.cell? ⟨bk,o+j,none⟩=some (.string x))
  (hbk:bk<w.heap.size) (hN:xs.length≤140737488355328) (hcap:xs.length≤c)
  (hlen:(Lib.join (xs.map (·.data.toList)) sep.data.toList).length≤140737488355328) :
  Calls P (ρ.f 156) #[.slice (some ⟨bk,o,none⟩) xs.length c,.string sep] w fun e w'=>e=.returned (.string ⟨(Lib.join (xs.map (·.data.toList)) sep.data.toList).toArray⟩)∧Below w.heap.size w w':=by
 match xs,hcells,hN,hcap,hlen with
 | [],_,_,_,_=>exact(Jl.strings_Join_none L _ c sep w).mono fun e w' ⟨he,hw⟩=>⟨he,hw▸Below.refl _ _⟩
 | [x],hcells,_,_,_=>
  refine(Jl.strings_Join_one L bk o c x sep w (hcells 0 x rfl)).mono fun e w' ⟨he,hw⟩=>⟨?_,hw▸Below.refl _ _⟩;rw[he,List.map_cons,List.map_nil,Lib.join_one,Lib.mk_data]
 | x::y::r,hcells,hN,hcap,hlen=>exact Jl.strings_Join_many L bk o c (x::y::r) sep w hcells hbk (by simp) hN hcap hlen
end Go.Proofs
end
section
namespace Go.Proofs
open Go.Shelf Go.RowKit Go.Ab
variable{P:Program}{ρ:Ren}
theorem sl_inv{w:World}{S:Nat→Nat→Prop}{v:Value}{els:List (List AV)}{f:Fl}(h:CP w S v (.sl els f)) :
  (els=[]∧∃a,v=.slice a 0 0)∨∃(blk off z cap:Nat) (u:Nat→Nat→Value),v=.slice (some ⟨blk,off,none⟩) els.length cap∧els.length≤cap∧cap≤maxLen ∧
   (∀(i:Nat) (r:List AV),els[i]? = some r→r.length=z) ∧
   (∀i j,i<els.length→j<z→S blk (off+i*z+j)∧w.cell? ⟨blk,off+i*z+j,none⟩=some (u i j)) ∧
   (∀(i:Nat) (r:List AV) (j:Nat) (c:AV),els[i]? = some r→r[j]? = some c→CP w S (u i j) c):=by
 cases h with
 | slnil f hf=>exact .inl ⟨rfl,_,rfl⟩
 | slz a f hf=>exact .inl ⟨rfl,_,rfl⟩
 | sl blk off z cap els f u hf hfull hcap hmax hz hS hc=>exact .inr ⟨blk,off,z,cap,u,rfl,hcap,hmax,hz,fun i j hi hj=>⟨(hS i j hi hj).1,(hS i j hi hj).2.1⟩,hc⟩
theorem s_inv{w:World}{S:Nat→Nat→Prop}{v:Value}{l:List UInt8}(h:CP w S v (.s l)):v=.string ⟨l.toArray⟩:=by
 cases h with
 | s=>rfl
theorem two_args{cargs:Array Value}(h:cargs.size=2):∃a b,cargs=#[a,b]:=by
 obtain⟨l⟩:=cargs
 match l,h with
 | [a,b],_=>exact⟨a,b,rfl⟩
theorem one_arg{cargs:Array Value}(h:cargs.size=1):∃a,cargs=#[a]:=by
 obtain⟨l⟩:=cargs
 match l,h with
 | [a],_=>exact⟨a,rfl⟩
theorem inter_len(sep:List UInt8)(hs:sep.length≤100):∀ts:List (List UInt8),(∀t∈ts,t.length≤10000)→(Lib.join ts sep).length≤20000*ts.length
 | [],_=>by simp[Lib.join,List.intercalate]
 | x::r,h=>by
  have key:∀r:List (List UInt8),(∀t∈r,t.length≤10000)→Lib.lens r≤10000*r.length:=by
   intro r
   induction r with
   | nil=>intro _;simp[Lib.lens]
   | cons y r ih=>
    intro h;have h1:=ih fun t ht=>h t (List.mem_cons_of_mem _ ht);have h2:=h y List.mem_cons_self;simp only[Lib.lens,List.map_cons,List.sum_cons,List.length_cons]at h1 ⊢;omega
  rw[Lib.join_length];have h1:=key (x::r) h;have h2:=Nat.mul_le_mul_right r.length hs;simp only[List.length_cons]at h1 ⊢;omega
theorem join_pcall(L:JL P ρ):∀xs r,prim183 xs=some r→Zae P (ρ.f 156) xs (·=r):=by
 intro xs r h;unfold prim183 at h;split at h
 ·split at h
  ·rename_i els sep hl;cases ht:els.mapM textOf with
   | none=>rw[ht]at h;cases h
   | some ts=>
    rw[ht]at h;cases h;obtain⟨he,hb⟩:=zki ht;refine⟨enters_of L.f156 (by kernel_rfl) rfl,fun w S cargs hsz hC hS=>?_⟩;obtain⟨v0,v1,rfl⟩:=two_args hsz;have c0:=hC 0 _ _ rfl rfl;have c1:=s_inv (hC 1 _ _ rfl rfl);subst c1;have htl:ts.length≤1000:=by rw[he,za1]at hl;exact hl.1
    have done:∀{Q:World→Prop},(∀w',Q w'→Below w.heap.size w w')→Calls P (ρ.f 156) #[v0,.string ⟨sep.toArray⟩] w (fun e w'=>e=.returned (.string ⟨(List.intercalate sep ts).toArray⟩)∧Q w') →
      Calls P (ρ.f 156) #[v0,.string ⟨sep.toArray⟩] w fun e w'=>∃v r,e=.returned v∧r=AV.s (List.intercalate sep ts)∧Below w.heap.size w w'∧CP w' (fun k o=>S k o∨(w.heap.size≤k∧k<w'.heap.size)) v r:=by
     intro Q hQ hc;refine hc.mono ?_
     rintro e w' ⟨rfl,hb⟩
     exact⟨_,_,rfl,rfl,hQ _ hb,.s _⟩
    rcases sl_inv c0 with ⟨h0,a,rfl⟩ | ⟨blk,off,z,cap,u,rfl,hcap,hmax,hz,hcell,hcp⟩
    ·have h1:ts=[]:=by
      rw[he]at h0;exact List.eq_nil_of_length_eq_zero (by rw[←za1 ts,h0];rfl)
     subst h1;refine done (Q:=fun w'=>w'=w) (fun w' h=>h▸Below.refl _ _) ?_;exact Jl.strings_Join_none L a 0 ⟨sep.toArray⟩ w
    ·have hel:els.length=ts.length:=by rw[he,za1]
     have hcells:∀(j:Nat) x,(ts.map fun t=>(⟨t.toArray⟩:ByteArray))[j]? = some x→S blk (off+j)∧w.cell? ⟨blk,off+j,none⟩=some (.string x):=by
      intro j x hx;rw[List.getElem?_map]at hx;cases ht2:ts[j]? with
      | none=>rw[ht2]at hx;cases hx
      | some t=>
       rw[ht2]at hx;cases hx;have hj:els[j]? = some [.s t]:=by rw[he];simp[Zr,ht2]
       have hz1:1=z:=hz j _ hj;subst hz1;have hjl:j<els.length:=(List.getElem?_eq_some_iff.1 hj).1;obtain⟨h1,h2⟩:=hcell j 0 hjl Nat.one_pos;have h3:=s_inv (hcp j _ 0 (.s t) hj rfl);rw[h3]at h2;simp only[Nat.mul_one,Nat.add_zero]at h1 h2;exact⟨h1,h2⟩
     cases hts:ts with
     | nil=>
      subst hts;rw[show els.length=0 from hel]at done ⊢;refine done (Q:=fun w'=>w'=w) (fun w' h=>h▸Below.refl _ _) ?_;exact Jl.strings_Join_none L _ cap ⟨sep.toArray⟩ w
     | cons t0 tr=>
      rw[←hts];have hblk:blk<w.heap.size:=hS _ _ (hcells 0 ⟨t0.toArray⟩ (by rw[hts];rfl)).1;have hm:(ts.map fun t=>(⟨t.toArray⟩:ByteArray)).map (·.data.toList)=ts:=by rw[List.map_map];simp[Function.comp_def]
      have hj:=Jl.strings_Join L blk off cap (ts.map fun t=>(⟨t.toArray⟩:ByteArray)) ⟨sep.toArray⟩ w (fun j x hx=>(hcells j x hx).2) hblk (by rw[List.length_map];omega) (by rw[List.length_map];omega)
       (by rw[hm];have:=inter_len sep hl.2 ts hb;show (Lib.join ts sep).length≤_;omega)
      rw[hm,List.length_map,←hel]at hj;exact done (fun _ h=>h) hj
  ·cases h
 ·cases h
end Go.Proofs
end
section
namespace Go.Proofs
open Go.Shelf Go.RowKit Go.Ab
variable{P:Program}{ρ:Ren}
theorem bytes_size(s:List UInt8):(⟨s.toArray⟩:ByteArray).size=s.length:=by simp[ByteArray.size]
theorem bytes_list(s:List UInt8):(⟨s.toArray⟩:ByteArray).data.toList=s:=by simp
theorem all_ascii{s:List UInt8}(h:s.all (fun c=>decide (c.toNat<128))=true):∀(j:Nat) b,(⟨s.toArray⟩:ByteArray).data.toList[j]? = some b→b.toNat<128:=by
 intro j b hb;rw[bytes_list]at hb;exact of_decide_eq_true (List.all_eq_true.1 h b (List.mem_of_getElem? hb))
theorem index_pcall(L:Lays.n219 P ρ):∀xs r,prim194 xs=some r→Zae P (ρ.f 219) xs (·=r):=by
 intro xs r h;unfold prim194 at h;split at h
 ·rename_i s c;cases h;refine⟨enters_of L.f219 (by kernel_rfl) rfl,fun w S cargs hsz hC hS=>?_⟩;obtain⟨v0,v1,rfl⟩:=two_args hsz;have c0:=s_inv (hC 0 _ _ rfl rfl);have c1:=s_inv (hC 1 _ _ rfl rfl);subst c0 c1;have:=Any.stringslite_Index_one L ⟨s.toArray⟩ c w;rw[bytes_list]at this;refine this.mono ?_
  rintro e w' ⟨rfl,rfl⟩
  exact⟨_,_,rfl,rfl,Below.refl _ _,.i _ _⟩
 ·cases h
theorem count_pcall(L:Lays.n138 P ρ):∀xs r,prim361 xs=some r→Zae P (ρ.f 138) xs (·=r):=by
 intro xs r h;unfold prim361 at h;split at h
 ·rename_i s c;cases h;refine⟨enters_of L.f138 (by kernel_rfl) rfl,fun w S cargs hsz hC hS=>?_⟩;obtain⟨v0,v1,rfl⟩:=two_args hsz;have c0:=s_inv (hC 0 _ _ rfl rfl);have c1:=s_inv (hC 1 _ _ rfl rfl);subst c0 c1;have:=Any.strings_Count_one L ⟨s.toArray⟩ c w;rw[bytes_list]at this;refine this.mono ?_
  rintro e w' ⟨rfl,rfl⟩
  exact⟨_,_,rfl,rfl,Below.refl _ _,.i _ _⟩
 ·cases h
end Go.Proofs
end
section
namespace Go.Proofs
open Go.Shelf Go.RowKit Go.Lib
variable{P:Program}{ρ:Ren}
abbrev Zas:ByteArray:=⟨#[47,46]⟩
set_option maxHeartbeats 2000000 in
set_option maxRecDepth 1000000 in
theorem rune_invalid(L:Lays.n152 P ρ)(r:Int)(w:World)(h0:128≤r)(h1:r≤2147483647)(h2:r≠65533)(hv:Lib.validRune r=false) :
  Calls P (ρ.f 152) #[.string Zas,.int .i32 r] w fun e w'=>e=.returned (.int .i64 (-1))∧w'=w:=by
 have t3:=L.t3;have a3:=L.a3;have z3:=L.z3;have v3:=L.v3;have t4:=L.t4;have a4:=L.a4;have z4:=L.z4;have v4:=L.v4;have t5:=L.t5;have a5:=L.a5;have z5:=L.z5;have v5:=L.v5;have t9:=L.t9;have a9:=L.a9;have z9:=L.z9;have v9:=L.v9;have t21:=L.t21;have a21:=L.a21;have z21:=L.z21;have v21:=L.v21;have e119:∀args w,(callFunc (ρ.f 119) args).run P w=.ok (.enter (ρ.f 119) args) w:=enters_of L.f119 (by kernel_rfl) rfl
 go_enter L.f152,Body.n152_ntmps ρ
 go_wp2_with (go_at_fn (ρ.f 119);refine(Any.utf8_ValidRune { L with } _ _).mono ?_;rintro e w' ⟨rfl,hw⟩;rw[hw,hv])
 go_ret
 exact⟨rfl,rfl⟩
theorem next_slash(w:World)(ty:TypeId):(Instr.next (.pointer (some ⟨w.heap.size,0,none⟩)) true ty).run P (w.iter Zas 0)=.ok (.tuple #[.bool true,.int .i64 0,.int .i32 47]) (w.iter Zas 1):=
 run_next_ascii (P:=P) w Zas 0 ty (by decide) (by decide)
theorem next_dot(w:World)(ty:TypeId):(Instr.next (.pointer (some ⟨w.heap.size,0,none⟩)) true ty).run P (w.iter Zas 1)=.ok (.tuple #[.bool true,.int .i64 1,.int .i32 46]) (w.iter Zas 2):=
 run_next_ascii (P:=P) w Zas 1 ty (by decide) (by decide)
set_option maxHeartbeats 2000000 in
set_option maxRecDepth 1000000 in
theorem rune_error(L:Lays.n152 P ρ)(w:World) :
  Calls P (ρ.f 152) #[.string Zas,.int .i32 65533] w fun e w'=>e=.returned (.int .i64 (-1))∧∃pos,w'=w.iter Zas pos:=by
 have t3:=L.t3;have a3:=L.a3;have z3:=L.z3;have v3:=L.v3;have t4:=L.t4;have a4:=L.a4;have z4:=L.z4;have v4:=L.v4;have t5:=L.t5;have a5:=L.a5;have z5:=L.z5;have v5:=L.v5;have t9:=L.t9;have a9:=L.a9;have z9:=L.z9;have v9:=L.v9;have t21:=L.t21;have a21:=L.a21;have z21:=L.z21;have v21:=L.v21
 go_enter L.f152,Body.n152_ntmps ρ
 go_wp2
 go_loopg [5,6] 2 (fun g _ _ wx=>∃i:Nat,i+g=2∧wx=w.iter Zas i)
 case atStart=>exact⟨0,by omega,rfl⟩
 case round=>
  obtain⟨i,hig,rfl⟩:=hrel
  match gk,i,hig with
  | 0,2,_=>
   have hnx:=fun ty=>run_next_end (P:=P) w Zas 2 ty (by decide)
   go_wp2
   go_ret
   exact⟨rfl,_,rfl⟩
  | 1,1,_=>
   have hnx:=next_dot (P:=P) w
   go_wp2
   go_roundg 0
   case measure=>omega
   case rel=>exact⟨2,by omega,rfl⟩
  | 2,0,_=>
   have hnx:=next_slash (P:=P) w
   go_wp2
   go_roundg 1
   case measure=>omega
   case rel=>exact⟨1,by omega,rfl⟩
set_option maxHeartbeats 4000000 in
set_option maxRecDepth 1000000 in
theorem rune_three(L:Lays.n152 P ρ)(r:Int)(w:World)(h0:128≤r)(h1:r≤2147483647)(h2:r≠65533)(hv:Lib.validRune r=true)(hk:3≤(Utf8.encode r).size)(hk4:(Utf8.encode r).size≤4) :
  Calls P (ρ.f 152) #[.string Zas,.int .i32 r] w fun e w'=>e=.returned (.int .i64 (-1))∧w'=w:=by
 have t3:=L.t3;have a3:=L.a3;have z3:=L.z3;have v3:=L.v3;have t4:=L.t4;have a4:=L.a4;have z4:=L.z4;have v4:=L.v4;have t5:=L.t5;have a5:=L.a5;have z5:=L.z5;have v5:=L.v5;have t9:=L.t9;have a9:=L.a9;have z9:=L.z9;have v9:=L.v9;have t21:=L.t21;have a21:=L.a21;have z21:=L.z21;have v21:=L.v21;have e119:∀args w,(callFunc (ρ.f 119) args).run P w=.ok (.enter (ρ.f 119) args) w:=enters_of L.f119 (by kernel_rfl) rfl;have hcv:∀w,(convert (ρ.t 21) (ρ.t 9) (.int .i32 r)).run P w=.ok (.string (Utf8.encode r)) w:=fun w=>run_convert_int_string w _ _ _ _ (by rw[L.t21];rfl) L.t9;generalize Utf8.encode r=b at *
 go_enter L.f152,Body.n152_ntmps ρ
 go_wp2_with (first | (go_at_fn (ρ.f 119);refine(Any.utf8_ValidRune { L with } _ _).mono ?_;rintro e w' ⟨rfl,hw⟩;rw[hw,hv]) | simp only[hcv])
 go_step3
 go_wp2_with (simp only[hcv])
 go_loopg [9] 0 (fun g i wx=>i=.int .i64 ((b.size:Int)-1)∧wx=w)
 case atStart=>exact⟨rfl,rfl⟩
 case round=>
  obtain⟨rfl,rfl⟩:=hrel;have hge:decide (((b.size:Int)-1)<2)=false:=decide_eq_false (by omega)
  go_wp2
  rw[Exit.noGoto_ret]
  go_ret
  exact⟨rfl,rfl⟩
set_option maxHeartbeats 4000000 in
set_option maxRecDepth 1000000 in
theorem rune_two(L:Lays.n152 P ρ)(r:Int)(w:World)(h0:128≤r)(h1:r≤2147483647)(h2:r≠65533)(hv:Lib.validRune r=true)(x:UInt8)(hk:(Utf8.encode r).size=2)(hx:∀h:1<(Utf8.encode r).size,(Utf8.encode r)[1]'h=x)(hx128:128≤x.toNat) :
  Calls P (ρ.f 152) #[.string Zas,.int .i32 r] w fun e w'=>e=.returned (.int .i64 (-1))∧Below w.heap.size w w':=by
 have mixed:=L.mixed;have t3:=L.t3;have a3:=L.a3;have z3:=L.z3;have v3:=L.v3;have t4:=L.t4;have a4:=L.a4;have z4:=L.z4;have v4:=L.v4;have t5:=L.t5;have a5:=L.a5;have z5:=L.z5;have v5:=L.v5;have t9:=L.t9;have a9:=L.a9;have z9:=L.z9;have v9:=L.v9;have t21:=L.t21;have a21:=L.a21;have z21:=L.z21;have v21:=L.v21;have e119:∀args w,(callFunc (ρ.f 119) args).run P w=.ok (.enter (ρ.f 119) args) w:=enters_of L.f119 (by kernel_rfl) rfl;have e137:∀args w,(callFunc (ρ.f 137) args).run P w=.ok (.enter (ρ.f 137) args) w:=enters_of L.f137 (by kernel_rfl) rfl;have hcv:∀w,(convert (ρ.t 21) (ρ.t 9) (.int .i32 r)).run P w=.ok (.string (Utf8.encode r)) w:=fun w=>run_convert_int_string w _ _ _ _ (by rw[L.t21];rfl) L.t9;generalize Utf8.encode r=b at *
 go_enter L.f152,Body.n152_ntmps ρ
 go_wp2_with (first | (go_at_fn (ρ.f 119);refine(Any.utf8_ValidRune { L with } _ _).mono ?_;rintro e w' ⟨rfl,hw⟩;rw[hw,hv]) | simp only[hcv])
 go_step3
 go_wp2_with (simp only[hcv])
 go_loopg [9] 0 (fun g i wx=>i=.int .i64 1∧wx=w)
 case atStart=>exact⟨rfl,rfl⟩
 case round=>
  obtain⟨rfl,rfl⟩:=hrel;have hb:1<b.size:=by omega
  have hxx:=hx hb;have hne:((46:Int) == (x.toNat:Int))=false:=beq_eq_false_iff_ne.2 (by omega);have hsz:(b.size:Int)=2:=by omega
  have hg:Zas[1]'(by decide)=46:=rfl
  go_wp2
  go_step3
  go_wp2_with (go_at_fn (ρ.f 137);refine(Any.strings_IndexByte { L with } _ _ _).mono ?_;rintro e w' ⟨rfl,hw⟩;rw[hw])
  go_region_o
  have hne2:((46:Int) != (x.toNat:Int))=true:=by rw[bne,hne];rfl
  try rw[hne2]
  go_wp2
  go_region_with_o (go_at_fn (ρ.f 137);refine(Any.strings_IndexByte { L with } _ _ _).mono ?_;rintro e w' ⟨rfl,hw⟩;rw[hw])
  all_goals go_wp2
  all_goals rw[Exit.noGoto_ret]
  all_goals go_wp2
  all_goals rw[Exit.noGoto_ret]
  all_goals go_ret
  all_goals exact⟨rfl,⟨rfl,rfl,rfl,Nat.le_refl _,fun _ _=>rfl⟩⟩
theorem rune_wide(L:Lays.n152 P ρ)(r:Int)(w:World)(h0:128≤r)(h1:r≤2147483647) :
  Calls P (ρ.f 152) #[.string Zas,.int .i32 r] w fun e w'=>e=.returned (.int .i64 (-1))∧Below w.heap.size w w':=by
 by_cases h2:r=65533
 ·subst h2;refine(rune_error L w).mono ?_
  rintro e w' ⟨h,pos,rfl⟩
  exact⟨h,(Below.refl _ _).alloc (Nat.le_refl _) _⟩
 ·cases hv:Lib.validRune r with
  | false=>
   refine(rune_invalid L r w h0 h1 h2 hv).mono ?_
   rintro e w' ⟨h,rfl⟩
   exact⟨h,Below.refl _ _⟩
  | true=>
   have hu:Utf8.valid r=true:=by rw[Go.validRune_eq];exact hv
   obtain⟨k2,k4,kx⟩:=encode_facts r hu h0;by_cases h3:(Utf8.encode r).size=2
   ·have hk:=kx (by omega);have he:(Utf8.encode r).size-1=1:=by omega
    simp only[he]at hk;exact rune_two L r w h0 h1 h2 hv ((Utf8.encode r)[1]'(by omega)) h3 (fun _=>rfl) hk
   ·refine(rune_three L r w h0 h1 h2 hv (by omega) k4).mono ?_
    rintro e w' ⟨h,rfl⟩
    exact⟨h,Below.refl _ _⟩
theorem wide_n(n b0 b1 b2 b3:Nat)(hn:1≤n)(h:128≤b0):1≤(decodeN n b0 b1 b2 b3).2∧(decodeN n b0 b1 b2 b3).2≤4∧(decodeN n b0 b1 b2 b3).2≤n ∧
  (2≤(decodeN n b0 b1 b2 b3).2→128≤b1)∧(3≤(decodeN n b0 b1 b2 b3).2→128≤b2)∧(4≤(decodeN n b0 b1 b2 b3).2→128≤b3):=by
 unfold decodeN;rw[if_neg (by omega)]
 (repeat' split)<;>simp only<;>omega
theorem wide_bytes(s:ByteArray)(i:Nat)(hi:i<s.size)(h:128≤(s[i]'hi).toNat):1≤(Utf8.decode s i).2∧i+(Utf8.decode s i).2≤s.size ∧
  ∀(j:Nat) (b:UInt8),i≤j→j<i+(Utf8.decode s i).2→s.data.toList[j]? = some b→128≤b.toNat:=by
 have hg:∀(j:Nat) (b:UInt8),s.data.toList[j]? = some b→s.get! j=b:=by
  intro j b hb;obtain⟨hj,hb⟩:=List.getElem?_eq_some_iff.1 hb;have hj2:j<s.size:=by simpa using hj
  have:s.get! j=s[j]'hj2:=by
   simp[ByteArray.get!,getElem!_pos,hj2]
   rfl
  rw[this,←hb]
  rfl
 have h0:s.get! i=s[i]'hi:=get_at s i hi;have hw:=wide_n (s.size-i) (s.get! i).toNat (s.get! (i+1)).toNat (s.get! (i+2)).toNat (s.get! (i+3)).toNat (by omega) (by rw[h0];exact h);rw[←decode_at]at hw;obtain⟨w1,w2,w3,w4,w5,w6⟩:=hw;refine⟨w1,by omega,fun j b hij hj hb=>?_⟩;have hgb:=hg j b hb;rw[←hgb];have hc:j=i∨j=i+1∨j=i+2∨j=i+3:=by omega
 rcases hc with rfl | rfl | rfl | rfl
 ·rw[h0];exact h
 ·exact w4 (by omega)
 ·exact w5 (by omega)
 ·exact w6 (by omega)
theorem next_at(wx:World)(B:Nat)(s:ByteArray)(pos:Nat)(ty:TypeId)(hB:wx.heap[B]? = some (.stringIter s pos))(h:pos<s.size) :
  (Instr.next (.pointer (some ⟨B,0,none⟩)) true ty).run P wx=.ok (.tuple #[.bool true,.int .i64 pos,.int .i32 (Utf8.decode s pos).1]) { wx with heap:=wx.heap.setIfInBounds B (.stringIter s (pos+(Utf8.decode s pos).2)) }:=by
 simp only[Instr.next,getObj,setObj,Sem.run_bind,Sem.run,hB,Result.andThen,h,if_true];simp[goInt]
theorem next_none(wx:World)(B:Nat)(s:ByteArray)(pos:Nat)(ty:TypeId)(hB:wx.heap[B]? = some (.stringIter s pos))(h:¬ pos<s.size) :
  (Instr.next (.pointer (some ⟨B,0,none⟩)) true ty).run P wx=.ok (.tuple #[.bool false]) wx:=by
 simp[Instr.next,getObj,Sem.run,hB,h]
theorem below_iter{B:Nat}{w wx:World}(h:Below B w wx)(o:Obj):Below B w { wx with heap:=wx.heap.setIfInBounds B o }:=
 h.trans ⟨rfl,rfl,rfl,by simp,fun k hk=>by
  show (wx.heap.setIfInBounds B o)[k]? = wx.heap[k]?;rw[Array.getElem?_setIfInBounds_ne (by omega)]⟩
set_option maxHeartbeats 8000000 in
set_option maxRecDepth 1000000 in
theorem indexAny_short_any(L:Lays.n153 P ρ)(s:ByteArray)(w:World)(h8:s.size≤8) :
  Calls P (ρ.f 153) #[.string s,.string Zas] w fun e w'=>e=.returned (.int .i64 (Lib.indexAny s.data.toList [47,46]))∧Below w.heap.size w w':=by
 have h8z:decide ((8:Int)<(s.size:Int))=false:=decide_eq_false (by omega);have t3:=L.t3;have a3:=L.a3;have z3:=L.z3;have v3:=L.v3;have t4:=L.t4;have a4:=L.a4;have z4:=L.z4;have v4:=L.v4;have t5:=L.t5;have a5:=L.a5;have z5:=L.z5;have v5:=L.v5;have t9:=L.t9;have a9:=L.a9;have z9:=L.z9;have v9:=L.v9;have t21:=L.t21;have a21:=L.a21;have z21:=L.z21;have v21:=L.v21;have e152:∀args w,(callFunc (ρ.f 152) args).run P w=.ok (.enter (ρ.f 152) args) w:=enters_of L.f152 (by kernel_rfl) rfl;have e226:∀args w,(callFunc (ρ.f 226) args).run P w=.ok (.enter (ρ.f 226) args) w:=enters_of L.f226 (by kernel_rfl) rfl
 go_enter L.f153,Body.n153_ntmps ρ
 go_wp2_with (go_at_fn (ρ.f 226);refine(Any.strings_shouldUseASCIISet { L with } _ _).mono ?_;rintro e w' ⟨rfl,hw⟩;rw[hw,h8z])
 go_loopg [9,10] s.size (fun g _ _ wx=>∃i:Nat,s.size≤i+g∧i≤s.size∧wx.heap[w.heap.size]? = some (.stringIter s i)∧Below w.heap.size w wx∧Lib.NoAny s.data.toList [47,46] i)
 case atStart=>exact⟨0,by omega,by omega,World.iter_heap w s 0,(Below.refl _ _).alloc (Nat.le_refl _) _,Lib.NoAny.zero _ _⟩
 case round=>
  obtain⟨i,hig,his,hit,hbel,hno⟩:=hrel;have HN:Aside (Lib.NoAny s.data.toList [47,46] i):=hno;have HB:Aside (Below w.heap.size w wr):=hbel;have HI:Aside (wr.heap[w.heap.size]? = some (.stringIter s i)):=hit;clear hno hbel;by_cases hi:i<s.size
  ·cases gk with
   | zero=>omega
   | succ g=>
   have hlt:w.heap.size<wr.heap.size:=(Array.getElem?_eq_some_iff.1 hit).1;obtain⟨x,hx⟩:∃x:UInt8,s[i]'hi=x:=⟨_,rfl⟩;have hxl:s.data.toList[i]? = some x:=by rw[←hx];exact Lib.data_getElem? s i hi
   have hnx:=fun ty=>next_at (P:=P) wr w.heap.size s i ty hit hi;by_cases h128:x.toNat<128
   ·have hd:=decode_ascii s i hi (by rw[hx];exact h128);rw[hx]at hd;rw[hd]at hnx;simp only at hnx;have Hx:Aside (s.data.toList[i]? = some x):=hxl;clear hxl hx hit;have hcon:=Lib.contains_iff_indexByte [47,46] x;have hback:((x.toNat:Int)).toNat.toUInt8=x:=by simp
    cases hin:([47,46]:List UInt8).contains x
    ·rw[hin]at hcon;have hlt0:¬ ((0:Int)≤Lib.indexByte [47,46] x):=of_decide_eq_false hcon.symm;clear hcon
     go_wp2_with (go_at_fn (ρ.f 152);refine(Any.strings_IndexRune_ascii { L with } _ _ _ (by omega) (by omega)).mono ?_;rintro e w' ⟨rfl,hw⟩;rw[hw,hback])
     go_roundg g
     case measure=>omega
     case rel=>exact⟨i+1,by omega,by omega,by simp[hlt],below_iter HB.out _,HN.out.succ Hx.out hin⟩
    ·rw[hin]at hcon;have hge:(0:Int)≤Lib.indexByte [47,46] x:=of_decide_eq_true hcon.symm;clear hcon
     go_wp2_with (go_at_fn (ρ.f 152);refine(Any.strings_IndexRune_ascii { L with } _ _ _ (by omega) (by omega)).mono ?_;rintro e w' ⟨rfl,hw⟩;rw[hw,hback])
     go_ret
     exact⟨by rw[Lib.indexAny_hit HN.out Hx.out hin];rfl,below_iter HB.out _⟩
   ·have hwb:=wide_bytes s i hi (by rw[hx];omega);have hdh:=decode_high s i hi (by rw[hx];omega);have hdl:=decode_le s i;obtain⟨r,hr⟩:∃r,r=(Utf8.decode s i).1:=⟨_,rfl⟩;obtain⟨k,hk⟩:∃k,k=(Utf8.decode s i).2:=⟨_,rfl⟩;rw[←hr,←hk]at hnx;rw[←hk]at hwb hdh;rw[←hr]at hdh hdl;obtain⟨wb1,wb2,wb3⟩:=hwb;have HW:Aside (∀(j:Nat) (b:UInt8),i≤j→j<i+k→s.data.toList[j]? = some b→128≤b.toNat):=wb3;clear wb3 hxl hx hit hr hk;have r1:(128:Int)≤(r:Int):=by omega
    have r2:(r:Int)≤2147483647:=by omega
    go_wp2_with (go_at_fn (ρ.f 152);refine(rune_wide { L with } _ _ r1 r2).mono ?_;rintro e w' ⟨rfl,hw⟩)
    go_roundg g
    case measure=>omega
    case rel=>
     refine⟨i+k,by omega,by omega,?_,(below_iter HB.out _).trans (hw.mono (by simp;omega)),?_⟩
     ·rw[hw.block _ (by simpa using hlt)];simp[hlt]
     ·intro j b hj hb;by_cases hji:j<i
      ·exact HN.out j b hji hb
      ·have h3:=HW.out j b (by omega) hj hb;have e1:¬ b=47:=fun e=>by rw[e]at h3;exact absurd h3 (by decide)
       have e2:¬ b=46:=fun e=>by rw[e]at h3;exact absurd h3 (by decide)
       simp[e1,e2]
  ·obtain rfl:i=s.size:=by omega
   have hnx:=fun ty=>next_none (P:=P) wr w.heap.size s s.size ty hit hi;clear hit
   go_wp2
   go_ret
   exact⟨by rw[Lib.indexAny_none (by rw[←Lib.size_eq];exact HN.out)];rfl,HB.out⟩
open Go.Ab in
theorem indexAny_pcall(L:Lays.n153 P ρ)(h116:(P.info? (ρ.t 116)).map (fun i=>(i.zero,i.size))=some (some (.agg (Array.replicate 256 (.bool false))),256)):∀xs r,prim344 xs=some r→Zae P (ρ.f 153) xs (·=r):=by
 intro xs r h;unfold prim344 at h;split at h
 ·split at h
  ·rename_i s hs;cases h;refine⟨enters_of L.f153 (by kernel_rfl) rfl,fun w S cargs hsz hC hS=>?_⟩;obtain⟨v0,v1,rfl⟩:=two_args hsz;have c0:=s_inv (hC 0 _ _ rfl rfl);have c1:=s_inv (hC 1 _ _ rfl rfl);subst c0 c1;have key:Calls P (ρ.f 153) #[.string ⟨s.toArray⟩,.string Zas] w fun e w'=>e=.returned (.int .i64 (Lib.indexAny s [47,46]))∧Below w.heap.size w w':=by
    by_cases h8:s.length≤8
    ·have:=indexAny_short_any L ⟨s.toArray⟩ w (by rw[bytes_size];exact h8)
     rwa [bytes_list]at this
    ·have:=Any.strings_IndexAny_long L (zero_of_info h116).1 (zero_of_info h116).2 ⟨s.toArray⟩ Zas w (by decide) (by rw[bytes_size];omega) (by rw[bytes_size];omega) (by decide) (all_ascii (s:=[47,46]) (by decide));rw[bytes_list]at this;refine this.mono fun e w' ⟨h1,h2⟩=>⟨h1,?_⟩;rw[h2];exact((Below.refl _ _).alloc (Nat.le_refl _) _).alloc (by simp) _
   exact key.mono fun e w' ⟨he,hb⟩=>⟨_,_,he,rfl,hb,.i _ _⟩
  ·cases h
 ·cases h
end Go.Proofs
end
section
set_option linter.unusedVariables false
namespace Go.Proofs
open Go.Shelf Go.RowKit Go.Lib Go.Ab
variable{P:Program}{ρ:Ren}
set_option maxHeartbeats 2000000 in
set_option maxRecDepth 100000 in
theorem cut_one_lite(L:Lays.n220 P ρ)(b:UInt8)(s:ByteArray)(w:World)(hs:s.size<4294967281) :
  Calls P (ρ.f 220) #[.string s,.string ⟨#[b]⟩] w fun e w'=>e=.returned (.tuple #[.string ⟨(Lib.cut s.data.toList [b]).1.toArray⟩,.string ⟨(Lib.cut s.data.toList [b]).2.1.toArray⟩,.bool (Lib.cut s.data.toList [b]).2.2])∧∃n,w'=w.drewN n:=by
 have hone:Lib.index s.data.toList [b]=Lib.indexByte s.data.toList b:=Lib.index_one _ _;rcases Lib.indexB_cases s ⟨#[b]⟩ with hix | ⟨i,hix,hroom⟩
 ·obtain⟨e1,e2,e3⟩:=Lib.cutB_miss s ⟨#[b]⟩ hix;have hib:Lib.indexByte s.data.toList b=-1:=hone.symm.trans hix
  change (⟨(Lib.cut s.data.toList [b]).1.toArray⟩:ByteArray)=s at e1
  change (⟨(Lib.cut s.data.toList [b]).2.1.toArray⟩:ByteArray)=ByteArray.empty at e2
  change (Lib.cut s.data.toList [b]).2.2=false at e3
  rw[e1,e2,e3];have t3:=L.t3;have t4:=L.t4;have t9:=L.t9;have a3:∀w,(isAgg (ρ.t 3)).run P w=.ok false w:=run_isAgg_plain L.t3 rfl;have a4:∀w,(isAgg (ρ.t 4)).run P w=.ok false w:=run_isAgg_plain L.t4 rfl;have a9:∀w,(isAgg (ρ.t 9)).run P w=.ok false w:=run_isAgg_plain L.t9 rfl;have e219:∀args w,(callFunc (ρ.f 219) args).run P w=.ok (.enter (ρ.f 219) args) w:=enters_of L.f219 (by kernel_rfl) rfl;have mixed:=L.mixed;have z3:=L.z3;have v3:=L.v3;have z4:=L.z4;have v4:=L.v4;have z9:=L.z9;have v9:=L.v9
  go_enter L.f220,Body.n220_ntmps ρ
  go_wp2_with (go_at_fn (ρ.f 219);refine(Any.stringslite_Index_one { L with } _ b _).mono ?_;rintro e w' ⟨rfl,rfl⟩;rw[hib])
  go_ret3
  exact⟨rfl,0,rfl⟩
 ·obtain⟨e1,e2,e3⟩:=Lib.cutB_hit s ⟨#[b]⟩ i hix;have hib:Lib.indexByte s.data.toList b=(i:Int):=hone.symm.trans hix;have hsz:(⟨#[b]⟩:ByteArray).size=1:=rfl;rw[hsz]at hroom e2
  change (⟨(Lib.cut s.data.toList [b]).1.toArray⟩:ByteArray)=s.extract 0 i at e1
  change (⟨(Lib.cut s.data.toList [b]).2.1.toArray⟩:ByteArray)=s.extract (i+1) s.size at e2
  change (Lib.cut s.data.toList [b]).2.2=true at e3
  rw[e1,e2,e3];have c1:(0:Int)≤↑i:=by omega
  have c2:(↑i:Int)≤↑s.size:=by omega
  have c3:(0:Int)≤↑i+1:=by omega
  have c4:(↑i+1:Int)≤↑s.size:=by omega
  have t3:=L.t3;have t4:=L.t4;have t9:=L.t9;have a3:∀w,(isAgg (ρ.t 3)).run P w=.ok false w:=run_isAgg_plain L.t3 rfl;have a4:∀w,(isAgg (ρ.t 4)).run P w=.ok false w:=run_isAgg_plain L.t4 rfl;have a9:∀w,(isAgg (ρ.t 9)).run P w=.ok false w:=run_isAgg_plain L.t9 rfl;have e219:∀args w,(callFunc (ρ.f 219) args).run P w=.ok (.enter (ρ.f 219) args) w:=enters_of L.f219 (by kernel_rfl) rfl;have mixed:=L.mixed;have z3:=L.z3;have v3:=L.v3;have z4:=L.z4;have v4:=L.v4;have z9:=L.z9;have v9:=L.v9
  go_enter L.f220,Body.n220_ntmps ρ
  go_wp2_with (go_at_fn (ρ.f 219);refine(Any.stringslite_Index_one { L with } _ b _).mono ?_;rintro e w' ⟨rfl,rfl⟩;rw[hib])
  go_region_o
  go_wp2
  go_ret3
  exact⟨rfl,1,rfl⟩
set_option maxHeartbeats 1000000 in
theorem cut_one(L:Lays.n145 P ρ)(b:UInt8)(s:ByteArray)(w:World)(hs:s.size<4294967281) :
  Calls P (ρ.f 145) #[.string s,.string ⟨#[b]⟩] w fun e w'=>e=.returned (.tuple #[.string ⟨(Lib.cut s.data.toList [b]).1.toArray⟩,.string ⟨(Lib.cut s.data.toList [b]).2.1.toArray⟩,.bool (Lib.cut s.data.toList [b]).2.2])∧∃n,w'=w.drewN n:=by
 have t4:=L.t4;have t9:=L.t9;have t59:=L.t59;have a4:∀w,(isAgg (ρ.t 4)).run P w=.ok false w:=run_isAgg_plain L.t4 rfl;have a9:∀w,(isAgg (ρ.t 9)).run P w=.ok false w:=run_isAgg_plain L.t9 rfl;have a59:∀w,(isAgg (ρ.t 59)).run P w=.ok false w:=run_isAgg_plain L.t59 rfl;have e220:∀args w,(callFunc (ρ.f 220) args).run P w=.ok (.enter (ρ.f 220) args) w:=enters_of L.f220 (by kernel_rfl) rfl;have mixed:=L.mixed;have z4:=L.z4;have v4:=L.v4;have z9:=L.z9;have v9:=L.v9;have z59:=L.z59;have v59:=L.v59
 go_enter L.f145,Body.n145_ntmps ρ
 go_wp2_with (go_at_fn (ρ.f 220);refine(cut_one_lite { L with } b _ _ hs).mono ?_;rintro e w' ⟨rfl,n,rfl⟩)
 go_ret3
 exact⟨rfl,n,rfl⟩
theorem indexByte_tw(b:UInt8):∀(l:List UInt8),(Lib.indexByte l b=-1∧l.takeWhile (· != b)=l∧l.dropWhile (· != b)=[]∧l.contains b=false) ∨
  (∃i:Nat,Lib.indexByte l b=i∧l.takeWhile (· != b)=l.take i∧(l.dropWhile (· != b)).drop 1=l.drop (i+1)∧l.contains b=true)
 | []=>.inl ⟨rfl,rfl,rfl,rfl⟩
 | c::r=>by
  by_cases hc:c=b
  ·subst hc;right;exact⟨0,by simp[Lib.indexByte],by simp,by simp,by simp⟩
  ·have hb:(c != b)=true:=by simpa using hc
   have hb2:(b == c)=false:=by
    rw[beq_eq_false_iff_ne];exact fun h=>hc h.symm
   rcases indexByte_tw b r with ⟨h1,h2,h3,h4⟩ | ⟨i,h1,h2,h3,h4⟩
   ·left;refine⟨by simp[Lib.indexByte,hc,h1],?_,?_,?_⟩
    ·rw[List.takeWhile_cons_of_pos (p:=(· != b)) hb,h2]
    ·rw[List.dropWhile_cons_of_pos (p:=(· != b)) hb,h3]
    ·rw[List.contains_cons,hb2,h4];rfl
   ·right;refine⟨i+1,?_,?_,?_,?_⟩
    ·have hne:¬ (i:Int)=-1:=by omega
     simp[Lib.indexByte,hc,h1,hne]
    ·rw[List.takeWhile_cons_of_pos (p:=(· != b)) hb,h2];rfl
    ·rw[List.dropWhile_cons_of_pos (p:=(· != b)) hb,h3];rfl
    ·rw[List.contains_cons,hb2,h4];rfl
theorem cut_lines(b:UInt8)(l:List UInt8):Lib.cut l [b]=(l.takeWhile (· != b),(l.dropWhile (· != b)).drop 1,l.contains b):=by
 unfold Lib.cut;rw[Lib.index_one];rcases indexByte_tw b l with ⟨h1,h2,h3,h4⟩ | ⟨i,h1,h2,h3,h4⟩
 ·rw[h1,if_neg (by decide),h2,h3,h4];rfl
 ·rw[h1,if_pos (by omega),h2,h3,h4];rfl
theorem cut_pcall(L:Lays.n145 P ρ):∀xs r,prim184 xs=some r→Zae P (ρ.f 145) xs (·=r):=by
 intro xs r h;unfold prim184 at h;split at h
 ·rename_i l b;split at h
  ·rename_i hl;cases h;refine⟨enters_of L.f145 (by kernel_rfl) rfl,fun w S cargs hsz hC hS=>?_⟩;obtain⟨v0,v1,rfl⟩:=two_args hsz;have c0:=s_inv (hC 0 _ _ rfl rfl);have c1:=s_inv (hC 1 _ _ rfl rfl);subst c0 c1;have:=cut_one L b ⟨l.toArray⟩ w (by rw[bytes_size];omega);rw[bytes_list,cut_lines]at this;refine this.mono ?_
   rintro e w' ⟨rfl,n,rfl⟩
   refine⟨_,_,rfl,rfl,⟨rfl,rfl,rfl,Nat.le_refl _,fun _ _=>rfl⟩,.tup _ _ rfl fun j v c hv hc=>?_⟩
   match j,hv,hc with
   | 0,hv,hc=>cases hv;cases hc;exact .s _
   | 1,hv,hc=>cases hv;cases hc;exact .s _
   | 2,hv,hc=>cases hv;cases hc;exact .b _
  ·cases h
 ·cases h
end Go.Proofs
end
section
namespace Go.Proofs
open Go.Shelf Go.RowKit
set_option maxRecDepth 100000
def Tryz.sren:Ren:=⟨fun | 119=>312 | 137=>311 | 138=>310 | 143=>276 | 145=>178 | 152=>302 | 153=>293 | 195=>316 | 217=>283 | 218=>317 | 219=>262 | 220=>227 | 224=>285 | 225=>284 | 226=>305 | 227=>254 | 228=>280 | 266=>303 | 267=>286 | 314=>304 | n=>n,fun | 0=>0 | 3=>3 | 4=>4 | 5=>5 | 9=>9 | 21=>21 | 46=>254 | 51=>139 | 59=>250 | 116=>316 | 117=>317 | 124=>320 | 146=>301 | n=>n,fun | 1=>0 | n=>n⟩
theorem Tryz.lays153:Lays.n153 Tryz.prog Tryz.sren:={
 mixed:=by kernel_rfl,
 f119:=Tryz.func312.trans (congrArg some (by kernel_rfl)),
 f137:=Tryz.func311.trans (congrArg some (by kernel_rfl)),
 f152:=Tryz.func302.trans (congrArg some (by kernel_rfl)),
 f153:=Tryz.func293.trans (congrArg some (by kernel_rfl)),
 f217:=Tryz.func283.trans (congrArg some (by kernel_rfl)),
 f224:=Tryz.func285.trans (congrArg some (by kernel_rfl)),
 f225:=Tryz.func284.trans (congrArg some (by kernel_rfl)),
 f226:=Tryz.func305.trans (congrArg some (by kernel_rfl)),
 f227:=Tryz.func254.trans (congrArg some (by kernel_rfl)),
 f228:=Tryz.func280.trans (congrArg some (by kernel_rfl)),
 f266:=Tryz.func303.trans (congrArg some (by kernel_rfl)),
 t0:=Tryz.underlying0,
 a0:=Tryz.isAgg0,
 z0:=Tryz.sizeOf0,
 v0:=Tryz.zeroValue0,
 t3:=Tryz.underlying3,
 a3:=Tryz.isAgg3,
 z3:=Tryz.sizeOf3,
 v3:=Tryz.zeroValue3,
 t4:=Tryz.underlying4,
 a4:=Tryz.isAgg4,
 z4:=Tryz.sizeOf4,
 v4:=Tryz.zeroValue4,
 t5:=Tryz.underlying5,
 a5:=Tryz.isAgg5,
 z5:=Tryz.sizeOf5,
 v5:=Tryz.zeroValue5,
 t9:=Tryz.underlying9,
 a9:=Tryz.isAgg9,
 z9:=Tryz.sizeOf9,
 v9:=Tryz.zeroValue9,
 t21:=Tryz.underlying21,
 a21:=Tryz.isAgg21,
 z21:=Tryz.sizeOf21,
 v21:=Tryz.zeroValue21,
 t46:=Tryz.underlying254,
 a46:=Tryz.isAgg254,
 z46:=Tryz.sizeOf254,
 v46:=Tryz.zeroValue254,
 t116:=Tryz.underlying316,
 a116:=Tryz.isAgg316,
 z116:=Tryz.sizeOf316,
 t117:=Tryz.underlying317,
 a117:=Tryz.isAgg317,
 z117:=Tryz.sizeOf317,
 v117:=Tryz.zeroValue317,
 t124:=Tryz.underlying320,
 a124:=Tryz.isAgg320,
 z124:=Tryz.sizeOf320,
 v124:=Tryz.zeroValue320 }
theorem Tryz.lays219:Lays.n219 Tryz.prog Tryz.sren:={
 mixed:=by kernel_rfl,
 f217:=Tryz.func283.trans (congrArg some (by kernel_rfl)),
 f219:=Tryz.func262.trans (congrArg some (by kernel_rfl)),
 f224:=Tryz.func285.trans (congrArg some (by kernel_rfl)),
 f225:=Tryz.func284.trans (congrArg some (by kernel_rfl)),
 f266:=Tryz.func303.trans (congrArg some (by kernel_rfl)),
 f267:=Tryz.func286.trans (congrArg some (by kernel_rfl)),
 f314:=Tryz.func304.trans (congrArg some (by kernel_rfl)),
 t3:=Tryz.underlying3,
 a3:=Tryz.isAgg3,
 z3:=Tryz.sizeOf3,
 v3:=Tryz.zeroValue3,
 t4:=Tryz.underlying4,
 a4:=Tryz.isAgg4,
 z4:=Tryz.sizeOf4,
 v4:=Tryz.zeroValue4,
 t5:=Tryz.underlying5,
 a5:=Tryz.isAgg5,
 z5:=Tryz.sizeOf5,
 v5:=Tryz.zeroValue5,
 t9:=Tryz.underlying9,
 a9:=Tryz.isAgg9,
 z9:=Tryz.sizeOf9,
 v9:=Tryz.zeroValue9,
 t46:=Tryz.underlying254,
 a46:=Tryz.isAgg254,
 z46:=Tryz.sizeOf254,
 v46:=Tryz.zeroValue254,
 t51:=Tryz.underlying139,
 a51:=Tryz.isAgg139,
 z51:=Tryz.sizeOf139,
 v51:=Tryz.zeroValue139,
 t146:=Tryz.underlying301,
 a146:=Tryz.isAgg301,
 z146:=Tryz.sizeOf301,
 v146:=Tryz.zeroValue301,
 g1:=by kernel_rfl }
theorem Tryz.lays138:Lays.n138 Tryz.prog Tryz.sren:={
 mixed:=by kernel_rfl,
 f138:=Tryz.func310.trans (congrArg some (by kernel_rfl)),
 f143:=Tryz.func276.trans (congrArg some (by kernel_rfl)),
 f195:=Tryz.func316.trans (congrArg some (by kernel_rfl)),
 f217:=Tryz.func283.trans (congrArg some (by kernel_rfl)),
 f218:=Tryz.func317.trans (congrArg some (by kernel_rfl)),
 f219:=Tryz.func262.trans (congrArg some (by kernel_rfl)),
 f224:=Tryz.func285.trans (congrArg some (by kernel_rfl)),
 f225:=Tryz.func284.trans (congrArg some (by kernel_rfl)),
 f266:=Tryz.func303.trans (congrArg some (by kernel_rfl)),
 f267:=Tryz.func286.trans (congrArg some (by kernel_rfl)),
 f314:=Tryz.func304.trans (congrArg some (by kernel_rfl)),
 t0:=Tryz.underlying0,
 a0:=Tryz.isAgg0,
 z0:=Tryz.sizeOf0,
 v0:=Tryz.zeroValue0,
 t3:=Tryz.underlying3,
 a3:=Tryz.isAgg3,
 z3:=Tryz.sizeOf3,
 v3:=Tryz.zeroValue3,
 t4:=Tryz.underlying4,
 a4:=Tryz.isAgg4,
 z4:=Tryz.sizeOf4,
 v4:=Tryz.zeroValue4,
 t5:=Tryz.underlying5,
 a5:=Tryz.isAgg5,
 z5:=Tryz.sizeOf5,
 v5:=Tryz.zeroValue5,
 t9:=Tryz.underlying9,
 a9:=Tryz.isAgg9,
 z9:=Tryz.sizeOf9,
 v9:=Tryz.zeroValue9,
 t46:=Tryz.underlying254,
 a46:=Tryz.isAgg254,
 z46:=Tryz.sizeOf254,
 v46:=Tryz.zeroValue254,
 t51:=Tryz.underlying139,
 a51:=Tryz.isAgg139,
 z51:=Tryz.sizeOf139,
 v51:=Tryz.zeroValue139,
 t146:=Tryz.underlying301,
 a146:=Tryz.isAgg301,
 z146:=Tryz.sizeOf301,
 v146:=Tryz.zeroValue301,
 g1:=by kernel_rfl }
theorem Tryz.lays145:Lays.n145 Tryz.prog Tryz.sren:={
 mixed:=by kernel_rfl,
 f145:=Tryz.func178.trans (congrArg some (by kernel_rfl)),
 f217:=Tryz.func283.trans (congrArg some (by kernel_rfl)),
 f219:=Tryz.func262.trans (congrArg some (by kernel_rfl)),
 f220:=Tryz.func227.trans (congrArg some (by kernel_rfl)),
 f224:=Tryz.func285.trans (congrArg some (by kernel_rfl)),
 f225:=Tryz.func284.trans (congrArg some (by kernel_rfl)),
 f266:=Tryz.func303.trans (congrArg some (by kernel_rfl)),
 f267:=Tryz.func286.trans (congrArg some (by kernel_rfl)),
 f314:=Tryz.func304.trans (congrArg some (by kernel_rfl)),
 t3:=Tryz.underlying3,
 a3:=Tryz.isAgg3,
 z3:=Tryz.sizeOf3,
 v3:=Tryz.zeroValue3,
 t4:=Tryz.underlying4,
 a4:=Tryz.isAgg4,
 z4:=Tryz.sizeOf4,
 v4:=Tryz.zeroValue4,
 t5:=Tryz.underlying5,
 a5:=Tryz.isAgg5,
 z5:=Tryz.sizeOf5,
 v5:=Tryz.zeroValue5,
 t9:=Tryz.underlying9,
 a9:=Tryz.isAgg9,
 z9:=Tryz.sizeOf9,
 v9:=Tryz.zeroValue9,
 t46:=Tryz.underlying254,
 a46:=Tryz.isAgg254,
 z46:=Tryz.sizeOf254,
 v46:=Tryz.zeroValue254,
 t51:=Tryz.underlying139,
 a51:=Tryz.isAgg139,
 z51:=Tryz.sizeOf139,
 v51:=Tryz.zeroValue139,
 t59:=Tryz.underlying250,
 a59:=Tryz.isAgg250,
 z59:=Tryz.sizeOf250,
 v59:=Tryz.zeroValue250,
 t146:=Tryz.underlying301,
 a146:=Tryz.isAgg301,
 z146:=Tryz.sizeOf301,
 v146:=Tryz.zeroValue301,
 g1:=by kernel_rfl }
end Go.Proofs
namespace Go.Proofs.YtoaggbmfmgfnpaaGreatDoor
open Go.Ab
theorem str344_ok:∀xs r,prim344 xs=some r→Zae Tryz.prog (nu 344) xs (·=r):=by
 have e:nu 344=Tryz.sren.f 153:=by kernel_rfl
 rw[e];exact indexAny_pcall Tryz.lays153 (by kernel_rfl)
theorem str194_ok:∀xs r,prim194 xs=some r→Zae Tryz.prog (nu 194) xs (·=r):=by
 have e:nu 194=Tryz.sren.f 219:=by kernel_rfl
 rw[e];exact index_pcall Tryz.lays219
theorem str361_ok:∀xs r,prim361 xs=some r→Zae Tryz.prog (nu 361) xs (·=r):=by
 have e:nu 361=Tryz.sren.f 138:=by kernel_rfl
 rw[e];exact count_pcall Tryz.lays138
theorem str184_ok:∀xs r,prim184 xs=some r→Zae Tryz.prog (nu 184) xs (·=r):=by
 have e:nu 184=Tryz.sren.f 145:=by kernel_rfl
 rw[e];exact cut_pcall Tryz.lays145
end Go.Proofs.YtoaggbmfmgfnpaaGreatDoor
end
section
namespace Go.Proofs
open Go.Shelf Go.RowKit
set_option maxRecDepth 100000
def Tryz.jren:Ren:=⟨fun | 156=>95 | 165=>160 | 166=>161 | 169=>162 | 240=>214 | 241=>215 | 277=>258 | n=>n,fun | 0=>0 | 1=>1 | 2=>2 | 3=>3 | 4=>4 | 5=>5 | 6=>6 | 7=>7 | 8=>8 | 9=>9 | 10=>10 | 11=>11 | 12=>12 | 13=>13 | 14=>14 | 15=>15 | 16=>16 | 17=>17 | 18=>18 | 19=>19 | 20=>20 | 21=>21 | 22=>305 | 23=>278 | 24=>96 | 25=>309 | 27=>324 | 28=>22 | 30=>114 | 31=>162 | 34=>26 | 36=>28 | 37=>229 | 40=>372 | 41=>281 | 45=>27 | 46=>254 | 48=>243 | 51=>139 | 52=>261 | 53=>178 | 55=>347 | 59=>250 | 60=>251 | 61=>343 | 63=>346 | 64=>360 | 67=>164 | 69=>183 | 70=>228 | 71=>230 | 72=>231 | 73=>232 | 74=>233 | 75=>234 | 76=>235 | 77=>236 | 80=>237 | 81=>381 | 103=>373 | 105=>344 | 106=>345 | 111=>362 | 112=>287 | 113=>359 | 114=>148 | 115=>315 | 116=>316 | 117=>317 | 118=>318 | 119=>368 | 122=>314 | 123=>319 | 124=>320 | 127=>279 | 131=>66 | 137=>369 | 138=>370 | 139=>371 | 146=>301 | 150=>367 | 151=>361 | 164=>321 | 165=>322 | 166=>323 | n=>n,fun n=>n⟩
theorem Tryz.joinLaid:JL Tryz.prog Tryz.jren:={
 mixed:=by kernel_rfl,
 f169:=Tryz.func162.trans (congrArg some (by kernel_rfl)),
 t0:=Tryz.underlying0,
 a0:=Tryz.isAgg0,
 z0:=Tryz.sizeOf0,
 v0:=Tryz.zeroValue0,
 t3:=Tryz.underlying3,
 a3:=Tryz.isAgg3,
 z3:=Tryz.sizeOf3,
 v3:=Tryz.zeroValue3,
 t9:=Tryz.underlying9,
 a9:=Tryz.isAgg9,
 z9:=Tryz.sizeOf9,
 v9:=Tryz.zeroValue9,
 t37:=Tryz.underlying229,
 a37:=Tryz.isAgg229,
 z37:=Tryz.sizeOf229,
 v37:=Tryz.zeroValue229,
 t70:=Tryz.underlying228,
 a70:=Tryz.isAgg228,
 z70:=Tryz.sizeOf228,
 v70:=Tryz.zeroValue228,
 t72:=Tryz.underlying231,
 a72:=Tryz.isAgg231,
 z72:=Tryz.sizeOf231,
 v72:=Tryz.zeroValue231,
 t127:=Tryz.underlying279,
 a127:=Tryz.isAgg279,
 z127:=Tryz.sizeOf279,
 v127:=Tryz.zeroValue279,
 f241:=Tryz.func215.trans (congrArg some (by kernel_rfl)),
 f277:=Tryz.func258.trans (congrArg some (by kernel_rfl)),
 sizeBuilder:=by kernel_rfl,
 liesBuilder:=by kernel_rfl,
 t5:=Tryz.underlying5,
 a5:=Tryz.isAgg5,
 z5:=Tryz.sizeOf5,
 v5:=Tryz.zeroValue5,
 infoByte:=by kernel_rfl,
 cellsByte:=by kernel_rfl,
 sizeByte:=by kernel_rfl,
 neB5:=by decide,
 f156:=Tryz.func95.trans (congrArg some (by kernel_rfl)),
 f165:=Tryz.func160.trans (congrArg some (by kernel_rfl)),
 f166:=Tryz.func161.trans (congrArg some (by kernel_rfl)),
 t4:=Tryz.underlying4,
 a4:=Tryz.isAgg4,
 z4:=Tryz.sizeOf4,
 v4:=Tryz.zeroValue4,
 t20:=Tryz.underlying20,
 a20:=Tryz.isAgg20,
 z20:=Tryz.sizeOf20,
 v20:=Tryz.zeroValue20,
 t31:=Tryz.underlying162,
 a31:=Tryz.isAgg162,
 z31:=Tryz.sizeOf162,
 v31:=Tryz.zeroValue162,
 t75:=Tryz.underlying234,
 a75:=Tryz.isAgg234,
 z75:=Tryz.sizeOf234,
 v75:=Tryz.zeroValue234,
 t76:=Tryz.underlying235,
 a76:=Tryz.isAgg235,
 z76:=Tryz.sizeOf235,
 v76:=Tryz.zeroValue235,
 t164:=Tryz.underlying321,
 a164:=Tryz.isAgg321,
 z164:=Tryz.sizeOf321,
 v164:=Tryz.zeroValue321,
 e240:=enters_of Tryz.func214 (by kernel_rfl) rfl,
 c240:=fun B b bs w h=>Tryz.bCheck B b bs w h,
 c240f:=fun b w h0 h1 h2=>Tryz.bCheck_fresh b w h0 h1 h2 }
end Go.Proofs
namespace Go.Proofs.YtoaggbmfmgfnpaaGreatDoor
open Go.Ab
theorem join_ok:∀xs r,prim183 xs=some r→Zae Tryz.prog (nu 183) xs (·=r):=by
 have e:nu 183=Tryz.jren.f 156:=by kernel_rfl
 rw[e];exact join_pcall Tryz.joinLaid
end Go.Proofs.YtoaggbmfmgfnpaaGreatDoor
end
section
namespace Go.Ab
open Go.ChangeShapes Go.WideShapes Go.ChangeAt Go.RowKit
theorem zkr{H:Type}{enc:TypeId×Value→H}{P:Program}{f:Func}{s:ChangeSpec}{apart fresh handsOn again:Bool}{W W':World}{args:Array Value}{v:Value}{ds gs:List (DataW H)}{before pa pv:List MemPlace}
  (hW:DataW.Whole enc P f.params.toList s.vars apart W args.toList ds gs before)
  (hres:∀(b:Nat) (sp:Nat→Bool) (hd:Bool),DataW.TrodAll enc P W' b sp hd f.resultTypes.toList (v.resultList f.resultTypes.size) (s.fn H (ds++gs)).results [])
  (hargs:∀sp:Nat→Bool,(∀p∈before,sp p.block=true)→DataW.TrodAll enc P W' 0 sp true f.params.toList args.toList (s.fn H (ds++gs)).args pa)
  (hvars:∀sp:Nat→Bool,(∀p∈before,sp p.block=true)→DataW.TrodVars enc P W' sp s.vars (s.fn H (ds++gs)).vars pv)
  (hps:before=pa++pv) (hw:Below W.heap.size W W')
  (hok:∀(j:Nat) (t:TypeId) (r:Value),f.resultTypes[j]? = some t→(v.resultList f.resultTypes.size)[j]? = some r→Value.okWide P W' .any 0 t r) :
  s.post enc P f apart fresh handsOn again W args v W':=by
 have hold:∀p∈before,(fun b=>decide (b<W.heap.size)) p.block=true:=fun p hp=>by simpa using hW.lt p hp
 have hlt:∀p∈before,p.block<W.heap.size:=fun p hp=>hW.lt p hp;refine⟨ds,gs,before,[],pa,pv,hW,hres _ _ _,hargs _ hold,hvars _ hold,World.keptBut_mono (fun p hp=>⟨hp,?_⟩) (hw.frame (·∈before)),fun _=>?_⟩
 ·rw[hps,Ybc]at hp;exact Or.inr hp
 ·obtain⟨_,_,_,_,_,hz,hn⟩:=hW;refine⟨hok,_,_,([]++pa)++pv,⟨[]++pa,pv,trodAll_append (hargs _ (fun _ _=>rfl)) (hres _ _ _),hvars _ (fun _ _=>rfl),rfl,?_,?_⟩,?_⟩
  ·intro b off hp;have hp':MemPlace.cell b off∈before:=by rw[hps];simpa using hp
   rw[hw.frozen (p:=⟨b,off,none⟩) (hlt _ hp')];exact hz b off hp'
  ·intro ha;have:=hn ha;rw[hps]at this;simpa using this
  ·intro p hp _;rw[hps];simpa using hp
end Go.Ab
end
section
namespace Go.Ab
open Go.ChangeShapes Go.WideShapes Go.ChangeAt Go.RowKit
inductive Ty where
 | int (k:IntKind)
 | bool
 | str
 | sl (r:Ty)
 | nil
 | cons (a:Ty) (r:Ty)
def Ty.z:Ty→Nat
 | .nil=>0
 | .cons a r=>a.z+r.z
 | _=>1
def Ok:Ty→List AV→Prop
 | .int k,cs=>∃n,cs=[.i k n]∧(Lit.int k n).wf=true
 | .bool,cs=>∃b,cs=[.b b]
 | .str,cs=>∃l,cs=[.s l]∧l.length≤maxLen
 | .sl r,cs=>∃els f,cs=[.sl els f]∧els.length≤maxLen∧(f=.nl∧els=[]∨f=.so)∧∀row∈els,Ok r row
 | .nil,cs=>cs=[]
 | .cons a r,cs=>∃c1 c2,cs=c1++c2∧Ok a c1∧Ok r c2
theorem Ok.len:∀{ty:Ty} {cs:List AV},Ok ty cs→cs.length=ty.z
 | .int _,_,⟨_,h,_⟩=>by rw[h];rfl
 | .bool,_,⟨_,h⟩=>by rw[h];rfl
 | .str,_,⟨_,h,_⟩=>by rw[h];rfl
 | .sl _,_,⟨_,_,h,_⟩=>by rw[h];rfl
 | .nil,_,h=>by rw[show _=[] from h];rfl
 | .cons _ _,_,⟨_,_,h,h1,h2⟩=>by rw[h,Yy,h1.len,h2.len];rfl
def Zdm(w:World)(S:Nat→Nat→Prop)(cs:List Value)(xs:List AV):Prop:=
 xs.length=cs.length∧∀(j:Nat) (v:Value) (c:AV),cs[j]? = some v→xs[j]? = some c→CP w S v c∧v.oneCell'=true
section
variable{H:Type}{enc:TypeId×Value→H}{P:Program}{w:World}{base:Nat}{held:Bool}{S:Nat→Nat→Prop}
theorem Zdm.nil:Zdm w S [] []:=⟨rfl,fun j v c h=>by grind⟩
theorem Zdm.one{v:Value}{c:AV}(h:CP w S v c)(h1:v.oneCell'=true):Zdm w S [v] [c]:=by
 refine⟨rfl,fun j v' c' hv hc=>?_⟩
 grind
theorem Zdm.append{cs cs':List Value}{xs xs':List AV}(h:Zdm w S cs xs)(h':Zdm w S cs' xs'):Zdm w S (cs++cs') (xs++xs'):=by
 refine⟨by rw[Yy,Yy,h.1,h'.1],fun j v c hv hc=>?_⟩;by_cases hj:j<cs.length
 ·rw[Ys hj]at hv;rw[Ys (by rw[h.1];omega)]at hc;exact h.2 j v c hv hc
 ·rw[Yl (by omega)]at hv;rw[Yl (by rw[h.1];omega),h.1]at hc;exact h'.2 _ v c hv hc
def Zft(P:Program)(g:TypeId→Option Ty)(tot:Nat):Nat→List Field→Option Ty
 | off,[]=>if off=tot then some .nil else none
 | off,f::fs=>(g f.type).bind fun a=>if f.offset=off∧a.z=P.cellsOf f.type then (Zft P g tot (off+a.z) fs).map (.cons a) else none
def Zj7:Nat→Ty→Ty
 | 0,_=>.nil
 | n+1,a=>.cons a (Zj7 n a)
def Zgi(P:Program):Nat→TypeId→Option Ty
 | 0,_=>none
 | n+1,t=>
  match P.underlying t with
  | some .bool=>some .bool
  | some (.int k)=>some (.int k)
  | some .string=>some .str
  | some (.slice e)=>(Zgi P n e).bind fun r=>if r.z=P.cellsOf e∧0<r.z then some (.sl r) else none
  | some (.struct fs)=>Zft P (Zgi P n) (P.cellsOf t) 0 fs.toList
  | some (.array k e)=>(Zgi P n e).bind fun a=>if a.z=P.cellsOf e∧k*a.z=P.cellsOf t then some (Zj7 k a) else none
  | _=>none
theorem zue{α:Type}{Q:Nat→α→Prop}:∀(n:Nat),(∀i,i<n→∃x,Q i x)→∃l:List α,l.length=n∧∀i x,l[i]? = some x→Q i x
 | 0,_=>⟨[],rfl,fun i x h=>by grind⟩
 | n+1,h=>by
  obtain⟨l,hl,hq⟩:=zue n fun i hi=>h i (by omega);obtain⟨x,hx⟩:=h n (by omega);refine⟨l++[x],by grind,fun i y hy=>?_⟩
  grind
def Zfl(S:Nat→Nat→Prop)(ps:List MemPlace):Prop:=∀k o,MemPlace.cell k o∈ps→S k o
theorem zhm{n:Nat}{g:TypeId→Option Ty}{cs:List Value}
  (ih:∀t cs x ty,DataW.trod enc P w base (fun _=>true) held n t cs=some x→g t=some ty→Zfl S x.2→∃xs,Ok ty xs∧Zdm w S cs xs) :
  ∀(fs:List Field) (off:Nat) (ty:Ty) (ys:List (DataW H×List MemPlace)),
   ys.length=fs.length→(∀(i:Nat) (f:Field),fs[i]? = some f→DataW.trod enc P w base (fun _=>true) held n f.type ((cs.drop f.offset).take (P.cellsOf f.type))=ys[i]?) →
   Zft P g cs.length off fs=some ty→Zfl S (ys.flatMap (·.2))→∃xs,Ok ty xs∧Zdm w S (cs.drop off) xs
 | [],off,ty,ys,hl,hm,ht,hp=>by
  simp only[Zft]at ht;split at ht<;>cases ht;rename_i ho;exact⟨[],rfl,by rw[ho,Y7];exact Zdm.nil⟩
 | f::fs,off,ty,[],hl,hm,ht,hp=>by grind
 | f::fs,off,ty,y::ys1,hl,hm,ht,hp=>by
  obtain⟨a,ha,ht1⟩:=bind_some ht;split at ht1
  ·rename_i hc;obtain⟨ho,hz⟩:=hc;obtain⟨r,hr,rfl⟩:=map_some ht1;have hy:=hm 0 f rfl;rw[ho,←hz]at hy;obtain⟨xs1,ho1,hr1⟩:=ih _ _ _ _ hy ha fun k o h=>hp k o (by grind);obtain⟨xs2,ho2,hr2⟩:=zhm ih fs _ r ys1 (by grind) (fun i f' hf=>by simpa using hm (i+1) f' (by grind)) hr fun k o h=>hp k o (by
    grind)
   refine⟨xs1++xs2,⟨xs1,xs2,rfl,ho1,ho2⟩,?_⟩;have e:cs.drop off=(cs.drop off).take a.z++cs.drop (off+a.z):=by rw[←Ye7,Ya1]
   rw[e];exact hr1.append hr2
  grind
theorem zjp{n:Nat}{e:TypeId}{r:Ty}(ih:∀cs x,DataW.trod enc P w base (fun _=>true) held n e cs=some x→Zfl S x.2→∃xs,Ok r xs∧Zdm w S cs xs) :
  ∀(k:Nat) (cs:List Value) (ys:List (DataW H×List MemPlace)),ys.length=k→cs.length=k*r.z →
   (∀(i:Nat),i<k→DataW.trod enc P w base (fun _=>true) held n e ((cs.drop (i*r.z)).take r.z)=ys[i]?)→Zfl S (ys.flatMap (·.2))→∃xs,Ok (Zj7 k r) xs∧Zdm w S cs xs
 | 0,cs,ys,hl,hc,hm,hp=>by
  rw[Yde,Ya6]at hc;subst hc;exact⟨[],rfl,Zdm.nil⟩
 | k+1,cs,[],hl,hc,hm,hp=>by grind
 | k+1,cs,y::ys,hl,hc,hm,hp=>by
  have hy:=hm 0 (by omega);rw[Yde,Yaa]at hy;obtain⟨xs1,ho1,hr1⟩:=ih _ _ hy fun k o h=>hp k o (by grind);obtain⟨xs2,ho2,hr2⟩:=zjp ih k (cs.drop r.z) ys (by grind) (by grind) (fun i hi=>by
   grind[List.drop_drop]) fun k o h=>hp k o (by
    grind)
  refine⟨xs1++xs2,⟨xs1,xs2,rfl,ho1,ho2⟩,?_⟩;have e:cs=cs.take r.z++cs.drop r.z:=(Ya1 ..).symm;rw[e];exact hr1.append hr2
theorem zp3{a:Addr}{m z:Nat}{cs:List Value}(h:w.cells? base (a.add m) z=some cs)(j:Nat)(hj:j<z):w.cell? ((a.add m).add j)=cs[j]? := (World.cells?_some h).2.2 j hj
theorem zuf{a:Addr}{v:Value}(h:w.cell? a=some v):a.spot=none:=by
 unfold World.cell? at h;split at h
 all_goals simp_all
theorem zfo:∀(n m:Nat) (t:TypeId) (cs:List Value) (x:DataW H×List MemPlace) (ty:Ty),
  DataW.trod enc P w base (fun _=>true) held n t cs=some x→Zgi P m t=some ty→Zfl S x.2→∃xs,Ok ty xs∧Zdm w S cs xs
 | 0,_,_,_,_,_,h,_,_=>by simp[DataW.trod]at h
 | n+1,0,_,_,_,_,_,ht,_=>by simp[Zgi]at ht
 | n+1,m+1,t,cs,x,ty,h,ht,hp=>by
  simp only[Zgi]at ht;split at ht
  ·rename_i hu;cases ht;obtain⟨b,rfl,rfl⟩:=DataW.trod_bool hu h;exact⟨[.b b],⟨b,rfl⟩,Zdm.one (.b b) rfl⟩
  ·rename_i k hu;cases ht;obtain⟨z,rfl,rfl,hw⟩:=DataW.trod_int hu h;exact⟨[.i k z],⟨z,rfl,hw⟩,Zdm.one (.i k z) rfl⟩
  ·rename_i hu;cases ht;obtain⟨s,rfl,rfl,hs⟩:=DataW.trod_string hu h;exact⟨[.s s.data.toList],⟨_,rfl,by simp_all⟩,Zdm.one (.s s.data.toList) rfl⟩
  ·rename_i e hu;obtain⟨r,hr,ht1⟩:=bind_some ht;split at ht1
   ·rename_i hz;cases ht1;obtain⟨hz,hzp⟩:=hz;rcases DataW.trod_slice hu h with ⟨rfl,rfl⟩ | ⟨a,len,cap,elems,rest,n',hn',rfl,rfl,hb,hl,hmx,hlen,hel,hsp,hns⟩
    ·exact⟨[.sl [] .nl],⟨[],.nl,rfl,Yp _,.inl ⟨rfl,rfl⟩,fun row h=>by grind⟩,Zdm.one (.slnil _ (.inl rfl)) rfl⟩
    ·obtain⟨hrl,hrest⟩:=hsp rfl;have hall:∀i,i<cap→∃y cs',y∈elems++rest∧w.cells? base (a.add (i*P.cellsOf e)) (P.cellsOf e)=some cs'∧DataW.trod enc P w base (fun _=>true) held n e cs'=some y:=by
      intro i hi;by_cases hil:i<len
      ·have h1:=hel i hil;rw[Ya (by omega)]at h1;obtain⟨cs',h2,h3⟩:=bind_some h1
       grind
      ·have h1:=hrest (i-len) (by omega);rw[Ya (by omega),show len+(i-len)=i by omega]at h1;obtain⟨cs',h2,h3⟩:=bind_some h1
       grind
     by_cases hcap:cap=0
     ·have hl0:len=0:=by omega
      subst hcap;subst hl0;exact⟨[.sl [] .so],⟨[],.so,rfl,Yp _,.inr rfl,fun row h=>by grind⟩,Zdm.one (.slz a _ (.inl rfl)) rfl⟩
     ·have hspot:a.spot=none:=by
       obtain⟨y,cs',_,h2,_⟩:=hall 0 (by omega);have h3:=zp3 h2 0 (by omega)
       grind[World.cells?_some,zuf,Addr.add]
      obtain⟨blk,off,sp⟩:=a;have hrows:∀i,i<len→∃xs,Ok r xs∧∃cs',w.cells? base ((⟨blk,off,none⟩:Addr).add (i*P.cellsOf e)) (P.cellsOf e)=some cs'∧Zdm w S cs' xs:=by
       intro i hi;obtain⟨y,cs',hy,h2,h3⟩:=hall i (by omega);obtain⟨xs,ho,hrc⟩:=zfo n m e cs' y r h3 hr fun k o hk=>hp k o (by
        grind)
       grind
      obtain⟨els,hels,hq⟩:=zue len hrows;refine⟨[.sl els .so],⟨els,.so,rfl,by omega,.inr rfl,fun row hrow=>?_⟩,Zdm.one ?_ rfl⟩
      ·grind[List.getElem?_of_mem]
      ·have hcell:∀i j,i<els.length→j<r.z→∃v,w.cell? ⟨blk,off+i*r.z+j,none⟩=some v∧v.oneCell'=true∧∀row c,els[i]? = some row→row[j]? = some c→CP w S v c:=by
        intro i j hi hj;obtain⟨ho,cs',h2,hrc⟩:=hq i _ (Ya hi);have h3:=zp3 h2 j (by omega);have h4:=(World.cells?_some h2).2.1;rw[zbj,zbj,←hz,Ya (by omega)]at h3;have hlr:=ho.len;have h5:=hrc.2 j _ _ (Ya (by omega)) (Ya (by omega))
        grind
       have hS:∀i j,i<els.length→j<r.z→S blk (off+i*r.z+j):=by
        intro i j hi hj;refine hp _ _ ?_;rw[Ybc];left;unfold MemPlace.row;rw[Yab];refine⟨i*r.z+j,?_,by rw[Yas]⟩;have h1:(i+1)*r.z≤(elems.length+rest.length)*r.z:=Yw _ (by omega)
        grind
       have:=CP.sl (w:=w) (S:=S) blk off r.z cap els .so (fun i j=>(w.cell? ⟨blk,off+i*r.z+j,none⟩).getD undef) (by simp) (by simp) (by omega) hmx
        (fun i row hrow=>(hq i row hrow).1.len) (fun i j hi hj=>?_) (fun i row j c hrow hc=>?_)
       ·grind
       ·grind
       ·have hi:=(Yu.1 hrow).1;have hj:=(Yu.1 hc).1;rw[(hq i row hrow).1.len]at hj
        grind
   grind
  ·rename_i fs hu;obtain⟨xs,n',hn',rfl,hcl,hxl,hx⟩:=DataW.trod_struct hu h;cases hn';rw[←hcl]at ht;have:=zhm (S:=S) (g:=Zgi P m) (cs:=cs) (n:=n) (fun t cs x ty h1 h2 h3=>zfo n m t cs x ty h1 h2 h3) fs.toList 0 ty xs (by omega) (fun i f hf=>hx i f (by grind)) ht hp
   grind
  ·rename_i k e hu;obtain⟨r,hr,ht1⟩:=bind_some ht;split at ht1
   ·rename_i hz;cases ht1;obtain⟨hz,hzt⟩:=hz;obtain⟨xs,n',hn',rfl,hcl,hxl,hx⟩:=DataW.trod_array hu h;cases hn';rw[←hz]at hx;exact zjp (S:=S) (n:=n) (e:=e) (r:=r) (fun cs x h1 h3=>zfo n m e cs x r h1 hr h3) k cs xs hxl (by omega) hx hp
   grind
  grind
end
end Go.Ab
end
section
namespace Go.Ab
open Go.ChangeShapes Go.WideShapes Go.ChangeAt Go.RowKit
def isAgg(P:Program)(t:TypeId):Bool:=match P.underlying t with | some (.struct _)=>true | some (.array _ _)=>true | _=>false
def Zj8(P:Program)(m:Nat):List TypeId→Option (List (Bool×Ty))
 | []=>some []
 | t::ts=>(Zgi P m t).bind fun a=>(Zj8 P m ts).map fun r=>(isAgg P t,a)::r
def Zjc:Bool×Ty→AV→Prop
 | (true,ty),x=>∃cs,x=.agg cs∧Ok ty cs
 | (false,ty),x=>Ok ty [x]
def Zh6:List (Bool×Ty)→List AV→Prop
 | [],xs=>xs=[]
 | a::r,xs=>∃x ys,xs=x::ys∧Zjc a x∧Zh6 r ys
section
variable{H:Type}{enc:TypeId×Value→H}{P:Program}{w:World}{S:Nat→Nat→Prop}
theorem zyp{m:Nat}{t:TypeId}{v:Value}{d:DataW H}{p:List MemPlace}{ty:Ty}{base:Nat}(hA:DataW.Trod enc P w 0 (fun _=>true) true t v d p)(hT:Zgi P m t=some ty)
  (hval:Value.okWide P w .any base t v) (hp:Zfl S p):∃x,Zjc (isAgg P t,ty) x∧CP w S v x:=by
 obtain⟨fuel,hf⟩:=hA;obtain⟨xs,ho,hrc⟩:=zfo (S:=S) fuel m t _ _ ty hf hT hp;have hlen:=ho.len;cases hu:P.underlying t with
 | none=>cases m<;>simp[Zgi,hu]at hT
 | some desc=>
  have one:∀(hag:isAgg P t=false) (hz:ty.z=1) (hv:v.cells=#[v]),∃x,Zjc (isAgg P t,ty) x∧CP w S v x:=by
   intro hag hz hv;rw[hag]
   match xs,hlen with
   | [x],_=>
    refine⟨x,ho,?_⟩;have:=hrc.2 0 v x (by grind) rfl
    grind
   | [],h=>grind
   | _::_::_,h=>grind
  cases m with
  | zero=>simp[Zgi]at hT
  | succ m=>
  cases desc<;>simp only[Zgi,hu]at hT<;>try (cases hT;done)
  case struct fs=>
   have hag:isAgg P t=true:=by simp[isAgg,hu]
   rw[hag];unfold Value.okWide at hval;rw[hu]at hval;obtain⟨cs,rfl,hcs,_⟩:=hval;refine⟨.agg xs,⟨xs,rfl,ho⟩,.agg cs xs ?_ ?_ ?_⟩
   ·have:=hrc.1;simpa[Value.cells]using this.symm
   ·intro j u hu;have hl:=hrc.1;have hj:j<cs.size:=(Yc4.1 hu).1;have hj':j<xs.length:=by rw[hl];simpa[Value.cells]using hj
    exact(hrc.2 j u _ (by simpa[Value.cells]using hu) (Ya hj')).2
   ·intro j u c hu hc;exact(hrc.2 j u c (by simpa[Value.cells]using hu) hc).1
  case array k e=>
   have hag:isAgg P t=true:=by simp[isAgg,hu]
   rw[hag];unfold Value.okWide at hval;rw[hu]at hval;obtain⟨cs,rfl,hcs,_⟩:=hval;refine⟨.agg xs,⟨xs,rfl,ho⟩,.agg cs xs ?_ ?_ ?_⟩
   ·have:=hrc.1;simpa[Value.cells]using this.symm
   ·intro j u hu;have hl:=hrc.1;have hj:j<cs.size:=(Yc4.1 hu).1;have hj':j<xs.length:=by rw[hl];simpa[Value.cells]using hj
    exact(hrc.2 j u _ (by simpa[Value.cells]using hu) (Ya hj')).2
   ·intro j u c hu hc;exact(hrc.2 j u c (by simpa[Value.cells]using hu) hc).1
  case bool=>
   cases hT;unfold Value.okWide Cell.okWide Cell.ok at hval;refine one (by simp[isAgg,hu]) rfl ?_;cases v<;>first | rfl | grind
  case int k=>
   cases hT;unfold Value.okWide Cell.okWide Cell.ok at hval;rw[hu]at hval;refine one (by simp[isAgg,hu]) rfl ?_;cases v<;>first | rfl | grind
  case string=>
   cases hT;unfold Value.okWide Cell.okWide Cell.ok at hval;rw[hu]at hval;refine one (by simp[isAgg,hu]) rfl ?_;cases v<;>first | rfl | grind
  case slice e=>
   obtain⟨r,hr,ht1⟩:=bind_some hT;split at ht1<;>cases ht1;unfold Value.okWide Cell.okWide Cell.ok at hval;rw[hu]at hval;refine one (by simp[isAgg,hu]) rfl ?_;cases v<;>first | rfl | grind
theorem zl3{m base:Nat}:∀(ts:List TypeId) (vs:List Value) (ds:List (DataW H)) (p:List MemPlace) (tys:List (Bool×Ty)),DataW.TrodAll enc P w 0 (fun _=>true) true ts vs ds p→Zj8 P m ts=some tys →
  (∀(j:Nat) t v,ts[j]? = some t→vs[j]? = some v→Value.okWide P w .any base t v)→Zfl S p →
  ∃xs,Zh6 tys xs∧vs.length=xs.length∧∀(j:Nat) (v:Value) (c:AV),vs[j]? = some v→xs[j]? = some c→CP w S v c
 | [],vs,ds,p,tys,hA,hT,hval,hp=>by
  obtain⟨rfl,_,_⟩:=trodAll_nil hA;cases hT;exact⟨[],rfl,rfl,fun j v c h=>by grind⟩
 | t::ts,vs,ds,p,tys,hA,hT,hval,hp=>by
  obtain⟨v,vs1,d,ds1,a,b,rfl,rfl,rfl,h1,h2⟩:=trodAll_cons hA;obtain⟨ty,hty,hT1⟩:=bind_some hT;obtain⟨r,hr,rfl⟩:=map_some hT1;obtain⟨x,hx,hC⟩:=zyp (S:=S) h1 hty (hval 0 t v rfl rfl) fun k o h=>hp k o (Ya0 _ h);obtain⟨xs,ho,hl,hc⟩:=zl3 (m:=m) (base:=base) ts vs1 ds1 b r h2 hr (fun j t v ht hv=>hval (j+1) t v (by grind) (by grind)) fun k o h=>hp k o (Yau _ h);refine⟨x::xs,⟨x,xs,rfl,hx,ho⟩,by grind,fun j u c hu hcc=>?_⟩
  grind
theorem zp4(hl:laidOutB P=true){W W':World}(hb:Below W.heap.size W W'){sp:Nat→Bool}:∀(ts:List TypeId) (vs:List Value) (ds:List (DataW H)) (p:List MemPlace),
  (ts.all fun t=>P.readableRec t&&decide (t<P.types.size))=true→DataW.TrodAll enc P W 0 (fun _=>true) true ts vs ds p→(∀x∈p,x.block<W.heap.size)→(∀x∈p,sp x.block=true)→DataW.TrodAll enc P W' 0 sp true ts vs ds p
 | [],_,_,_,_,hA,_,_=>by
  obtain⟨rfl,rfl,rfl⟩:=trodAll_nil hA;exact rfl
 | t::ts,vs,ds,p,hr,hA,hlt,hsp=>by
  obtain⟨v,vs1,d,ds1,a,b,rfl,rfl,rfl,h1,h2⟩:=trodAll_cons hA;rw[Yb6,Yr,Yr,decide_eq_true_eq]at hr;exact⟨a,b,WideElems.Trod_stays hl hr.1.1 hr.1.2 h1 (fun x hx=>hb.same (hlt x (Ya0 _ hx))) (fun x hx=>hsp x (Ya0 _ hx)),
   zp4 hl hb ts vs1 ds1 b hr.2 h2 (fun x hx=>hlt x (Yau _ hx)) (fun x hx=>hsp x (Yau _ hx)),rfl⟩
theorem zug:∀(ts:List TypeId) (vs:List Value) (ds:List (DataW H)) (p:List MemPlace),DataW.TrodAll enc P w 0 (fun _=>true) true ts vs ds p→ds.length=ts.length
 | [],_,_,_,hA=>by
  obtain⟨rfl,rfl,rfl⟩:=trodAll_nil hA
  rfl
 | t::ts,vs,ds,p,hA=>by
  obtain⟨v,vs1,d,ds1,a,b,rfl,rfl,rfl,h1,h2⟩:=trodAll_cons hA;simp[zug ts vs1 ds1 b h2]
theorem zyq{f:FuncId}{fn:Func}{s:ChangeSpec}{m tb:Nat}{tys:List (Bool×Ty)}{fresh handsOn again:Bool}(hvars:s.vars=[])(hT:Zj8 P m fn.params.toList=some tys)(hl:laidOutB P=true)
  (hread:(fn.params.toList.all fun t=>P.readableRec t&&decide (t<P.types.size))=true) (hr:fn.resultTypes=#[tb]) (hb:P.underlying tb=some .bool)
  (hfn:∀ds:List (DataW H),ds.length=fn.params.toList.length→s.fn H ds={ results:=[.lit (.bool true)],args:=ds })
  (hcall:∀xs,Zh6 tys xs→Zae P f xs (·=.b true)) {W:World} {args:Array Value} {ds gs:List (DataW H)} {before:List MemPlace} {base:Nat}
  (hval:∀(j:Nat) t v,fn.params[j]? = some t→args[j]? = some v→Value.okWide P W .any base t v) (hW:DataW.Whole enc P fn.params.toList s.vars false W args.toList ds gs before) :
  Calls P f args W fun e W'=>∃v,e=.returned v∧s.post enc P fn false fresh handsOn again W args v W':=by
 have hW':=hW;obtain⟨p,q,hA,hV,rfl,hfz,hnd⟩:=hW;rw[hvars]at hV;obtain⟨rfl,rfl⟩:=trodVars_none hV;have hlt:∀x∈p,x.block<W.heap.size:=fun x hx=>hW'.lt x (Ya0 _ hx);obtain⟨xs,ho,hlen,hC⟩:=zl3 (S:=fun k o=>MemPlace.cell k o∈p) _ _ _ _ _ hA hT (fun j t v ht hv=>hval j t v (by grind) (by grind)) (fun k o h=>h);have hc:=(hcall xs ho).2 W (fun k o=>MemPlace.cell k o∈p) args (by omega) (fun j v c hv hc=>hC j v c (by grind) hc) (fun k o h=>hlt _ h);refine hc.mono fun e W' ⟨v,r,he,hrr,hbel,hCr⟩=>?_;subst he hrr;have hv:v=.bool true:=by cases hCr;rfl
 subst hv;have hlf:=hfn ds (zug _ _ _ _ hA);refine⟨_,rfl,zkr (pa:=p) (pv:=[]) hW' (fun b sp hd=>?_) (fun sp hsp=>?_) (fun sp _=>?_) rfl hbel (ok_one hr rfl (okWide_bool_mk hb _))⟩
 ·rw[Yaq,hlf,hr];exact trodAll_mk1 (shut_bool hb _)
 ·grind[zp4]
 ·rw[Yaq,hlf,hvars];exact rfl
end
end Go.Ab
end
section
namespace Go.Ab
theorem zk3:∀(els:List (List AV)),(∀row∈els,Ok (.int .u32) row)→∃l:List UInt32,els=Zb l
 | [],_=>⟨[],rfl⟩
 | r::els,h=>by
  obtain⟨l,rfl⟩:=zk3 els fun row hr=>h row (Yn _ hr);obtain⟨n,rfl,hw⟩:=h r Yz;have h1:0≤n∧n<4294967296:=by
   simp[Lit.wf,IntKind.min,IntKind.max,IntKind.signed,IntKind.bits]at hw;omega
  refine⟨w32 n.toNat::l,?_⟩;have:(w32 n.toNat).toNat=n.toNat:=zag (by omega);simp only[Zb,Y0,this,u32];rw[Int.toNat_of_nonneg h1.1]
theorem zy1{P:Program}{ν:Nat→FuncId}{T:Tbl}(hT:TOk P ν T)(hm:P.follows .mixedOrders=true){u:Nat}{af:AFx}{xs ys:List AV}{r:AV}(hu:T u=some af)(hl:af.lent=none)(h:Za T u ys=some r)(hx:xs.map wkA=ys):Zae P (ν u) xs (·=r):=by
 subst hx;have h1:=zh1 hT hm hu hl h;exact Zae.wk (ex:=false) h1
end Go.Ab
end
section
namespace Go.Ab
abbrev Fz:=Bool×List UInt32×List UInt32
abbrev Zdi(x:Fz):List AV:=[.b x.1,.sl (Zb x.2.1) .an,.sl (Zb x.2.2) .an]
abbrev efz(x:Fz):AV:=.agg (Zdi x)
def fv(x:Fz):Rat:=mkRat (wv x.1 x.2.1) (val x.2.2)
def fz(q:Rat):Fz:=(decide (q.num<0),ofN q.num.natAbs,ofN q.den)
@[simp] theorem zcz(q:Rat):fv (fz q)=q:=by
 unfold fv fz;rw[zg2,zae,Rat.mkRat_self]
def fsz(x:Fz):Nat:=max x.2.1.length x.2.2.length
theorem zd3(x:Fz):x.2.1.length≤fsz x:=Yd8 ..
theorem zek(x:Fz):x.2.2.length≤fsz x:=Ydy ..
def sz(q:Rat):Nat:=max (ofN q.num.natAbs).length (ofN q.den).length
theorem zf8(q:Rat):(ofN q.num.natAbs).length≤sz q:=Yd8 ..
theorem ze9(q:Rat):(ofN q.den).length≤sz q:=Ydy ..
theorem zpg{n:Nat}(h:n≠0):1≤(ofN n).length:=by
 have:ofN n≠[]:=fun e=>h (zap.1 e);exact Yby.2 this
theorem z1o(q:Rat):1≤sz q:=Yc (zpg q.den_nz) (ze9 q)
theorem z1p{z:Int}{d:Nat}(h:d≠0):(mkRat z d).num.natAbs=z.natAbs/Nat.gcd z.natAbs d:=by
 rw[Rat.num_mkRat,if_neg h,Int.natAbs_ediv_of_dvd (Int.ofNat_dvd_left.2 (Nat.gcd_dvd_right ..)),Ydl,Ycj]
theorem z1q{z:Int}{d:Nat}(h:d≠0):(mkRat z d).den=d/Nat.gcd z.natAbs d:=by
 rw[Rat.den_mkRat,if_neg h,Ycj]
theorem z1r{z:Int}{d:Nat}(h:d≠0):sgI (mkRat z d).num=sgI z:=by
 rw[Rat.num_mkRat,if_neg h];have hg:0<Nat.gcd d z.natAbs:=Nat.gcd_pos_of_pos_left _ (Yar h);obtain⟨k,hk⟩:((Nat.gcd d z.natAbs:Nat):Int) ∣ z:=Int.ofNat_dvd_left.2 (Nat.gcd_dvd_right ..);generalize Nat.gcd d z.natAbs=g at *
 have hg':(0:Int)<g:=by omega
 subst hk;rw[Int.mul_ediv_cancel_left _ (by omega)];unfold sgI;rcases Int.lt_trichotomy k 0 with h1 | h1 | h1
 ·have:=Int.mul_neg_of_pos_of_neg hg' h1;rw[if_pos h1,if_pos this]
 ·subst h1;simp
 ·have:=Int.mul_pos hg' h1;rw[if_neg (by omega),if_neg (by omega),if_neg (by omega),if_neg (by omega)]
theorem zx0(z:Int):decide (z<0)=decide (sgI z<0):=by
 unfold sgI;split
 ·simp[*]
 ·split<;>simp[*]
theorem z95{z:Int}{d:Nat}(h:d≠0):decide ((mkRat z d).num<0)=decide (z<0):=by
 rw[zx0,zx0 z,z1r h]
theorem z96(n:Bool)(x:Nat){d:Nat}(h:d≠0):fz (mkRat (sg n x) d)=(n&&decide (x≠0),ofN (x/Nat.gcd x d),ofN (d/Nat.gcd x d)):=by
 unfold fz;rw[z95 h,z1p h,z1q h,z1m,zqx]
theorem zel:ofN 1=[1]:=by
 rw[zgq (by decide),show 1/4294967296=0 from rfl,zli]
 rfl
theorem zph:fz 0=(false,[],[1]):=by
 unfold fz;rw[Rat.zero_num,Rat.zero_den,zel];simp
theorem z4r:sz 0=1:=by
 unfold sz;rw[Rat.zero_num,Rat.zero_den,zel];simp
theorem zx1:sz 1=1:=by
 unfold sz;rw[Rat.one_num,Rat.one_den,show (1:Int).natAbs=1 from rfl,zel]
 rfl
theorem zbe(q:Rat):fsz (fz q)=sz q:=rfl
theorem z4s{z:Int}{d L:Nat}(hz:(ofN z.natAbs).length≤L)(hd:(ofN d).length≤L)(h1:1≤L):sz (mkRat z d)≤L:=by
 unfold sz;by_cases h:d=0
 ·subst h;rw[Ye8,Rat.zero_num,Rat.zero_den,zel];simp;omega
 ·rw[z1p h,z1q h];exact Yfc.2 ⟨Yc (zar (Ybj _ _)) hz,Yc (zar (Ybj _ _)) hd⟩
theorem zdc{x:Fz}{L:Nat}(h:fsz x≤L)(h1:1≤L):sz (fv x)≤L:=
 z4s (Yc (zcf _ _) (Yc (zd3 x) h)) (Yc (zad _) (Yc (zek x) h)) h1
theorem zbo{x y L M:Nat}(hx:(ofN x).length≤L)(hy:(ofN y).length≤M):(ofN (x*y)).length≤L+M:=by
 have:=zbg (x:=(x:Int)) (y:=(y:Int)) (L:=L) (M:=M) (by simpa using hx) (by simpa using hy);simpa[Int.natAbs_mul]using this
theorem zx2(p q:Rat):sz (p+q)≤sz p+sz q+1:=by
 rw[Rat.add_def'];have h1:=zf8 p;have h2:=ze9 p;have h3:=zf8 q;have h4:=ze9 q;have h5:=z1o p;refine z4s ?_ (Yc (zbo h2 h4) (by omega)) (by omega);refine zb5 ?_ ?_
 ·exact zbg h1 (by simpa using h4)
 ·rw[Ya8];exact zbg h3 (by simpa using h2)
theorem z97(p q:Rat):sz (p*q)≤sz p+sz q:=by
 rw[Rat.mul_def'];have h1:=zf8 p;have h2:=ze9 p;have h3:=zf8 q;have h4:=ze9 q;have h5:=z1o p;exact z4s (zbg h1 h3) (zbo h2 h4) (by omega)
theorem z1s(p:Rat):sz (-p)=sz p:=by
 unfold sz;rw[Rat.neg_num,Rat.neg_den,Int.natAbs_neg]
def sgQ(q:Rat):Int:=sgI q.num
theorem z1t{z:Int}{d:Nat}(h:d≠0):sgQ (mkRat z d)=sgI z:=z1r h
theorem zqz{z:Int}:sgI z=0↔z=0:=by
 unfold sgI;split
 ·constructor<;>intro h<;>omega
 ·split<;>constructor<;>intro h<;>omega
theorem z4t{z:Int}:0<sgI z↔0<z:=by
 unfold sgI;split
 ·constructor<;>intro h<;>omega
 ·split<;>constructor<;>intro h<;>omega
theorem z4u{z:Int}:sgI z<0↔z<0:=by
 unfold sgI;split
 ·constructor<;>intro h<;>omega
 ·split<;>constructor<;>intro h<;>omega
theorem zq0{q:Rat}:sgQ q=0↔q=0:=by
 unfold sgQ;rw[zqz,Rat.num_eq_zero]
theorem z4v{q:Rat}:0<sgQ q↔0<q:=by
 unfold sgQ;rw[z4t,Rat.lt_iff];simp
theorem z4w{q:Rat}:sgQ q<0↔q<0:=by
 unfold sgQ;rw[z4u,Rat.lt_iff];simp
def Zd(l:List Fz):List (List AV):=l.map Zdi
@[simp] theorem zpi(l:List Fz):(Zd l).length=l.length:=by simp[Zd]
@[simp] theorem z4x(l:List Fz):wkL (Zd l)=Zd l:=by rw[zce];simp[Zd,wkR,wkA]
@[simp] theorem zada(l:List Fz)(i:Nat)(h:i<(Zd l).length):(Zd l)[i]=Zdi (l[i]'(by simpa using h)):=by simp[Zd]
theorem zn0(l:List Fz)(x:Fz):Zd l++[Zdi x]=Zd (l++[x]):=by simp[Zd]
theorem z0q(l:List Fz)(i:Nat)(x:Fz):(Zd l).set i (Zdi x)=Zd (l.set i x):=by simp[Zd,Yds]
@[simp] theorem z98(l:List Fz)(n:Nat):(Zd l).take n=Zd (l.take n):=by simp[Zd]
@[simp] theorem z99(l:List Fz)(n:Nat):(Zd l).drop n=Zd (l.drop n):=by simp[Zd]
@[simp] theorem za8:Zd []=[]:=rfl
def Zt(m:List (List Fz)):List (List AV):=m.map fun r=>[.sl (Zd r) .an]
@[simp] theorem z4y(l:List (List Fz)):(Zt l).length=l.length:=by simp[Zt]
@[simp] theorem z4z(l:List (List Fz)):wkL (Zt l)=Zt l:=by rw[zce];simp[Zt,wkR,wkA]
@[simp] theorem zadb(l:List (List Fz))(i:Nat)(h:i<(Zt l).length):(Zt l)[i]=[.sl (Zd (l[i]'(by simpa using h))) .an]:=by simp[Zt]
theorem zx3(l:List (List Fz))(r:List Fz):Zt l++[[.sl (Zd r) .an]]=Zt (l++[r]):=by simp[Zt]
@[simp] theorem zaaa(l:List (List Fz))(n:Nat):(Zt l).take n=Zt (l.take n):=by simp[Zt]
@[simp] theorem zll:Zt []=[]:=rfl
end Go.Ab
end
section
namespace Go.Ab
abbrev tyF:Ty:=.cons .bool (.cons (.sl (.int .u32)) (.cons (.sl (.int .u32)) .nil))
theorem z9j{cs:List AV}(h:Ok tyF cs):∃x:Fz,wkR cs=Zdi x:=by
 obtain⟨c1,c2,rfl,⟨b,rfl⟩,c3,c4,rfl,⟨els,f,rfl,_,_,he⟩,c5,c6,rfl,⟨els2,f2,rfl,_,_,he2⟩,rfl⟩:=h;obtain⟨l,rfl⟩:=zk3 els he;obtain⟨l2,rfl⟩:=zk3 els2 he2;refine⟨(b,l,l2),?_⟩;simp[wkA,wkR]
theorem zmt:∀(els:List (List AV)),(∀r∈els,Ok tyF r)→∃l:List Fz,wkL els=Zd l
 | [],_=>⟨[],rfl⟩
 | r::els,h=>by
  obtain⟨l,hl⟩:=zmt els fun r hr=>h r (Yn _ hr);obtain⟨x,hx⟩:=z9j (h r Yz);refine⟨x::l,?_⟩;simp only[wkL,hx,hl]
  rfl
theorem zfu{cs:List AV}(h:Ok (.sl tyF) cs):∃l:List Fz,wkR cs=[.sl (Zd l) .an]:=by
 obtain⟨els,f,rfl,_,_,he⟩:=h;obtain⟨l,hl⟩:=zmt els he;exact⟨l,by simp[wkR,wkA,hl]⟩
theorem zmu:∀(els:List (List AV)),(∀r∈els,Ok (.sl tyF) r)→∃m:List (List Fz),wkL els=Zt m
 | [],_=>⟨[],rfl⟩
 | r::els,h=>by
  obtain⟨m,hm⟩:=zmu els fun r hr=>h r (Yn _ hr);obtain⟨l,hl⟩:=zfu (h r Yz);refine⟨l::m,?_⟩;simp only[wkL,hl,hm]
  rfl
theorem zrv{P:Program}{ν:Nat→FuncId}{l l':List (Nat×AFx)}(hT:TOk P ν fun u=>l'.lookup u)(hp:Part l l')(hm:P.follows .mixedOrders=true){u:Nat}{af:AFx}{xs ys:List AV}{r:AV}
  (hu:l'.lookup u=some af) (hl:af.lent=none) (h:Za (fun u=>l.lookup u) u ys=some r) (hx:xs.map wkA=ys):Zae P (ν u) xs (·=r):=
 zy1 hT hm hu hl (hp.call (by rw[hu];rfl) h) hx
end Go.Ab
end
section
namespace Go.Proofs.YtoaggbmfmgfnpaaGreatDoor
open Go Go.Ab Go.RowKit
def Zcr:ByteArray:=⟨#[43,45,42,47,94,40,41,91,93,44,59,61]⟩
theorem signS_lt:∀(p:Nat) (h:p<Zcr.size),(Zcr[p]'h).toNat<128:=by decide
theorem sign_at(c:Nat)(hc:c<256):Zhh.contains (UInt8.ofNat c)=decide (∃p,∃h:p<Zcr.size,(Zcr[p]'h).toNat=c):=by
 rw[Ycb,decide_eq_true_iff];have:∀c,c<256→(Zhh.contains (UInt8.ofNat c)=true↔∃p,∃h:p<Zcr.size,(Zcr[p]'h).toNat=c):=by decide +kernel
 exact this c hc
set_option maxHeartbeats 1000000 in
set_option maxRecDepth 100000 in
theorem sign_calls(c:Nat)(hc:c<256)(w:World):Calls Tryz.prog 222 #[.int .u8 (c:Int)] w fun e w'=>e=.returned (.bool (Zhh.contains (UInt8.ofNat c)))∧Below w.heap.size w w':=by
 rw[sign_at c hc]
 go_enter Tryz.func222,Tryz.ntmps222
 go_wp2
 go_loopw [] (fun wr=>∃pos:Nat,wr.heap[w.heap.size]? = some (.stringIter Zcr pos)∧Below w.heap.size w wr∧∀j,j<pos→∀h:j<Zcr.size,(Zcr[j]'h).toNat≠c) (fun wr=>Zcr.size-wr.iterPos w.heap.size)
 case atStart=>
  refine⟨0,World.iter_heap w Zcr 0,?_,fun j hj=>absurd hj (Nat.not_lt_zero _)⟩;exact(Below.refl _ w).alloc (Yd _) _
 case round=>
  obtain⟨pos,hit,hbw,hne⟩:=hrel;by_cases hp:pos<Zcr.size
  ·have hnx:∀ty,(Instr.next (.pointer (some ⟨w.heap.size,0,none⟩)) true ty).run Tryz.prog wr=_:=fun ty=>Lib.run_next_ascii_at wr w.heap.size Zcr pos ty hit hp (signS_lt pos hp);have hit2:=Lib.iterAt_heap wr w.heap.size Zcr pos (pos+1) hit;have hbw2:=Lib.below_iterAt hbw (k:=w.heap.size) (Yd _) Zcr (pos+1);obtain⟨x,hx⟩:∃x:Nat,(Zcr[pos]'hp).toNat=x:=⟨_,rfl⟩;have hx1:=signS_lt pos hp;rw[hx]at hnx hx1;have hwr:IntKind.u8.wrap (x:Int)=(x:Int):=by rw[IntKind.wrap_u8];omega
   by_cases hxc:x=c
   ·subst hxc
    go_wp2
    go_ret
    exact⟨by rw[decide_eq_true ⟨pos,hp,hx⟩];rfl,hbw2⟩
   ·have hxc':¬ (x:Int)=(c:Int):=by omega
    go_wp2
    go_roundw
    case rel=>
     refine⟨pos+1,hit2,hbw2,fun j hj h=>?_⟩;rcases Yo j pos with h1 | h1
     ·exact hne j h1 h
     ·obtain rfl:j=pos:=by omega
      rw[hx];exact hxc
    case measure=>
     simp only[World.iterPos,hit2,hit];omega
  ·have hnx:∀ty,(Instr.next (.pointer (some ⟨w.heap.size,0,none⟩)) true ty).run Tryz.prog wr=_:=fun ty=>Lib.run_next_end_at wr w.heap.size Zcr pos ty hit hp
   go_wp2
   go_ret
   have hno:¬ ∃p,∃h:p<Zcr.size,(Zcr[p]'h).toNat=c:=by
    rintro⟨p,h,hpc⟩
    exact hne p (by omega) h hpc
   exact⟨by rw[decide_eq_false hno];rfl,hbw⟩
theorem sign_ok:∀xs r,prim187 xs=some r→Zae Tryz.prog (nu 187) xs (·=r):=by
 have e:nu 187=222:=by kernel_rfl
 rw[e];intro xs r h;unfold prim187 at h;split at h
 ·rename_i n;split at h
  ·rename_i hn;cases h;refine⟨enters_of Tryz.func222 (by kernel_rfl) rfl,fun w S cargs hsz hC hS=>?_⟩;obtain⟨v0,rfl⟩:=one_arg hsz;have c0:v0=.int .u8 n:=by
    have:=hC 0 _ _ rfl rfl;cases this
    rfl
   subst c0;obtain⟨c,rfl⟩:∃c:Nat,n=c:=⟨n.toNat,by omega⟩;refine(sign_calls c (by omega) w).mono ?_
   rintro e w' ⟨rfl,hb⟩
   refine⟨_,_,rfl,?_,hb,.b _⟩;rw[Yco]
   rfl
  ·cases h
 ·cases h
abbrev tyW:Ty:=.cons (.int .i64) (.cons .str (.cons (.int .i64) .nil))
end Go.Proofs.YtoaggbmfmgfnpaaGreatDoor
end
section
namespace Go.Ab
theorem cop2{X:Nat}(h:X%2=1)(k:Nat):Nat.Coprime (2^k) X:=by
 refine Nat.Coprime.pow_left k ?_;unfold Nat.Coprime;rw[Ye9,h]
 rfl
theorem zi2{k m Y:Nat}(hY:Y%2=1):Nat.gcd (2^k*m) Y=Nat.gcd m Y:=Nat.Coprime.gcd_mul_left_cancel m (cop2 hY k)
theorem z40{m n X Y:Nat}(hX:X%2=1)(hY:Y%2=1):Nat.gcd (2^m*X) (2^n*Y)=2^(min m n)*Nat.gcd X Y:=by
 rcases Nat.le_total m n with h | h
 ·rw[Ybs h,show n=m+(n-m) by omega,Ybh,Yad,Nat.gcd_mul_left,Ycj X,zi2 hX,Ycj Y]
 ·rw[Nat.min_eq_right h,show m=n+(m-n) by omega,Ybh,Yad,Nat.gcd_mul_left,zi2 hY]
theorem zq1{X Y k m:Nat}(hY:Y%2=1)(h:Y≤X)(e:X-Y=2^k*m):Nat.gcd m Y=Nat.gcd X Y:=by
 rw[←zi2 hY (k:=k),←e,Nat.gcd_sub_self_left h]
theorem z0r{n:Nat}(h:n≠0):∃k m,n=2^k*m∧m%2=1:=by
 induction n using Nat.strongRecOn with
 | _ n ih=>
  by_cases h2:n%2=1
  ·exact⟨0,n,by simp,h2⟩
  ·obtain⟨k,m,e,hm⟩:=ih (n/2) (by omega) (by omega);refine⟨k+1,m,?_,hm⟩;rw[Y4,Yae (2^k),Yad,←e];omega
end Go.Ab
end
section
namespace Go.Ab
section
variable{T:Tbl}
theorem zi8(G:Nat):∀y:Nat×Nat,(y.1<18446744073709551616∧y.2<18446744073709551616∧Nat.gcd y.1 y.2=G) →
  Zf T 0 0 (.norm false [0]) l198_0 ⟨[(0,u64 y.1),(1,u64 y.2)],[],2⟩=some (.n,⟨[(0,u64 G)],[],2⟩):=by
 refine zaq (fun y:Nat×Nat=>⟨[(0,u64 y.1),(1,u64 y.2)],[],2⟩) _ (fun y=>y.2) _ ?_
 rintro⟨x,y⟩ ⟨hx,hy,hG⟩
 simp only at hx hy hG ⊢;by_cases h:y=0
 ·right;subst h;rw[Yek]at hG;subst hG;constructor<;>simp -implicitDefEqProofs[l198_0]
 ·left;have hm:=Ya7 x (Yar h);refine⟨(y,x%y),⟨hy,by simp only;omega,by simp only;rw[←hG,Ycj y,←Ye9,Ycj]⟩,hm,?_,trivial⟩;simp -implicitDefEqProofs[l198_0,h]
end
section
variable{T:Tbl}[Zl T]
theorem zmv(x y:Nat)(hx:x<18446744073709551616)(hy:y<18446744073709551616):Za T 198 [u64 x,u64 y]=some (u64 (Nat.gcd x y)):=by
 have h:=zi8 (T:=T) (Nat.gcd x y) (x,y) ⟨hx,hy,rfl⟩;simp only at h;rw[zab Zl.h198 rfl,b198];simp -implicitDefEqProofs[h]
theorem zrx(a:List UInt32):Za T 200 [.sl (Zb (ofN (val a))) .an]=some (.b (decide (val a=1))):=by
 rw[zab Zl.h200 rfl,b200];generalize val a=n;by_cases h0:n=0
 ·subst h0;simp -implicitDefEqProofs
 ·rw[zgq h0];by_cases h1:n/4294967296=0
  ·have e:ofN (n/4294967296)=[]:=zap.2 h1;have e2:n%4294967296=n:=Yf (by omega);simp -implicitDefEqProofs[e,Zb,zbx,e2]
  ·have h2:¬ ofN (n/4294967296)=[]:=fun e=>h1 (zap.1 e);have h3:¬ n=1:=by rintro rfl;simp at h1
   have h4:¬ ((ofN (n/4294967296)).length:Int)+1=1:=by
    have:=Yby.2 h2;omega
   simp -implicitDefEqProofs[Zb,h3,h4]
end
section
variable{T:Tbl}[Zq T][Zw T][Zz T][Zs T][Zu T][Zl T]
theorem zy3(G:Nat):∀y:List UInt32×List UInt32,(y.1.length≤90000∧y.2.length≤90000∧(∃n,y.1=ofN n)∧(∃n,y.2=ofN n)∧Nat.gcd (val y.1) (val y.2)=G) →
  ∃r,(∃a b:List UInt32,r=(Ex.n,(⟨[(0,.sl (Zb a) .an),(1,.sl (Zb b) .an)],[],2⟩:St))∧a.length≤90000∧b.length≤2∧(∃n,a=ofN n)∧(∃n,b=ofN n)∧Nat.gcd (val a) (val b)=G) ∧
   Zf T 0 0 (.norm false [0,1]) l199_0 ⟨[(0,.sl (Zb y.1) .an),(1,.sl (Zb y.2) .an)],[],2⟩=some r:=by
 refine zas (fun y:List UInt32×List UInt32=>⟨[(0,.sl (Zb y.1) .an),(1,.sl (Zb y.2) .an)],[],2⟩) _ (fun y=>val y.2) _ ?_
 rintro⟨a,b⟩ ⟨ha,hb,hk,hn,hG⟩
 simp only at ha hb hk hn hG ⊢;by_cases h:2<b.length
 ·left;have h':(2:Int)<b.length:=by omega
  have hv:val b≠0:=by
   obtain⟨n,rfl⟩:=hn;rw[zae]
   rintro rfl
   simp at h
  have hd:=zf0 (T:=T) a b ha hb;rw[if_neg hv]at hd;have hm:=Ya7 (val a) (Yar hv);refine⟨(b,ofN (val a%val b)),⟨hb,?_,hn,⟨_,rfl⟩,?_⟩,?_,?_⟩
  ·have:=zar (Ycq hm);have:=zad b;simp only;omega
  ·simp only;rw[zae,←hG,Ycj (val b),←Ye9,Ycj]
  ·simp only[zae];exact hm
  ·clear hG hm hn hv hk;simp -implicitDefEqProofs[l199_0,h',hd]
 ·right;have h':¬ (2:Int)<b.length:=by omega
  refine⟨_,⟨a,b,rfl,ha,by omega,hk,hn,hG⟩,?_,?_⟩<;>clear hG<;>simp -implicitDefEqProofs[l199_0,h']
theorem zor(a b:List UInt32)(ha:a.length≤90000)(hb:b.length≤90000):Za T 199 [.sl (Zb a) .an,.sl (Zb b) .an]=some (.sl (Zb (ofN (Nat.gcd (val a) (val b)))) .an):=by
 have h1:=zbf (T:=T) a (by omega);have h2:=zbf (T:=T) b (by omega);have la:=zad a;have lb:=zad b;obtain⟨G,hG⟩:∃G,G=Nat.gcd (val a) (val b):=⟨_,rfl⟩;obtain⟨_,⟨x,y,rfl,hx,hy,⟨m,rfl⟩,⟨n,rfl⟩,hg⟩,hr⟩:=zy3 (T:=T) G (ofN (val a),ofN (val b)) ⟨by simp only;omega,by simp only;omega,⟨_,rfl⟩,⟨_,rfl⟩,by simp only[zae];exact hG.symm⟩;simp only at hr;rw[zae,zae]at hg;rw[zab Zl.h199 rfl,b199,←hG];clear hG;by_cases h0:n=0
 ·subst h0;rw[Yek]at hg;subst hg;simp -implicitDefEqProofs[h1,h2,hr]
 ·have hv:val (ofN n)≠0:=by rw[zae];exact h0
  have hd:=zf0 (T:=T) (ofN m) (ofN n) hx (by omega);rw[if_neg hv,zae,zae]at hd;have hn64:n<18446744073709551616:=by
   have:=zax (ofN n);rw[zae]at this;exact Yq this (Ym (by decide) hy)
  have hm:=Ya7 m (Yar h0);have s1:=zm5 (T:=T) (ofN n) (by omega);rw[zae,if_pos hn64]at s1;have s2:=zm5 (T:=T) (ofN (m%n)) (by have:=zar (Ycq hm);omega);rw[zae,if_pos (by omega)]at s2;have s3:=zmv (T:=T) n (m%n) hn64 (by omega);have e:Nat.gcd n (m%n)=G:=by rw[←hg,Ycj n,←Ye9,Ycj]
  rw[e]at s3;have s4:=zef (T:=T) G (by
   rw[←hg];exact Ycw (Nat.gcd_le_right _ (Yar h0)) hn64)
  have hl:¬ ofN n=[]:=fun e=>h0 (zap.1 e);simp -implicitDefEqProofs[h1,h2,hr,hd,s1,s2,s3,s4,hl,h0]
theorem zi9(a b:List UInt32)(ha:a.length≤90000)(hb:b.length≤90000):Za T 201 [.sl (Zb a) .an,.sl (Zb b) .an] =
  some (.tup [.sl (Zb (ofN (val a/Nat.gcd (val a) (val b)))) .an,.sl (Zb (ofN (val b/Nat.gcd (val a) (val b)))) .an]):=by
 have hg:=zor (T:=T) a b ha hb;have ho:=zrx (T:=T) (ofN (Nat.gcd (val a) (val b)));rw[zae]at ho;have ll:(ofN (Nat.gcd (val a) (val b))).length≤90000:=by
  by_cases h:val a=0
  ·rw[h,Nat.gcd_zero_left];have:=zad b;omega
  ·have:=zar (Nat.gcd_le_left (val b) (Yar h));have:=zad a;omega
 have d1:=zf0 (T:=T) a (ofN (Nat.gcd (val a) (val b))) ha ll;have d2:=zf0 (T:=T) b (ofN (Nat.gcd (val a) (val b))) hb ll;have n1:=zbf (T:=T) a (by omega);have n2:=zbf (T:=T) b (by omega);rw[zae]at d1 d2;rw[zab Zl.h201 rfl,b201];by_cases h0:Nat.gcd (val a) (val b)=0
 ·rw[h0]at hg ⊢;simp only[zli]at hg;simp -implicitDefEqProofs[hg]
 ·rw[if_neg h0]at d1 d2;have hl:¬ ofN (Nat.gcd (val a) (val b))=[]:=fun e=>h0 (zap.1 e);by_cases h1:Nat.gcd (val a) (val b)=1
  ·rw[h1]at hg ho hl ⊢;simp -implicitDefEqProofs[hg,ho,n1,n2,hl]
  ·generalize Nat.gcd (val a) (val b)=g at *
   simp -implicitDefEqProofs[hg,ho,d1,d2,hl,h0,h1]
end
end Go.Ab
end
section
namespace Go.Ab
section
variable{T:Tbl}[Ze T]
theorem za7(n:Bool)(k:Nat):Za T 55 [.b n,.sl (Zb (ofN k)) .an]=some (ez (sg n k)):=by
 rw[zab Ze.h55 rfl,b55,z4q];have h:(0<(ofN k).length)=(k≠0):=by
  rw[eq_iff_iff,Yby];exact not_congr zap
 cases n<;>simp -implicitDefEqProofs[h]
end
section
variable{T:Tbl}[Zq T][Ze T]
theorem ztc(n:Bool)(a:List UInt32)(ha:a.length≤1000000):Za T 38 [wh n a]=some (ez (wv n a)):=by
 have h:=zbf (T:=T) a (by omega);have hs:=za7 (T:=T) n (val a);rw[zab Ze.h38 rfl,b38];simp -implicitDefEqProofs[h,hs,wv]
end
section
variable{T:Tbl}[Zq T][Ze T]
theorem zxt(n:Bool)(a:List UInt32)(ha:a.length≤1000000):Za T 40 [wh n a]=some (ez (-wv n a)):=by
 have h:=zbf (T:=T) a (by omega);have hs:=za7 (T:=T) (!n) (val a);rw[z1n]at hs;rw[zab Ze.h40 rfl,b40];simp -implicitDefEqProofs[h,hs,wv]
end
section
variable{T:Tbl}[Zq T][Ze T]
theorem zke(n m:Bool)(a b:List UInt32)(ha:a.length≤90000)(hb:b.length≤90000):Za T 23 [wh n a,wh m b]=some (ez (wv n a+wv m b)):=by
 rw[zab Ze.h23 rfl,b23];by_cases h:n=m
 ·subst h;have hn:=zqp (T:=T) [a,b] (by simp) (by simp;omega);have hs:=za7 (T:=T) n (val a+val b);rw[ziz]at hs;have e:lls [a,b]=[[.sl (Zb a) .an],[.sl (Zb b) .an]]:=rfl;have e2:Zdw [a,b]=val a+val b:=by simp[Zdw]
  rw[e,e2]at hn;simp -implicitDefEqProofs[hn,hs,wv]
 ·have hg:=z3j (T:=T) a b (by omega) (by omega);by_cases hlt:val a<val b
  ·have hs:=za7 (T:=T) m (val b-val a);rw[zny h hlt]at hs;simp -implicitDefEqProofs[h,hg,hlt,zcu,hs,wv]
  ·have hs:=za7 (T:=T) n (val a-val b);rw[znz h hlt]at hs;simp -implicitDefEqProofs[h,hg,hlt,zcu,hs,wv]
end
section
variable{T:Tbl}[Zq T][Ze T]
theorem ztd(n m:Bool)(a b:List UInt32)(ha:a.length≤90000)(hb:b.length≤90000):Za T 25 [wh n a,wh m b]=some (ez (wv n a-wv m b)):=by
 obtain⟨z,hz⟩:∃z,z=-wv m b:=⟨_,rfl⟩;have h1:=zxt (T:=T) m b (by omega);have hl:=zcf m b;rw[←zi1,←hz]at hl;have h2:=zke (T:=T) n (decide (z<0)) a (ofN z.natAbs) (by omega) (by omega);have e:wv n a-wv m b=wv n a+z:=by omega
 rw[zg2,←e]at h2;rw[←hz]at h1;rw[zab Ze.h25 rfl,b25];simp -implicitDefEqProofs[h1,h2]
end
section
variable{T:Tbl}[Zw T][Ze T]
theorem zns(n m:Bool)(a b:List UInt32)(ha:a.length≤100000)(hb:b.length≤100000):Za T 27 [wh n a,wh m b]=some (ez (wv n a*wv m b)):=by
 have h1:=zfz (T:=T) a b ha hb;have hs:=za7 (T:=T) (n != m) (val a*val b);rw[z93]at hs;rw[zab Ze.h27 rfl,b27];simp -implicitDefEqProofs[h1,hs,wv]
end
section
variable{T:Tbl}[Zq T][Ze T]
theorem zgp(n:Bool)(a:List UInt32)(ha:a.length≤1000000):Za T 37 [wh n a]=some (.i .i64 (sgI (wv n a))):=by
 have h1:=zev (T:=T) a (by omega);rw[zab Ze.h37 rfl,b37];unfold wv;rw[z94];by_cases h:val a=0
 ·simp -implicitDefEqProofs[h1,h]
 ·cases n<;>simp -implicitDefEqProofs[h1,h]
end
section
variable{T:Tbl}[Zq T][Ze T]
theorem zte(n m:Bool)(a b:List UInt32)(ha:a.length≤90000)(hb:b.length≤90000):Za T 36 [wh n a,wh m b]=some (.i .i64 (sgI (wv n a-wv m b))):=by
 have h1:=ztd (T:=T) n m a b ha hb;have hl:=zb5 (x:=wv n a) (y:=-wv m b) (L:=90000) (by have:=zcf n a;omega) (by rw[zi1];have:=zcf m b;omega);rw[←Int.sub_eq_add_neg]at hl;have h2:=zgp (T:=T) (decide (wv n a-wv m b<0)) (ofN (wv n a-wv m b).natAbs) (show (ofN (wv n a-wv m b).natAbs).length≤1000000 by omega);rw[zg2]at h2;rw[zab Ze.h36 rfl,b36];simp -implicitDefEqProofs[h1,h2]
end
section
variable{T:Tbl}[Zq T][Ze T]
theorem z0j(k:Int)(h1:-9223372036854775808≤k)(h2:k<9223372036854775808):Za T 41 [.i .i64 k]=some (ez k):=by
 rw[zab Ze.h41 rfl,b41];by_cases h:k<0
 ·have hn:=zef (T:=T) k.natAbs (by omega);have hs:=za7 (T:=T) true k.natAbs;have e:sg true k.natAbs=k:=by simp[sg];omega
  have e2:Zdo 0 (k%18446744073709551616).toNat=k.natAbs:=by unfold Zdo;omega
  rw[e]at hs;simp -implicitDefEqProofs[h,e2,hn,hs]
 ·have hn:=zef (T:=T) k.natAbs (by omega);have hs:=za7 (T:=T) false k.natAbs;have e:sg false k.natAbs=k:=by simp[sg];omega
  have e2:(k%18446744073709551616).toNat=k.natAbs:=by omega
  rw[e]at hs;simp -implicitDefEqProofs[h,e2,hn,hs]
end
section
variable{T:Tbl}[Zq T][Zaz T][Ze T]
theorem ztf(n:Bool)(a:List UInt32)(ha:a.length≤1000):Za T 34 [wh n a]=some (.s (Zc4 (wv n a))):=by
 have h1:Za T 68 [.sl (Zb a) .an]=some (.s (Zam (val a))):=by rw[p68,znw a ha]
 have h2:=zgp (T:=T) n a (by omega);have h3:=zd0 ha;have h4:1+(Zam (val a)).length≤9223372036854775807:=by omega
 rw[zab Ze.h34 rfl,b34];unfold Zc4;rw[zxz];by_cases h:wv n a<0
 ·have h5:sgI (wv n a)=-1:=by unfold sgI;rw[if_pos h]
  simp -implicitDefEqProofs[h1,h2,h,h5,h4]
 ·have h5:¬ sgI (wv n a)<0:=by unfold sgI;rw[if_neg h];split<;>omega
  simp -implicitDefEqProofs[h1,h2,h,h5]
end
section
variable{T:Tbl}[Zw T][Zn T][Ze T]
theorem ztg(l:List UInt8)(hl:l.length≤1000000):Za T 32 [.s l]=some (.tup (if 0≤Zcf l then [wh false [],.agg [.i .i64 1,.i .i64 0,.i .i64 0,.i .i64 (Zcf l+Zdc l)]]
  else [ez (Zbi l),.agg [.i .i64 0,.i .i64 0,.i .i64 0,.i .i64 0]])):=by
 have h1:=zve (T:=T) l hl;obtain⟨l',hl'⟩:∃l',l'=if l.head? = some 45 then l.tail else l:=⟨_,rfl⟩
 have hl2:l'.length≤1000000:=by
  rw[hl'];split
  ·simp;omega
  ·exact hl
 have h2:=zh5 (T:=T) l' hl2;have hs:=za7 (T:=T) (l.head? = some 45) (rd l');have hm:(l.length:Int)-l'.length=Zdc l:=by
  rw[hl'];unfold Zdc;split
  ·rename_i h;cases l with
   | nil=>cases h
   | cons c r=>simp;omega
  ·omega
 unfold Zcf Zbi;rw[←hl']at h1 ⊢;have hw1:IntKind.wrap .i64 ((l.length:Int)-l'.length)=Zdc l:=by rw[hm];exact zac _ (by unfold Zdc;split<;>omega)
 rw[zab Ze.h32 rfl,b32];have hwb:Z7 l'≤60:=by
  unfold Z7;split
  ·omega
  ·exact ziv 0 l' (by omega)
 by_cases h0:0≤Z7 l'
 ·have hw2:IntKind.wrap .i64 (Z7 l'+Zdc l)=Z7 l'+Zdc l:=zac _ (by unfold Zdc;split<;>omega);simp -implicitDefEqProofs[h1,h2,h0,hw1,hw2,zh2]
 ·simp -implicitDefEqProofs[h1,h2,h0,hs]
end
end Go.Ab
end
section
namespace Go.Ab
section
variable{T:Tbl}[Zq T][Zw T][Zz T][Zs T][Zu T][Ze T][Zl T][Zv T]
theorem zot(p q:Int)(hp:(ofN p.natAbs).length≤90000)(hq:(ofN q.natAbs).length≤90000):Za T 23 [ez p,ez q]=some (ez (p+q)):=by
 grind[zke,zg2]
theorem zou(p q:Int)(hp:(ofN p.natAbs).length≤90000)(hq:(ofN q.natAbs).length≤90000):Za T 36 [ez p,ez q]=some (.i .i64 (sgI (p-q))):=by
 grind[zte,zg2]
theorem zr0{x d:Nat}(h:d≠0):decide (x/Nat.gcd x d≠0)=decide (x≠0):=by
 obtain⟨k,hk⟩:=Nat.gcd_dvd_left x d
 grind[Nat.mul_div_cancel_left,Nat.mul_eq_zero]
theorem zc4(n:Bool)(a d:List UInt32)(ha:a.length≤90000)(hd:d.length≤90000)(h:val d≠0) :
  Za T 202 [wh n a,.sl (Zb d) .an]=some (efz (fz (mkRat (wv n a) (val d)))):=by
 have e:=z96 n (val a) h
 change fz (mkRat (wv n a) (val d))=_ at e
 have hc:=zi9 (T:=T) a d ha hd;have hl:(ofN (val a/Nat.gcd (val a) (val d))).length≤1000000:=by
  have:=zar (Ybj (val a) (Nat.gcd (val a) (val d)));have:=zad a;omega
 have hn:=ztc (T:=T) n _ hl;have e2:wv n (ofN (val a/Nat.gcd (val a) (val d)))=sg n (val a/Nat.gcd (val a) (val d)):=by unfold wv;rw[zae]
 rw[e2,z4q,zr0 h]at hn;rw[e,zab Zv.h202 rfl,b202];simp -implicitDefEqProofs[hc,hn]
theorem zov(n:Bool)(a d:List UInt32)(ha:a.length≤10000)(hd:d.length≤10000)(h:val d≠0) :
  Za T 202 [wh n a,.sl (Zb d) .an]=some (efz (fz (mkRat (wv n a) (val d)))):=zc4 (T:=T) n a d (Yc ha (by decide)) (Yc hd (by decide)) h
theorem zbt(x:Fz)(hx:fsz x≤100000):∃y:Fz,val y.2.2≠0∧fv y=fv x∧fsz y≤max 1 (fsz x)∧Za T 203 [efz x]=some (.tup [wh y.1 y.2.1,.sl (Zb y.2.2) .an]):=by
 obtain⟨n,a,d⟩:=x;have h1:=zd3 (n,a,d);have h2:=zek (n,a,d);simp only at h1 h2;have hz:=zev (T:=T) d (by omega);by_cases h:val d=0
 ·refine⟨(false,[],[1]),by simp,?_,?_,?_⟩
  ·unfold fv;simp only[h,Ye8]
   rfl
  ·show 1≤_;omega
  ·have ho:=zef (T:=T) 1 (by decide);rw[zel]at ho;rw[zab Zv.h203 rfl,b203];simp -implicitDefEqProofs[hz,h,ho]
 ·refine⟨(n,a,d),h,rfl,by omega,?_⟩;rw[zab Zv.h203 rfl,b203];simp -implicitDefEqProofs[hz,h]
theorem zow(k:Int)(h1:-9223372036854775808≤k)(h2:k<9223372036854775808):Za T 205 [.i .i64 k]=some (efz (fz (k:Rat))):=by
 have hw:=z0j (T:=T) k h1 h2;have ho:=zef (T:=T) 1 (by decide);have e:fz (k:Rat)=(decide (k<0),ofN k.natAbs,ofN 1):=rfl;rw[e,zab Zv.h205 rfl,b205];simp -implicitDefEqProofs[hw,ho]
theorem zfv:Za T 205 [.i .i64 0]=some (efz (fz 0)):=zow 0 (by decide) (by decide)
theorem zqi:Za T 205 [.i .i64 1]=some (efz (fz 1)):=zow 1 (by decide) (by decide)
theorem zr1(x:Fz)(hx:fsz x≤90000):Za T 207 [efz x]=some (efz (fz (fv x))):=by
 obtain⟨⟨n,a,d⟩,h1,h2,h3,hp⟩:=zbt (T:=T) x (by omega);have la:=zd3 (n,a,d);have ld:=zek (n,a,d);simp only at la ld;have hc:=zc4 (T:=T) n a d (by omega) (by omega) h1;rw[←h2]
 change _=some (efz (fz (mkRat (wv n a) (val d))))
 rw[zab Zv.h207 rfl,b207];simp -implicitDefEqProofs[hp,hc]
theorem zh6(x:Fz)(hx:fsz x≤10000):Za T 207 [efz x]=some (efz (fz (fv x))):=zr1 (T:=T) x (Yc hx (by decide))
theorem zr2(x:Fz)(hx:fsz x≤90000):Za T 209 [efz x]=some (.i .i64 (sgQ (fv x))):=by
 obtain⟨⟨n,a,d⟩,h1,h2,h3,hp⟩:=zbt (T:=T) x (by omega);have la:=zd3 (n,a,d);simp only at la;have hc:=zgp (T:=T) n a (by omega);rw[←h2];unfold fv;rw[z1t h1,zab Zv.h209 rfl,b209];simp -implicitDefEqProofs[hp,hc]
theorem zvh(x:Fz)(hx:fsz x≤10000):Za T 209 [efz x]=some (.i .i64 (sgQ (fv x))):=zr2 (T:=T) x (Yc hx (by decide))
theorem zdv(n:Bool)(a d:List UInt32)(ha:a.length≤90000)(hd:d.length≤90000):Za T 210 [wh n a,.sl (Zb d) .an]=some (ez (wv n a*(val d:Int))):=by
 have hm:=zns (T:=T) n false a d (by omega) (by omega);rw[show wv false d=(val d:Int) from rfl]at hm;rw[zab Zv.h210 rfl,b210];simp -implicitDefEqProofs[hm]
theorem zvi(x x':Fz)(hx:fsz x≤30000)(hx':fsz x'≤30000):Za T 211 [efz x,efz x']=some (.i .i64 (sgQ (fv x-fv x'))):=by
 obtain⟨⟨n,a,d⟩,h1,h2,h3,hp⟩:=zbt (T:=T) x (by omega);obtain⟨⟨m,b,e⟩,h1',h2',h3',hp'⟩:=zbt (T:=T) x' (by omega);have la:=zd3 (n,a,d);have ld:=zek (n,a,d);have lb:=zd3 (m,b,e);have le:=zek (m,b,e);simp only at la ld lb le;have c1:=zdv (T:=T) n a e (by omega) (by omega);have c2:=zdv (T:=T) m b d (by omega) (by omega);have l1:(ofN (wv n a*(val e:Int)).natAbs).length≤60000:=by
  have:=zbg (x:=wv n a) (y:=(val e:Int)) (L:=30000) (M:=30000) (Yc (zcf n a) (by omega)) (Yc (zcf false e) (by omega));omega
 have l2:(ofN (wv m b*(val d:Int)).natAbs).length≤60000:=by
  have:=zbg (x:=wv m b) (y:=(val d:Int)) (L:=30000) (M:=30000) (Yc (zcf m b) (by omega)) (Yc (zcf false d) (by omega));omega
 have e1:sgQ (fv x-fv x')=sgI (wv n a*(val e:Int)-wv m b*(val d:Int)):=by
  rw[←h2,←h2',Rat.sub_eq_add_neg];unfold fv;rw[Rat.neg_mkRat,Yd9 _ _ h1 h1',z1t (Yea h1 h1'),Int.neg_mul]
  rfl
 generalize wv n a*(val e:Int)=z1 at *
 generalize wv m b*(val d:Int)=z2 at *
 have c3:=zou (T:=T) z1 z2 (by omega) (by omega);rw[e1,zab Zv.h211 rfl,b211];simp -implicitDefEqProofs[hp,hp',c1,c2,c3]
theorem zr3(x x':Fz)(hx:fsz x≤30000)(hx':fsz x'≤30000):Za T 212 [efz x,efz x']=some (.b (decide (fv x=fv x'))):=by
 have hc:=zvi (T:=T) x x' hx hx';have e:(sgQ (fv x-fv x') == 0)=decide (fv x=fv x'):=by
  grind[zq0]
 rw[zab Zv.h212 rfl,b212];simp -implicitDefEqProofs[hc,e]
theorem zec(x x':Fz)(hx:fsz x≤1000)(hx':fsz x'≤1000):Za T 212 [efz x,efz x']=some (.b (decide (fv x=fv x'))):=zr3 (T:=T) x x' (Yc hx (by decide)) (Yc hx' (by decide))
theorem zvj(x x':Fz)(hx:fsz x≤30000)(hx':fsz x'≤30000):Za T 215 [efz x,efz x']=some (efz (fz (fv x+fv x'))):=by
 obtain⟨⟨n,a,d⟩,h1,h2,h3,hp⟩:=zbt (T:=T) x (by omega);obtain⟨⟨m,b,e⟩,h1',h2',h3',hp'⟩:=zbt (T:=T) x' (by omega);have la:=zd3 (n,a,d);have ld:=zek (n,a,d);have lb:=zd3 (m,b,e);have le:=zek (m,b,e);simp only at la ld lb le;have c1:=zdv (T:=T) n a e (by omega) (by omega);have c2:=zdv (T:=T) m b d (by omega) (by omega);have c4:=zfz (T:=T) d e (by omega) (by omega);have l1:(ofN (wv n a*(val e:Int)).natAbs).length≤60000:=by
  have:=zbg (x:=wv n a) (y:=(val e:Int)) (L:=30000) (M:=30000) (Yc (zcf n a) (by omega)) (Yc (zcf false e) (by omega));omega
 have l2:(ofN (wv m b*(val d:Int)).natAbs).length≤60000:=by
  have:=zbg (x:=wv m b) (y:=(val d:Int)) (L:=30000) (M:=30000) (Yc (zcf m b) (by omega)) (Yc (zcf false d) (by omega));omega
 have l3:(ofN (val d*val e)).length≤60000:=by
  have:=zbo (x:=val d) (y:=val e) (L:=30000) (M:=30000) (Yc (zad d) (by omega)) (Yc (zad e) (by omega));omega
 have e1:fv x+fv x'=mkRat (wv n a*(val e:Int)+wv m b*(val d:Int)) (val d*val e):=by
  rw[←h2,←h2'];exact Yd9 _ _ h1 h1'
 have hne:=Yea h1 h1';generalize wv n a*(val e:Int)=z1 at *
 generalize wv m b*(val d:Int)=z2 at *
 generalize val d*val e=D at *
 have c3:=zot (T:=T) z1 z2 (by omega) (by omega);have c5:=zc4 (T:=T) (decide (z1+z2<0)) (ofN (z1+z2).natAbs) (ofN D) (by have:=zb5 l1 l2;omega) (by omega) (by rw[zae];omega);rw[zg2,zae,←e1]at c5;rw[zab Zv.h215 rfl,b215];simp -implicitDefEqProofs[hp,hp',c1,c2,c3,c4,c5]
theorem zqj(x x':Fz)(hx:fsz x≤1000)(hx':fsz x'≤1000):Za T 215 [efz x,efz x']=some (efz (fz (fv x+fv x'))):=zvj (T:=T) x x' (Yc hx (by decide)) (Yc hx' (by decide))
theorem zvk(x x':Fz)(hx:fsz x≤30000)(hx':fsz x'≤30000):Za T 217 [efz x,efz x']=some (efz (fz (fv x*fv x'))):=by
 obtain⟨⟨n,a,d⟩,h1,h2,h3,hp⟩:=zbt (T:=T) x (by omega);obtain⟨⟨m,b,e⟩,h1',h2',h3',hp'⟩:=zbt (T:=T) x' (by omega);have la:=zd3 (n,a,d);have ld:=zek (n,a,d);have lb:=zd3 (m,b,e);have le:=zek (m,b,e);simp only at la ld lb le;have c3:=zns (T:=T) n m a b (by omega) (by omega);have c4:=zfz (T:=T) d e (by omega) (by omega);have l1:(ofN (wv n a*wv m b).natAbs).length≤60000:=by
  have:=zbg (x:=wv n a) (y:=wv m b) (L:=30000) (M:=30000) (Yc (zcf n a) (by omega)) (Yc (zcf m b) (by omega));omega
 have l3:(ofN (val d*val e)).length≤60000:=by
  have:=zbo (x:=val d) (y:=val e) (L:=30000) (M:=30000) (Yc (zad d) (by omega)) (Yc (zad e) (by omega));omega
 have e1:fv x*fv x'=mkRat (wv n a*wv m b) (val d*val e):=by
  rw[←h2,←h2'];exact Rat.mkRat_mul_mkRat _ _ _ _
 have hne:=Yea h1 h1';generalize wv n a*wv m b=z at *
 generalize val d*val e=D at *
 have c5:=zc4 (T:=T) (decide (z<0)) (ofN z.natAbs) (ofN D) (by omega) (by omega) (by rw[zae];omega);rw[zg2,zae,←e1]at c5;rw[f217 _ rfl,b217];simp -implicitDefEqProofs[hp,hp',c3,c4,c5]
theorem zy7(x x':Fz)(hx:fsz x≤1000)(hx':fsz x'≤1000):Za T 217 [efz x,efz x']=some (efz (fz (fv x*fv x'))):=zvk (T:=T) x x' (Yc hx (by decide)) (Yc hx' (by decide))
end
end Go.Ab
end
section
namespace Go.Ab
def nrm(l:List Fz):List Fz:=l.map fun x=>fz (fv x)
def fzs(l:List Rat):List Fz:=l.map fz
theorem zcx{m:List Fz}{n:Nat}(h:m.length=n)(x:Fz):wkL (Zd (List.take n m)++[Zdi x])=Zd (m++[x]):=by
 rw[Yb (by omega),zn0,z4x]
theorem zbq{α β:Type}(l:List α)(f:α→β){i:Nat}(h:i<l.length):(l.take (i+1)).map f=(l.take i).map f++[f (l[i]'h)]:=by
 grind[List.take_succ_eq_append_getElem]
@[simp] theorem zwv:Zr []=[]:=rfl
def Z3(q:Rat):List UInt8:=if q.den=1 then Zc4 q.num else Zc4 q.num++47::Zam q.den
section
variable{T:Tbl}[Zq T][Zw T][Zz T][Zs T][Zu T][Zaz T][Ze T][Zl T][Zv T][Zav T][Zbf T]
theorem zij(x:Fz)(hx:fsz x≤900):Za T 251 [efz x]=some (.s (Z3 (fv x))):=by
 have h1:=zh6 (T:=T) x (by omega);have hs:=zdc (x:=x) (L:=900) hx (by decide);generalize fv x=q at *
 have l1:=zf8 q;have l2:=ze9 q;have e':fz q=(decide (q.num<0),ofN q.num.natAbs,ofN q.den):=rfl;have h2:=ztf (T:=T) (decide (q.num<0)) (ofN q.num.natAbs) (by omega);rw[zg2]at h2;have h3:=zef (T:=T) 1 (by decide);have h4:=zgk (T:=T) (ofN q.den) (ofN 1) (by omega) (by rw[zel];decide);rw[zae,zae]at h4;have h5:Za T 68 [.sl (Zb (ofN q.den)) .an]=some (.s (Zam q.den)):=by
  rw[p68,znw _ (by omega),zae]
 have t1:(Zam q.den).length≤10000:=by
  grind[zd0,zae]
 have t2:(Zc4 q.num).length≤20000:=by
  grind[zd0,zae,Zc4]
 rw[zab Zbf.h251 rfl,b251];rw[e']at h1;unfold Z3;obtain⟨D,hD⟩:∃D,D=ofN q.den:=⟨_,rfl⟩;obtain⟨A,hA⟩:∃A,A=ofN q.num.natAbs:=⟨_,rfl⟩;obtain⟨O,hO⟩:∃O,O=ofN 1:=⟨_,rfl⟩;by_cases hd:q.den=1
 ·have hc:Zcs q.den 1=0:=by rw[hd];rfl
  rw[hc]at h4;rw[if_pos hd];simp -implicitDefEqProofs[h1,h2,h3,h4]
 ·have hc:Zcs q.den 1=1:=by
   unfold Zcs;have:=q.den_pos;omega
  rw[hc]at h4;rw[if_neg hd];have b1:1+(Zam q.den).length≤9223372036854775807:=by omega
  have b2:(Zc4 q.num).length+((Zam q.den).length+1)≤9223372036854775807:=by omega
  simp -implicitDefEqProofs[h1,h2,h3,h4,h5,b1,b2]
def Zpk(n i:Nat):St:=⟨[(3,.bs (.loc 9) 1 3 0 n),(10,.i .i64 n),(11,.i .i64 i)],[(.loc 9,⟨1,.own,3,Zd (List.replicate i (fz 0))++List.replicate (n-i) [.b false,.sl [] .an,.sl [] .an]⟩)],3⟩
def Zkm(l:List Fz)(i:Nat):St:=⟨[(3,.bs (.loc 3) 1 3 0 i),(6,.sl (Zd l) .an),(7,.i .i64 l.length),(8,.i .i64 i)],[(.loc 3,⟨1,.own,3,Zd (nrm (l.take i))⟩)],3⟩
theorem zww(l:List Fz)(hl:l.length≤1000)(hw:∀x∈l,fsz x≤1000) :
  Zf T 0 0 (.norm false [3]) l266_0 (Zkm l 0)=some (.n,⟨[(3,.bs (.loc 3) 1 3 0 l.length)],[(.loc 3,⟨1,.own,3,Zd (nrm l)⟩)],3⟩):=by
 refine zay (Zkm l) l.length _ (fun i hi=>?_) ?_
 ·have hws:=zbs hi (by omega);have hn:=zh6 (T:=T) (l[i]'hi) (Yc (hw _ (Yj hi)) (by decide));have e:nrm (l.take (i+1))=nrm (l.take i)++[fz (fv (l[i]'hi))]:=zbq l _ hi;have hp:=zcx (m:=nrm (l.take i)) (n:=i) (by simp[nrm];omega) (fz (fv (l[i]'hi)));have hml:(nrm (l.take i)).length=i:=by simp[nrm];omega
  unfold Zkm;rw[e];have hb:i≤4294967295:=by omega
  simp -implicitDefEqProofs[l266_0,hi,hws,hn,hp,hml,hb]
 ·unfold Zkm;rw[Yb (Yd _)];constructor<;>simp -implicitDefEqProofs[l266_0]
theorem znj(l:List Fz)(hl:l.length≤1000)(hw:∀x∈l,fsz x≤1000):Zbk T 2266 [.sl (Zd l) .an] []=some (.bs (.loc 3) 1 3 0 l.length,[(.loc 3,⟨1,.own,3,Zd (nrm l)⟩)]):=by
 have h:=zww (T:=T) l hl hw;rw[show l266_0=l2266_0 from rfl]at h;unfold Zkm at h;simp[nrm]at h;rw[za3 Zbf.h2266 rfl,b2266];simp -implicitDefEqProofs[h,nrm]
def scl(c:Rat)(l:List Fz):List Fz:=l.map fun x=>fz (c*fv x)
def Zkn(c:Fz)(l:List Fz)(i:Nat):St:=⟨[(2,.ptr (.loc 2) 1 3 0 0),(5,.bs (.loc 5) 2 3 0 i),(8,.sl (Zd l) .an),(9,.i .i64 l.length),(10,.i .i64 i)],[(.loc 2,⟨1,.str,3,[Zdi c]⟩),(.loc 5,⟨2,.own,3,Zd (scl (fv c) (l.take i))⟩)],4⟩
theorem zsx(c:Fz)(hc:fsz c≤1000)(l:List Fz)(hl:l.length≤1000)(hw:∀x∈l,fsz x≤1000) :
  Zf T 0 0 (.norm false [5]) l269_0 (Zkn c l 0)=some (.n,⟨[(5,.bs (.loc 5) 1 3 0 l.length)],[(.loc 5,⟨1,.own,3,Zd (scl (fv c) l)⟩)],3⟩):=by
 refine zay (Zkn c l) l.length _ (fun i hi=>?_) ?_
 ·have hws:=zbs hi (by omega);have hn:=zy7 (T:=T) c (l[i]'hi) hc (hw _ (Yj hi));have e:scl (fv c) (l.take (i+1))=scl (fv c) (l.take i)++[fz (fv c*fv (l[i]'hi))]:=zbq l _ hi;have hml:(scl (fv c) (l.take i)).length=i:=by simp[scl];omega
  have hp:=zcx hml (fz (fv c*fv (l[i]'hi)));unfold Zkn;rw[e];have hb:i≤4294967295:=by omega
  simp -implicitDefEqProofs[l269_0,hi,hws,hn,hp,hml,hb]
 ·unfold Zkn;rw[Yb (Yd _)];constructor<;>simp -implicitDefEqProofs[l269_0]
theorem zwx(c:Fz)(hc:fsz c≤1000)(l:List Fz)(hl:l.length≤1000)(hw:∀x∈l,fsz x≤1000):Za T 269 [efz c,.sl (Zd l) .an]=some (.sl (Zd (scl (fv c) l)) .an):=by
 have h:=zsx (T:=T) c hc l hl hw;unfold Zkn at h;have e:scl (fv c) (l.take 0)=[]:=rfl;rw[e]at h;simp at h;have ht:List.take l.length (scl (fv c) l)=scl (fv c) l:=Yb (by simp[scl]);have hl2:(scl (fv c) l).length=l.length:=by simp[scl]
 rw[zab Zbf.h269 rfl,b269];simp -implicitDefEqProofs[h,ht,hl2]
def Zi7:List Fz→List Fz→Rat
 | x::a,y::b=>fv x*fv y+Zi7 a b
 | _,_=>0
def Zko(a b:List Fz)(i:Nat):Rat:=Zi7 (a.take i) (b.take i)
theorem znk:∀(a b:List Fz) (x y:Fz),a.length=b.length→Zi7 (a++[x]) (b++[y])=Zi7 a b+fv x*fv y
 | [],[],x,y,_=>by simp[Zi7,Rat.add_zero,Rat.zero_add]
 | u::a,v::b,x,y,h=>by
  have ih:=znk a b x y (by simpa using h);simp only[Ybd,Zi7,ih,Rat.add_assoc]
theorem z9o{a b:List Fz}(hab:a.length=b.length){i:Nat}(hi:i<a.length):Zko a b (i+1)=Zko a b i+fv (a[i]'hi)*fv (b[i]'(by omega)):=by
 grind[Zko,List.take_succ_eq_append_getElem,znk]
abbrev Zdx:List AV:=[.b false,.sl [] .an,.sl [] .an]
def Zpl(a b:List Fz)(i:Nat):St:=⟨[(1,.sl (Zd b) .an),(4,.ptr (.loc 4) 1 3 0 0),(6,.ptr (.loc 6) 2 3 0 0),(16,.sl (Zd a) .an),(17,.i .i64 a.length),(18,.i .i64 i)],
 [(.loc 4,⟨1,.str,3,[Zdx]⟩),(.loc 6,⟨2,.str,3,[Zdi (fz (Zko a b i))]⟩)],4⟩
def Zjt(a b:List Fz)(i:Nat):St:=⟨[(0,.sl (Zd a) .an),(1,.sl (Zd b) .an),(12,.i .i64 a.length),(13,.i .i64 i)],[],2⟩
theorem zwy(a b:List Fz)(hab:a.length=b.length)(hl:a.length≤1000)(ha:∀x∈a,fsz x≤1000)(hb:∀x∈b,fsz x≤1000) :
  Zf T 0 0 (.norm false []) l265_0 (Zjt a b 0)=if (a.drop 0).map fv=(b.drop 0).map fv then some (.n,⟨[],[],2⟩) else some (.r,⟨[(4,.b false)],[],2⟩):=by
 refine za0 (Zjt a b) a.length (fun i=>if (a.drop i).map fv=(b.drop i).map fv then some (.n,⟨[],[],2⟩) else some (.r,⟨[(4,.b false)],[],2⟩)) (fun i hi=>?_) ?_
 ·have hib:i<b.length:=by omega
  have hws:=zbs hi (by omega);have c:=zec (T:=T) (a[i]'hi) (b[i]'hib) (ha _ (Yj hi)) (hb _ (Yj hib));have hib':(i:Int)<b.length:=by omega
  have key:((a.drop i).map fv=(b.drop i).map fv)↔(fv (a[i]'hi)=fv (b[i]'hib)∧(a.drop (i+1)).map fv=(b.drop (i+1)).map fv):=by
   grind[List.drop_eq_getElem_cons]
  by_cases he:fv (a[i]'hi)=fv (b[i]'hib)
  ·left;refine⟨?_,by grind⟩;unfold Zjt;simp -implicitDefEqProofs[l265_0,hi,hws,c,he,hib,hib']
  ·right;rw[if_neg (fun h=>he (key.1 h).1)];unfold Zjt;constructor<;>simp -implicitDefEqProofs[l265_0,hi,c,he,hib,hib']
 ·rw[Y7,if_pos (by rw[hab,Y7])];unfold Zjt;constructor<;>simp -implicitDefEqProofs[l265_0]
theorem zf4(a b:List Fz)(hl:a.length≤1000)(ha:∀x∈a,fsz x≤1000)(hb:∀x∈b,fsz x≤1000) :
  Za T 265 [.sl (Zd a) .an,.sl (Zd b) .an]=some (.b (decide (a.map fv=b.map fv))):=by
 rw[zab Zbf.h265 rfl,b265];by_cases hab:a.length=b.length
 ·have h:=zwy (T:=T) a b hab hl ha hb;unfold Zjt at h;simp at h;have hab':(b.length:Int)=a.length:=by omega
  by_cases he:a.map fv=b.map fv
  ·simp -implicitDefEqProofs[hab',h,he]
  ·simp -implicitDefEqProofs[hab',h,he]
 ·have he:¬ a.map fv=b.map fv:=fun h=>hab (by simpa using congrArg List.length h);have hab':¬ (a.length:Int)=b.length:=by omega
  simp -implicitDefEqProofs[hab',he]
def Zat(l:List Fz):List (List UInt8):=l.map fun x=>Z3 (fv x)
def Zkp(l:List Fz)(i:Nat):St:=⟨[(3,.bs (.loc 3) 1 1 0 i),(6,.sl (Zd l) .an),(7,.i .i64 l.length),(8,.i .i64 i)],[(.loc 3,⟨1,.own,1,Zr (Zat (l.take i))⟩)],3⟩
theorem znl(l:List Fz)(hl:l.length≤1000)(hw:∀x∈l,fsz x≤400) :
  Zf T 0 0 (.norm false [3]) l274_0 (Zkp l 0)=some (.n,⟨[(3,.bs (.loc 3) 1 1 0 l.length)],[(.loc 3,⟨1,.own,1,Zr (Zat l)⟩)],3⟩):=by
 refine zay (Zkp l) l.length _ (fun i hi=>?_) ?_
 ·have hws:=zbs hi (by omega);have hn:=zij (T:=T) (l[i]'hi) (Yc (hw _ (Yj hi)) (by decide));have e:Zat (l.take (i+1))=Zat (l.take i)++[Z3 (fv (l[i]'hi))]:=zbq l _ hi;have hml:(Zat (l.take i)).length=i:=by simp[Zat];omega
  have hp:=zdj (Zat (l.take i)) (Z3 (fv (l[i]'hi)));rw[hml]at hp;unfold Zkp;rw[e];have hb:i≤4294967295:=by omega
  simp -implicitDefEqProofs[l274_0,hi,hws,hn,hp,hml,hb]
 ·unfold Zkp;rw[Yb (Yd _)];constructor<;>simp -implicitDefEqProofs[l274_0]
theorem zik{q:Rat}(h:sz q≤400):(Z3 q).length≤10000:=by
 have key:∀{a:List UInt32},a.length≤400→(Zam (val a)).length≤4000:=by
  intro a ha;obtain⟨K,hK⟩:∃K,K=3999:=⟨_,rfl⟩;have h1:=zax a;have h2:4294967296^a.length≤(10^10)^a.length:=Ydd (by decide) _;rw[←Yct]at h2;have h3:10^(10*a.length)≤10^(K+1):=Ym (by decide) (by omega);have h4:=zi0 (k:=K) (Yq h1 (Yc h2 h3));omega
 grind[zf8,ze9,zae,Zc4,Z3]
theorem zg9(l:List Fz)(hl:l.length≤1000)(hw:∀x∈l,fsz x≤400):Za T 274 [.sl (Zd l) .an]=some (.s (List.intercalate [44] (Zat l))):=by
 have h:=znl (T:=T) l hl hw;unfold Zkp at h;have e:Zat (l.take 0)=[]:=rfl;rw[e]at h;simp only[zwv,Yv]at h;have hj:Za T 183 [.sl (Zr (Zat l)) .an,.s [44]]=some (.s (List.intercalate [44] (Zat l))):=by
  grind[p183,zkj,Zat,zik,zdc]
 have ht:List.take l.length (Zr (Zat l))=Zr (Zat l):=Yb (by simp[Zat]);have hl2:(Zat l).length=l.length:=by simp[Zat]
 rw[zab Zbf.h274 rfl,b274];simp -implicitDefEqProofs[h,ht,hl2,hj]
end
end Go.Ab
end
section
namespace Go.Ab
theorem zz9{α:Type}{L acc:List α}(hl:L.length=acc.length){i:Nat}(h:i<L.length) :
  (L.take i++acc.drop i).set i (L[i]'h)=L.take (i+1)++acc.drop (i+1):=by
 rw[Yac _ _ (by simp;omega),Yai,Ybs (by omega),Yb1,Yi (show i<acc.length by omega),Yb2,Yap h,Y8]
 rfl
theorem z35{α:Type}{L acc:List α}(hl:L.length=acc.length){i:Nat}(h:i<L.length):(L.take i++acc.drop i)[i]? = some (acc[i]'(by omega)):=by
 rw[Yl (by simp;omega),Yai,Ybs (by omega),Yb1,Yah,Yx,Ya]
theorem zwz{l:List Rat}{i:Nat}{q:Rat}(h:l[i]? = some q):(fzs l)[i]? = some (fz q):=by
 unfold fzs;rw[Ybv,h]
 rfl
theorem z36(l:List Rat)(i:Nat)(q:Rat):(fzs l).set i (fz q)=fzs (l.set i q):=by
 unfold fzs;rw[Yds]
@[simp] theorem zdh(l:List Rat):(fzs l).length=l.length:=by simp[fzs]
theorem zw0(l:List Fz):nrm l=fzs (l.map fv):=by unfold nrm fzs;rw[Ybp];rfl
theorem z38(c:Rat)(l:List Fz):scl c l=fzs (l.map fun x=>c*fv x):=by unfold scl fzs;rw[Ybp];rfl
@[simp] theorem z9p(l:List Rat):(fzs l).map fv=l:=by unfold fzs;rw[Ybp];simp[Function.comp_def]
def Znj(c:Rat)(acc:List Rat)(r:List Fz):List Rat:=List.zipWith (fun q x=>q+c*fv x) acc r
def Zbn(acc:List Rat)(r:List Fz):List Rat:=List.zipWith (fun q x=>q+fv x) acc r
theorem zil{acc:List Rat}{r:List Fz}(h:r.length=acc.length):(Zbn acc r).length=acc.length:=by simp[Zbn,h]
theorem z39{acc:List Rat}{r:List Fz}{S B:Nat}(ha:∀q∈acc,sz q≤S)(hr:∀x∈r,fsz x≤B)(hB:1≤B):∀q∈Zbn acc r,sz q≤S+(B+1):=by
 intro q hq;obtain⟨i,hi,rfl⟩:=List.getElem_of_mem hq;simp only[Zbn,List.length_zipWith]at hi;simp only[Zbn,Yd1];have h1:=ha _ (Yj (show i<acc.length by omega));have h2:=zdc (hr _ (Yj (show i<r.length by omega))) hB;have h3:=zx2 (acc[i]'(by omega)) (fv (r[i]'(by omega)));omega
section
variable{T:Tbl}[Zq T][Zw T][Zz T][Zs T][Zu T][Zaz T][Ze T][Zl T][Zv T][Zav T][Zbf T]
def Zkq(k j n:Nat)(rest:List (List Fz))(r:List Fz)(L acc:List Rat)(i:Nat):St:=
 ⟨[(4,.bs (.fld (.loc 15) 3) 1 3 0 n),(17,.sl (Zt rest) .an),(18,.i .i64 k),(19,.i .i64 j),(28,.sl (Zd r) .an),(29,.i .i64 n),(30,.i .i64 i)],
  [(.fld (.loc 15) 3,⟨1,.own,3,Zd (fzs (L.take i++acc.drop i))⟩)],3⟩
theorem zw1(k j n i:Nat)(rest:List (List Fz))(r M:List Fz)(x y z:Fz)(hi:i<n)(hn:n≤1000)(hir:i<r.length)(hg:r[i]? = some x)(c1:Za T 215 [efz y,efz x]=some (efz z))(hge:M[i]? = some y)(hml:M.length=n) :
  evX (orc T) T 0 l267_0 ⟨[(4,.bs (.fld (.loc 15) 3) 1 3 0 n),(17,.sl (Zt rest) .an),(18,.i .i64 k),(19,.i .i64 j),(28,.sl (Zd r) .an),(29,.i .i64 n),(30,.i .i64 i)],[(.fld (.loc 15) 3,⟨1,.own,3,Zd M⟩)],3⟩ =
   some (.n,⟨[(4,.bs (.fld (.loc 15) 3) 1 3 0 n),(17,.sl (Zt rest) .an),(18,.i .i64 k),(19,.i .i64 j),(28,.sl (Zd r) .an),(29,.i .i64 n),(30,.i .i64 (i+1:Nat))],[(.fld (.loc 15) 3,⟨1,.own,3,Zd (M.set i z)⟩)],3⟩):=by
 have hws:=zbs hi (by omega);have hi':(i:Int)<n:=by omega
 obtain⟨_,hgE⟩:=Yu.1 hge;obtain⟨_,hgR⟩:=Yu.1 hg;have hset:=z0q M i z;simp -implicitDefEqProofs[l267_0,hi,hi',hir,hg,hgR,hws,c1,hge,hgE,hml,hset]
theorem zw2(k j:Nat)(rest:List (List Fz))(r:List Fz)(acc:List Rat)(hr:r.length=acc.length)(hn:acc.length≤1000){S B:Nat}
  (ha:∀q∈acc,sz q≤S) (hw:∀x∈r,fsz x≤B) (hB:1≤B) (hS:S+(B+1)≤1000) :
  Zf T 0 2 (.norm false [4,17,18,19]) l267_0 (Zkq k j acc.length rest r (Zbn acc r) acc 0) =
   some (.n,⟨[(4,.bs (.fld (.loc 15) 3) 1 3 0 acc.length),(17,.sl (Zt rest) .an),(18,.i .i64 k),(19,.i .i64 j)],[(.fld (.loc 15) 3,⟨1,.own,3,Zd (fzs (Zbn acc r))⟩)],3⟩):=by
 have hL:=zil hr;refine zay (Zkq k j acc.length rest r (Zbn acc r) acc) acc.length _ (fun i hi=>?_) ?_
 ·have hir:i<r.length:=by omega
  have s1:=ha _ (Yj hi);have s2:=hw _ (Yj hir);have c1:=zqj (T:=T) (fz (acc[i]'hi)) (r[i]'hir) (by rw[zbe];omega) (by omega);have e1:(Zbn acc r)[i]'(by omega)=acc[i]'hi+fv (r[i]'hir):=by simp[Zbn]
  rw[zcz,←e1]at c1;have hu:=congrArg fzs (zz9 hL (show i<(Zbn acc r).length by omega));rw[←z36]at hu;unfold Zkq;rw[←hu];exact zw1 k j _ i rest r _ _ _ _ hi hn hir (Ya hir) c1 (zwz (z35 hL (show i<(Zbn acc r).length by omega))) (by simp;omega)
 ·have e:(Zbn acc r).take acc.length++acc.drop acc.length=Zbn acc r:=by rw[Yb (by omega),Y7,Yaq]
  unfold Zkq;rw[e];generalize fzs (Zbn acc r)=M at *
  constructor<;>simp -implicitDefEqProofs[l267_0]
def Zkr(n:Nat)(rest:List (List Fz))(acc:List Rat)(j:Nat):St:=
 ⟨[(4,.bs (.fld (.loc 15) 3) 1 3 0 n),(17,.sl (Zt rest) .an),(18,.i .i64 rest.length),(19,.i .i64 j)],[(.fld (.loc 15) 3,⟨1,.own,3,Zd (fzs ((rest.take j).foldl Zbn acc))⟩)],3⟩
theorem zw3{B:Nat}(hB:1≤B):∀(l:List (List Fz)) (acc:List Rat) (S:Nat),(∀q∈acc,sz q≤S)→(∀r∈l,∀x∈r,fsz x≤B)→∀q∈l.foldl Zbn acc,sz q≤S+l.length*(B+1)
 | [],acc,S,ha,_=>by simpa using ha
 | r::l,acc,S,ha,hw=>by
  intro q hq;have:=zw3 hB l (Zbn acc r) (S+(B+1)) (z39 ha (hw r Yz) hB) (fun r hr=>hw r (Yn _ hr)) q hq;rw[Ye,Yel];omega
theorem zle:∀(l:List (List Fz)) (acc:List Rat),(∀r∈l,r.length=acc.length)→(l.foldl Zbn acc).length=acc.length
 | [],_,_=>rfl
 | r::l,acc,h=>by
  have h1:=zil (h r Yz);have:=zle l (Zbn acc r) (fun r hr=>by rw[h1];exact h r (Yn _ hr));rw[Yca,this,h1]
theorem zw4(rest:List (List Fz))(acc:List Rat)(hn:acc.length≤1000)(hk:rest.length≤1000){S B:Nat}
  (ha:∀q∈acc,sz q≤S) (hw:∀r∈rest,∀x∈r,fsz x≤B) (hB:1≤B) (hS:S+rest.length*(B+1)≤1000) (hall:∀r∈rest,r.length=acc.length) :
  Zf T 0 0 (.norm false [4]) l267_1 (Zkr acc.length rest acc 0)=some (.n,⟨[(4,.bs (.fld (.loc 15) 3) 1 3 0 acc.length)],[(.fld (.loc 15) 3,⟨1,.own,3,Zd (fzs (rest.foldl Zbn acc))⟩)],3⟩):=by
 refine zay (Zkr acc.length rest acc) rest.length _ (fun j hj=>?_) ?_
 ·have hg:rest[j]? = some (rest[j]'hj):=Ya hj;have hws:=zbs hj (by omega);have hm:=Yj hj;have hlen:=zle (rest.take j) acc (fun r hr=>hall r (Yak hr));have hr:(rest[j]'hj).length=acc.length:=hall _ hm;have hsz:=zw3 hB (rest.take j) acc S ha (fun r hr=>hw r (Yak hr));rw[Yai,Ybs (by omega)]at hsz;have hj2:(j+1)*(B+1)≤rest.length*(B+1):=Yw _ hj;rw[Yel]at hj2;have hin:=zw2 (T:=T) rest.length j rest (rest[j]'hj) ((rest.take j).foldl Zbn acc) (by omega) (by omega) hsz (hw _ hm) hB (by omega);have e:(rest.take (j+1)).foldl Zbn acc=Zbn ((rest.take j).foldl Zbn acc) (rest[j]'hj):=by
   rw[Yap hj,List.foldl_append];rfl
  unfold Zkr;rw[e];unfold Zkq at hin;rw[Yb8,Yaa,Yaf,hlen]at hin;clear e hsz hlen hj2;generalize fzs ((rest.take j).foldl Zbn acc)=M at *
  generalize fzs (Zbn ((rest.take j).foldl Zbn acc) (rest[j]'hj))=M' at *
  generalize acc.length=n at *
  simp only[Yv]at hin;have hr':((rest[j]'hj).length:Int)=n:=by omega
  simp -implicitDefEqProofs[l267_1,hj,hg,hws,hin,hr,hr']
 ·unfold Zkr;rw[Yb (Yd _)];generalize fzs (rest.foldl Zbn acc)=M at *
  constructor<;>simp -implicitDefEqProofs[l267_1]
theorem z4a(r0:List Fz)(rest:List (List Fz))(hn:r0.length≤1000)(hk:rest.length≤1000){B:Nat}(hw0:∀x∈r0,fsz x≤B)(hw:∀r∈rest,∀x∈r,fsz x≤B)(hB:1≤B)
  (hS:B+rest.length*(B+1)≤1000) (hall:∀r∈rest,r.length=r0.length) :
  Za T 267 [.sl (Zt (r0::rest)) .an]=some (.tup [.sl (Zd (fzs (rest.foldl Zbn (r0.map fv)))) .an,.b true]):=by
 have hno:=znj (T:=T) r0 hn (fun x hx=>Yc (hw0 x hx) (by omega));rw[zw0]at hno;have h:=zw4 (T:=T) rest (r0.map fv) (by simpa using hn) hk (S:=B) (by
  intro q hq;obtain⟨x,hx,rfl⟩:=Yab.1 hq;exact zdc (hw0 x hx) hB) hw hB hS (by simpa using hall)
 have hfl:=zle rest (r0.map fv) (by simpa using hall);unfold Zkr at h;rw[Yb8,Yc7]at h;rw[Ya3]at h hfl;have hl2:(fzs (rest.foldl Zbn (r0.map fv))).length=r0.length:=by rw[zdh];exact hfl
 have ht:List.take r0.length (fzs (rest.foldl Zbn (r0.map fv)))=fzs (rest.foldl Zbn (r0.map fv)):=Yb (by omega);rw[f267 _ rfl,b267];clear hw0 hw hS hall hfl;generalize fzs (rest.foldl Zbn (r0.map fv))=M at *
 generalize fzs (r0.map fv)=N at *
 have e1:(Zt (r0::rest))[0]? = some [.sl (Zd r0) .an]:=rfl;have e2:(Zt (r0::rest)).length=rest.length+1:=by simp
 have e4:¬ (rest.length:Int)+1=0:=by omega
 have e7:Option.all (fun r:List AV=>decide (r.length=1)) (Zt (r0::rest)).head? = true:=rfl;have e8:(List.take (rest.length+1) (Zt (r0::rest))).tail=Zt rest:=by rw[Yb (by simp)];rfl
 have e6:(1:Int)≤(rest.length:Int)+1:=by omega
 generalize Zt (r0::rest)=RR at *
 obtain⟨_,e5⟩:=Yu.1 e1;simp only[Yv]at h;simp -implicitDefEqProofs[hno,h,hl2,ht,e1,e2,e4,e5,e6,e7,e8]
end
end Go.Ab
end
section
namespace Go.Ab
def Zmk(p:List (Fz×List Fz))(acc:List Rat):List Rat:=p.foldl (fun a q=>Znj (fv q.1) a q.2) acc
section
variable{T:Tbl}[Zq T][Zw T][Zz T][Zs T][Zu T][Zaz T][Ze T][Zl T][Zv T][Zav T][Zbf T]
def Zo6(C:List Fz)(k j n:Nat)(l:List (List Fz))(r:List Fz)(L acc:List Rat)(i:Nat):St:=
 ⟨[(0,.sl (Zd C) .an),(10,.bs (.fld (.loc 40) 9) 1 3 0 n),(11,.i .i64 k),(41,.sl (Zt l) .an),(42,.i .i64 j),(43,.i .i64 k),(54,.sl (Zd r) .an),(55,.i .i64 n),(56,.i .i64 i)],
  [(.fld (.loc 40) 9,⟨1,.own,3,Zd (fzs (L.take i++acc.drop i))⟩)],3⟩
def Zo7(C:List Fz)(n:Nat)(l:List (List Fz))(acc:List Rat)(k:Nat):St:=
 ⟨[(0,.sl (Zd C) .an),(10,.bs (.fld (.loc 40) 9) 1 3 0 n),(41,.sl (Zt l) .an),(42,.i .i64 l.length),(43,.i .i64 k)],[(.fld (.loc 40) 9,⟨1,.own,3,Zd (fzs (Zmk ((C.zip l).take k) acc))⟩)],3⟩
def Zo8(C:List Fz)(l:List (List Fz))(n i:Nat):St:=⟨[(0,.sl (Zd C) .an),(1,.sl (Zt l) .an),(2,.i .i64 n),(28,.sl (Zt l) .an),(29,.i .i64 l.length),(30,.i .i64 i)],[],2⟩
end
end Go.Ab
end
section
namespace Go.Ab
abbrev agS(t h:Fz)(y0 y1 f0 f1:List Fz):AV:=
 .agg [.b t.1,.sl (Zb t.2.1) .an,.sl (Zb t.2.2) .an,.b h.1,.sl (Zb h.2.1) .an,.sl (Zb h.2.2) .an,.sl (Zd y0) .an,.sl (Zd y1) .an,.sl (Zd f0) .an,.sl (Zd f1) .an]
def Zmp(l:List Fz):Rat:=l.foldl (fun p x=>p*fv x) 1
section
variable{T:Tbl}[Zq T][Zw T][Zz T][Zs T][Zu T][Zaz T][Ze T][Zl T][Zv T][Zav T][Zbf T][Zkg T]
def Zpt(l:List Fz)(i:Nat):St:=⟨[(2,.ptr (.loc 2) 1 3 0 0),(3,.ptr (.loc 3) 2 3 0 0),(7,.sl (Zd l) .an),(8,.i .i64 l.length),(9,.i .i64 i)],[(.loc 2,⟨1,.str,3,[Zdx]⟩),(.loc 3,⟨2,.str,3,[Zdi (fz (Zmp (l.take i)))]⟩)],4⟩
def Znp(h:Fz)(y0 y1 f0 f1:List Fz):Bool:=decide (0<fv h)&&decide (y0.length≤300)&&decide (y1.length=y0.length)&&decide (f0.length=y0.length)&&decide (f1.length=y0.length)
end
end Go.Ab
end
section
namespace Go.Ab
theorem zrw(a b:List AV):wkR (a++b)=wkR a++wkR b:=by rw[zkx,zkx,zkx,Ycz]
abbrev tyS:Ty:=.cons tyF (.cons tyF (.cons (.sl tyF) (.cons (.sl tyF) (.cons (.sl tyF) (.cons (.sl tyF) .nil)))))
end Go.Ab
end
section
namespace Go.Ab
end Go.Ab
end
section
namespace Go.Ab
section
variable{T:Tbl}
theorem zsg(m:Nat)(hm:m%2=1)(K:Nat)(hK:2^K*m<4294967296)(hK2:K≤32):∀v:Nat,v≤K →
  Zf T 0 0 (.norm false [3]) l224_0 ⟨[(0,u32 (2^v*m)),(3,.i .i64 (K-v:Nat))],[],2⟩=some (.n,⟨[(3,.i .i64 K)],[],2⟩):=by
 refine zaq (fun v:Nat=>⟨[(0,u32 (2^v*m)),(3,.i .i64 (K-v:Nat))],[],2⟩) _ (fun v=>v) _ ?_;intro v hv;cases v with
 | zero=>
  right;constructor<;>simp -implicitDefEqProofs[l224_0,hm]
 | succ v=>
  left;have hle:2^(v+1)*m≤2^K*m:=Yw _ (Ym (by decide) hv);have e:2^(v+1)*m=2^v*m*2:=by grind
  have hw:IntKind.wrap .i64 (((K-(v+1):Nat):Int)+1)=((K-v:Nat):Int):=by rw[zac _ (by omega)];omega
  refine⟨v,by omega,Y1 v,?_,rfl⟩;rw[e]at hle ⊢;generalize 2^v*m=x at *
  have e1:x*2%2=0:=by omega
  have e3:x<4294967296:=by omega
  simp -implicitDefEqProofs[l224_0,e1,e3,hw]
end
section
variable{T:Tbl}[Z2 T]
theorem zo0(m K:Nat)(hm:m%2=1)(hK:2^K*m<4294967296):Za T 224 [u32 (2^K*m)]=some (.i .i64 K):=by
 have hK2:K≤32:=by
  rcases Yo 32 K with h | h
  ·have h1:2^32≤2^K:=Ym (by decide) (by omega);have h2:2^K≤2^K*m:=Ycr _ (by omega);omega
  omega
 have h:=zsg (T:=T) m hm K hK hK2 K (Yd _);rw[Yb1]at h;simp only[Yv]at h;have h0:2^K*m≠0:=Yea (by grind) (by omega);rw[f224 _ rfl,b224];simp -implicitDefEqProofs[h,h0]
end
theorem zo1{P m a S:List UInt32}{i:Nat}(hm:m.length=i)(hi:i<a.length):(P++(m++(a.drop i++S)))[P.length+i]? = some (a[i]'hi):=by
 grind
theorem zo2{P m a S:List UInt32}{i:Nat}(hm:m.length=i)(hi:i<a.length)(w:UInt32):(P++(m++(a.drop i++S))).set (P.length+i) w=P++((m++[w])++(a.drop (i+1)++S)):=by
 rw[Yac _ _ (by omega),Ybr,Yac _ _ (by omega),hm,Yb1,Yi hi,Ybd,Yb2];simp
section
variable{T:Tbl}
def Zhk(Q:List UInt32)(o n s i:Nat):St:=⟨[(0,.bs (.bor 0) 0 1 o n),(1,.i .i64 s),(5,.i .i64 i)],[(.bor 0,⟨0,.own,1,Zb Q⟩)],4⟩
theorem zz0(Q:List UInt32)(o n s i:Nat)(x y:UInt32)(hi:i+1<n)(hn:n≤1000000)(hs:s<32)(hx:Q[o+i]? = some x)(hy:Q[o+(i+1)]? = some y) :
  evX (orc T) T 1 l225_0 (Zhk Q o n s i)=some (.n,Zhk (Q.set (o+i) (w32 ((x.toNat+y.toNat*4294967296)/2^s%4294967296))) o n s (i+1)):=by
 have h1:(i:Int)<n:=by omega
 have h2:(i:Int)+1<n:=by omega
 have hw:IntKind.wrap .i64 ((i:Int)+1)=((i+1:Nat):Int):=zac _ (by omega);have lx:=zal x;have ly:=zal y;have m2:y.toNat*4294967296%18446744073709551616=y.toNat*4294967296:=Yf (by omega);have m3:(y.toNat*4294967296+x.toNat)%18446744073709551616=x.toNat+y.toNat*4294967296:=by grind
 have hmin:min s 64=s:=by omega
 obtain⟨b1,hgx⟩:=Yu.1 hx;unfold Zhk;simp -implicitDefEqProofs[l225_0,h1,h2,hw,hy,m2,m3,hmin,b1,hgx,ze1]
theorem zz1(Q:List UInt32)(o n s i:Nat)(x:UInt32)(hi:i+1=n)(hn:n≤1000000)(hs:s<32)(hx:Q[o+i]? = some x) :
  evX (orc T) T 1 l225_0 (Zhk Q o n s i)=some (.n,Zhk (Q.set (o+i) (w32 (x.toNat/2^s%4294967296))) o n s (i+1)):=by
 have h1:(i:Int)<n:=by omega
 have h2:¬ (i:Int)+1<n:=by omega
 have hw:IntKind.wrap .i64 ((i:Int)+1)=((i+1:Nat):Int):=zac _ (by omega);have hmin:min s 64=s:=by omega
 obtain⟨b1,hgx⟩:=Yu.1 hx;unfold Zhk;simp -implicitDefEqProofs[l225_0,h1,h2,hw,hmin,b1,hgx,ze1]
theorem z3y(P a S:List UInt32)(s:Nat)(hs:s<32)(hl:a.length≤1000000):∀y:Nat×List UInt32,
  (y.1≤a.length∧y.2.length=y.1∧val y.2+4294967296^y.1*(val (a.drop y.1)/2^s)=val a/2^s) →
  ∃r,(∃m:List UInt32,r=(Ex.n,(⟨[(0,.bs (.bor 0) 0 1 P.length a.length)],[(.bor 0,⟨0,.own,1,Zb (P++(m++S))⟩)],4⟩:St))∧m.length=a.length∧val m=val a/2^s) ∧
   Zf T 1 0 (.norm false [0]) l225_0 (Zhk (P++(y.2++(a.drop y.1++S))) P.length a.length s y.1)=some r:=by
 refine zas (fun y:Nat×List UInt32=>Zhk (P++(y.2++(a.drop y.1++S))) P.length a.length s y.1) _ (fun y=>a.length-y.1) _ ?_
 rintro⟨i,m⟩ ⟨hi,hm,hv⟩
 by_cases h0:i<a.length
 ·left;have hx:=zal (a[i]'h0);have hd:=Yi h0;have fin:∀y R:Nat,val (a.drop (i+1))=y+4294967296*R→val (m++[w32 (((a[i]'h0).toNat+y*4294967296)/2^s%4294967296)])+4294967296^(i+1)*(val (a.drop (i+1))/2^s)=val a/2^s:=by
   intro y R hR;have hdw:=znv (x:=(a[i]'h0).toNat) (y:=y) (R:=R) hs hx
   grind[zak,zah,za5,zag]
  by_cases h1:i+1<a.length
  ·have hd1:=Yi h1;refine⟨(i+1,m++[w32 (((a[i]'h0).toNat+(a[i+1]'h1).toNat*4294967296)/2^s%4294967296)]),⟨h0,by grind,fin _ (val (a.drop (i+1+1))) (by rw[hd1,zak])⟩,by omega,?_⟩
   grind[zz0,zo1,zo2]
  ·have f0:=fin 0 0 (by rw[Ya9 (by omega),za5,Yan]);rw[Yde,Yx]at f0;refine⟨(i+1,m++[w32 ((a[i]'h0).toNat/2^s%4294967296)]),⟨h0,by grind,f0⟩,by omega,?_⟩
   grind[zz1,zo1,zo2]
 ·right;have:i=a.length:=by omega
  subst this;rw[Y7,za5,Nat.zero_div,Yan,Yx]at hv;refine⟨_,⟨m,rfl,hm,hv⟩,?_,?_⟩<;>simp -implicitDefEqProofs[l225_0,Zhk]
theorem zsh(P a S:List UInt32)(hl:a.length≤1000000){n:Nat}(hn:n≤a.length)(h0:∀(i:Nat) (x:UInt32),n≤i→a[i]? = some x→x.toNat=0)(h1:∀x:UInt32,0<n→a[n-1]? = some x→x.toNat≠0) :
  ∀k:Nat,(n≤k∧k≤a.length)→Zf T 1 2 (.norm false [0]) l225_1 ⟨[(0,.bs (.bor 0) 0 1 P.length k)],[(.bor 0,⟨0,.own,1,Zb (P++(a++S))⟩)],4⟩ =
   some (.n,⟨[(0,.bs (.bor 0) 0 1 P.length n)],[(.bor 0,⟨0,.own,1,Zb (P++(a++S))⟩)],4⟩):=by
 refine zaq (fun k:Nat=>⟨[(0,.bs (.bor 0) 0 1 P.length k)],[(.bor 0,⟨0,.own,1,Zb (P++(a++S))⟩)],4⟩) _ (fun k=>k) _ ?_
 rintro k ⟨hk,hka⟩
 have hget:∀j,j<a.length→(P++(a++S))[P.length+j]? = a[j]? := by
  grind
 by_cases h2:k=0
 ·right;have:n=0:=by omega
  subst this;subst h2;constructor<;>simp -implicitDefEqProofs[l225_1]
 ·have hw:IntKind.wrap .i64 ((k:Int)-1)=((k-1:Nat):Int):=by rw[zac _ (by omega)];omega
  have hg:a[k-1]? = some (a[k-1]'(by omega)):=Ya _;have hq:=hget (k-1) (by omega);rw[hg]at hq;have hpos:0<k:=by omega
  have hlt:k-1<k:=by omega
  by_cases h3:k=n
  ·right;subst h3;have hx:=h1 _ hpos hg;constructor<;>simp -implicitDefEqProofs[l225_1,hpos,hw,hq,hx,hlt]
  ·left;have hx:=h0 (k-1) _ (by omega) hg;refine⟨k-1,⟨by omega,by omega⟩,hlt,?_,rfl⟩;simp -implicitDefEqProofs[l225_1,hpos,hw,hq,hx,hlt]
end
section
variable{T:Tbl}[Z2 T]
theorem zsi(P a S:List UInt32)(s:Nat)(hs:s<32)(hl:a.length≤1000000) :
  ∃S',S'.length+(ofN (val a/2^s)).length=a.length+S.length ∧
   Zbk T 225 [.bs (.bor 0) 0 1 P.length a.length,.i .i64 s] [(.bor 0,⟨0,.own,1,Zb (P++(a++S))⟩)] =
    some (.bs (.bor 0) 0 1 P.length (ofN (val a/2^s)).length,[(.bor 0,⟨0,.own,1,Zb (P++(ofN (val a/2^s)++S'))⟩)]):=by
 obtain⟨_,⟨m,rfl,hm,hv⟩,hr⟩:=z3y (T:=T) P a S s hs hl (0,[]) ⟨Yp _,rfl,by simp⟩;obtain⟨n,h1,h2,h3,h4⟩:=zf7 m;have ht:=zsh (T:=T) P m S (by omega) h1 h3 h4 m.length ⟨h1,Yd _⟩;have hlen:(ofN (val a/2^s)).length=n:=by grind
 have e:P++(m++S)=P++(ofN (val a/2^s)++(m.drop n++S)):=by grind[List.take_append_drop]
 refine⟨m.drop n++S,by grind,?_⟩;rw[hlen,←e];rw[hm]at ht;unfold Zhk at hr;simp only[Yaf,Yaa,Yv]at hr;rw[f225 _ _ rfl,b225];simp -implicitDefEqProofs[hr,ht]
theorem zsj(Q:List UInt32)(o n j0:Nat)(hn:n≤1000000)(hj:j0<n)(hz:∀j,j<j0→∃x:UInt32,Q[o+j]? = some x∧x.toNat=0)(h1:∃x:UInt32,Q[o+j0]? = some x∧x.toNat≠0) :
  ∀j:Nat,j≤j0→Zf T 1 0 (.norm false [0,4]) l226_0 ⟨[(0,.bs (.bor 0) 0 1 (o+j) (n-j)),(4,.i .i64 (32*j:Nat))],[(.bor 0,⟨0,.own,1,Zb Q⟩)],4⟩ =
   some (.n,⟨[(0,.bs (.bor 0) 0 1 (o+j0) (n-j0)),(4,.i .i64 (32*j0:Nat))],[(.bor 0,⟨0,.own,1,Zb Q⟩)],4⟩):=by
 refine zaq (fun j:Nat=>⟨[(0,.bs (.bor 0) 0 1 (o+j) (n-j)),(4,.i .i64 (32*j:Nat))],[(.bor 0,⟨0,.own,1,Zb Q⟩)],4⟩) _ (fun j=>j0-j) _ ?_;intro j hj2;have hpos:0<n-j:=by omega
 by_cases h:j=j0
 ·right;subst h;obtain⟨x,hx,hx0⟩:=h1;constructor<;>simp -implicitDefEqProofs[l226_0,hpos,hx,hx0]
 ·left;obtain⟨x,hx,hx0⟩:=hz j (by omega);have hw:IntKind.wrap .i64 (((32*j:Nat):Int)+32)=((32*(j+1):Nat):Int):=by rw[zac _ (by omega)];omega
  have e1:1<n-j:=by omega
  have e2:n-j-1=n-(j+1):=by omega
  have e3:(1:Int)≤((n-j:Nat):Int):=by omega
  refine⟨j+1,by omega,by omega,?_,rfl⟩;generalize 32*j=c at *
  rw[←Yas,←e2];generalize n-j=k at *
  simp -implicitDefEqProofs[l226_0,hpos,hx,hx0,hw,e1,e3]
theorem znf:∀(a:List UInt32),val a≠0→∃j,∃h:j<a.length,(∀i (hi:i<j),(a[i]'(by omega)).toNat=0)∧(a[j]'h).toNat≠0∧val a=4294967296^j*val (a.drop j)
 | [],h=>by simp at h
 | x::a,h=>by
  by_cases hx:x.toNat=0
  ·have h2:val a≠0:=by
    intro e;apply h;rw[zak,hx,e]
   obtain⟨j,hj,h3,h4,h5⟩:=znf a h2;refine⟨j+1,by simpa using hj,?_,by simpa using h4,?_⟩
   ·intro i hi;cases i with
    | zero=>simpa using hx
    | succ i=>simpa using h3 i (by omega)
   ·rw[zak,hx,h5,Ycu,Y4,Yat,Yae (4294967296^j) 4294967296,Yad]
  ·exact⟨0,by simp,fun i hi=>by omega,by simpa using hx,by simp⟩
theorem zf2(P a S:List UInt32)(hl:a.length≤100000)(h:val a≠0):∃(P' S':List UInt32) (m k:Nat),val a=2^k*m∧m%2=1∧k≤32*a.length∧(ofN m).length≤a.length∧P'.length+(ofN m).length+S'.length=P.length+a.length+S.length ∧
  Zbk T 226 [.bs (.bor 0) 0 1 P.length a.length] [(.bor 0,⟨0,.own,1,Zb (P++(a++S))⟩)] =
   some (.tup [.bs (.bor 0) 0 1 P'.length (ofN m).length,.i .i64 k],[(.bor 0,⟨0,.own,1,Zb (P'++(ofN m++S'))⟩)]):=by
 obtain⟨j,hj,hz,hne,hv⟩:=znf a h;obtain⟨s,c,hsc,hc⟩:=z0r hne;have hx:=zal (a[j]'hj);have hs:s<32:=by
  rcases Yo s 32 with h1 | h1
  ·omega
  ·have h2:2^32≤2^s:=Ym (by decide) h1;have h3:2^s≤2^s*c:=Ycr _ (by omega);omega
 have hd:=Yi hj
 -- the rest is odd
 have hm:∃m,val (a.drop j)=2^s*m∧m%2=1:=by
  refine⟨c+2^(32-s)*val (a.drop (j+1)),?_,?_⟩
  ·rw[hd,zak,hsc,Yao,←Yad,←Ybh,show s+(32-s)=32 by omega]
  ·have:2^(32-s)=2*2^(31-s):=by rw[←Nat.pow_succ'];grind
   rw[this,Yad];omega
 obtain⟨m,hm1,hm2⟩:=hm;have hdiv:val (a.drop j)/2^s=m:=by grind[Nat.mul_div_cancel_left]
 have hlen:(a.drop j).length=a.length-j:=by simp
 obtain⟨S',hS',hdown⟩:=zsi (T:=T) (P++a.take j) (a.drop j) S s hs (by omega);rw[hdiv]at hS' hdown;have hPl:(P++a.take j).length=P.length+j:=by grind
 have hbox:(P++a.take j)++(a.drop j++S)=P++(a++S):=by
  grind[List.take_append_drop]
 rw[hPl,hlen,hbox]at hdown;have hml:(ofN m).length≤a.length:=by
  have h1:m≤val (a.drop j):=by rw[hm1];exact Ycd _ (Ybb (by decide))
  have h2:=zar h1;have h3:=zad (a.drop j);omega
 refine⟨P++a.take j,S',m,32*j+s,?_,hm2,by omega,hml,by omega,?_⟩
 ·rw[hv,hm1,zlk,Ybh,Yad]
 ·have hst:=zsj (T:=T) (P++(a++S)) P.length a.length j (by omega) hj (fun i hi=>⟨_,by grind,hz i hi⟩) ⟨_,by grind,hne⟩ 0 (Yp _);have hzr:=zo0 (T:=T) c s hc (by omega);rw[←hsc]at hzr;have hg:(P++(a++S))[P.length+j]? = some (a[j]'hj):=by grind
  have hpos:0<a.length-j:=by omega
  have hw:IntKind.wrap .i64 (((32*j:Nat):Int)+s)=((32*j+s:Nat):Int):=by rw[zac _ (by omega)];omega
  simp only[Yan,Yx,Ye2,Yv]at hst;rw[hPl,f226 _ _ rfl,b226];generalize 32*j=c1 at *
  simp -implicitDefEqProofs[hst,hzr,hg,hpos,hw,hdown]
end
theorem z1g{P m a S b:List UInt32}{i c s d:Nat}(hm:m.length=i)(h0:i<a.length)(hv:val m+val (b.take i)=val (a.take i)+4294967296^i*c)(hs:s<4294967296)(h:s+(atW b i+c)=(a[i]'h0).toNat+4294967296*d) :
  val (m++[w32 s])+val (b.take (i+1))=val (a.take (i+1))+4294967296^(i+1)*d:=by
 grind[zbc,zah,zak,zag,atW]
section
variable{T:Tbl}[Z5 T][Zal T][Z1 T][Zah T][Z2 T]
def Zi6(Q R:List UInt32)(o n o2 n2 c i:Nat):St:=⟨[(0,.bs (.bor 0) 0 1 o n),(1,.bs (.bor 1) 1 1 o2 n2),(4,u64 c),(5,.i .i64 i)],[(.bor 0,⟨0,.own,1,Zb Q⟩),(.bor 1,⟨1,.own,1,Zb R⟩)],6⟩
theorem z3z(Q R b:List UInt32)(o n o2 n2 c i:Nat)(x:UInt32)(hi:i<n)(hn:n≤1000000)(hb:b.length≤1000000)(hc:c≤1)(hx:Q[o+i]? = some x)(hR:List.take n2 (List.drop o2 R)=b)(hR2:o2+n2≤R.length) :
  evX (orc T) T 2 l2097_0 (Zi6 Q R o n o2 n2 c i)=some (.n,Zi6 (Q.set (o+i) (w32 (if x.toNat<atW b i+c then x.toNat+4294967296-(atW b i+c) else x.toNat-(atW b i+c)))) R o n o2 n2 (if x.toNat<atW b i+c then 1 else 0) (i+1)):=by
 have h1:(i:Int)<n:=by omega
 have hw:IntKind.wrap .i64 ((i:Int)+1)=((i+1:Nat):Int):=zac _ (by omega);have cb:=zc5 (T:=T) b i hb;have lx:=zal x;have lb:=zid b i;generalize atW b i=y at *
 have m2:y%18446744073709551616=y:=Yf (by omega);have m3:(y+c)%18446744073709551616=y+c:=Yf (by omega);have m4:(x.toNat+4294967296)%18446744073709551616=x.toNat+4294967296:=Yf (by omega);obtain⟨b1,hgx⟩:=Yu.1 hx;unfold Zi6;by_cases hlt:x.toNat<y+c
 ·have hs:Zdo (x.toNat+4294967296) (y+c)=x.toNat+4294967296-(y+c):=zeu (by omega) (by omega);simp -implicitDefEqProofs[l2097_0,h1,hw,cb,m2,m3,m4,b1,hgx,hR,hR2,hlt,hs]
 ·have hs:Zdo x.toNat (y+c)=x.toNat-(y+c):=zeu (by omega) (by omega);simp -implicitDefEqProofs[l2097_0,h1,hw,cb,m2,m3,b1,hgx,hR,hR2,hlt,hs]
theorem z30(P a S R b:List UInt32)(o2 n2:Nat)(hl:a.length≤1000000)(hb:b.length≤1000000)(hR:List.take n2 (List.drop o2 R)=b)(hR2:o2+n2≤R.length):∀y:Nat×Nat×List UInt32,
  (y.1≤a.length∧y.2.1≤1∧y.2.2.length=y.1∧val y.2.2+val (b.take y.1)=val (a.take y.1)+4294967296^y.1*y.2.1) →
  ∃r,(∃(c:Nat) (m:List UInt32),r=(Ex.n,(⟨[],[(.bor 0,⟨0,.own,1,Zb (P++(m++S))⟩),(.bor 1,⟨1,.own,1,Zb R⟩)],6⟩:St)) ∧
   m.length=a.length∧c≤1∧val m+val (b.take a.length)=val a+4294967296^a.length*c) ∧
   Zf T 2 0 (.norm false []) l2097_0 (Zi6 (P++(y.2.2++(a.drop y.1++S))) R P.length a.length o2 n2 y.2.1 y.1)=some r:=by
 refine zas (fun y:Nat×Nat×List UInt32=>Zi6 (P++(y.2.2++(a.drop y.1++S))) R P.length a.length o2 n2 y.2.1 y.1) _ (fun y=>a.length-y.1) _ ?_
 rintro⟨i,c,m⟩ ⟨hi,hc,hm,hv⟩
 simp only at hi hc hm hv;by_cases h0:i<a.length
 ·left;have lx:=zal (a[i]'h0);have lb:=zid b i;have hstep:=z3z (T:=T) (P++(m++(a.drop i++S))) R b P.length a.length o2 n2 c i (a[i]'h0) h0 hl hb hc (zo1 hm h0) hR hR2;rw[zo2 hm h0]at hstep;by_cases hlt:(a[i]'h0).toNat<atW b i+c
  ·rw[if_pos hlt,if_pos hlt]at hstep;exact⟨(i+1,1,m++[w32 ((a[i]'h0).toNat+4294967296-(atW b i+c))]),⟨h0,Yd _,by grind,by simp only;exact z1g (P:=P) (S:=S) hm h0 hv (by omega) (by omega)⟩,by omega,hstep⟩
  ·rw[if_neg hlt,if_neg hlt]at hstep;exact⟨(i+1,0,m++[w32 ((a[i]'h0).toNat-(atW b i+c))]),⟨h0,Yp _,by grind,by simp only;exact z1g (P:=P) (S:=S) hm h0 hv (by omega) (by omega)⟩,by omega,hstep⟩
 ·right;have:i=a.length:=by omega
  subst this;rw[Yb (Yd a.length)]at hv;refine⟨_,⟨c,m,rfl,hm,hc,hv⟩,?_,?_⟩<;>simp -implicitDefEqProofs[l2097_0,Zi6]
theorem zif(P a S P2 b S2:List UInt32)(hl:a.length≤1000000)(hb:b.length≤a.length)(hab:val b≤val a) :
  ∃m:List UInt32,m.length=a.length∧val m=val a-val b ∧
   Zbk T 2097 [.bs (.bor 0) 0 1 P.length a.length,.bs (.bor 1) 1 1 P2.length b.length] [(.bor 0,⟨0,.own,1,Zb (P++(a++S))⟩),(.bor 1,⟨1,.own,1,Zb (P2++(b++S2))⟩)] =
    some (.tup [],[(.bor 0,⟨0,.own,1,Zb (P++(m++S))⟩),(.bor 1,⟨1,.own,1,Zb (P2++(b++S2))⟩)]):=by
 obtain⟨_,⟨c,m,rfl,hm,hc,hv⟩,hr⟩:=z30 (T:=T) P a S (P2++(b++S2)) b P2.length b.length hl (by omega) (by simp) (by simp) (0,0,[]) ⟨Yp _,Yp _,rfl,by simp⟩;rw[Yb hb]at hv;have hlo:=zax m;have hval:val m=val a-val b:=by
  rcases Yav c with h1 | h1
  all_goals grind
 refine⟨m,hm,hval,?_⟩;unfold Zi6 at hr;simp only[Yaf,Yaa,Yv]at hr;rw[za3 Z2.h2097 rfl,b2097];simp -implicitDefEqProofs[hr]
theorem zig(a:List UInt32):Za T 229 [.sl (Zb (ofN (val a))) .an]=some (.b (decide (val a=1))):=by
 rw[zab Z2.h229 rfl,b229];generalize val a=n;by_cases h0:n=0
 ·subst h0;simp -implicitDefEqProofs
 ·rw[zgq h0];by_cases h1:n/4294967296=0
  ·have e:ofN (n/4294967296)=[]:=zap.2 h1;have e2:n%4294967296=n:=Yf (by omega);simp -implicitDefEqProofs[e,Zb,zbx,e2]
  ·have h2:¬ ofN (n/4294967296)=[]:=fun e=>h1 (zap.1 e);have h3:¬ n=1:=by omega
   have h4:¬ ((ofN (n/4294967296)).length:Int)+1=1:=by
    have:=Yby.2 h2;omega
   simp -implicitDefEqProofs[Zb,h3,h4]
theorem zj0(a g:List UInt32)(ha:a.length≤10000)(hg:g.length≤10000)(h0:val g≠0):Za T 230 [.sl (Zb a) .an,.sl (Zb (ofN (val g))) .an]=some (.sl (Zb (ofN (val a/val g))) .an):=by
 have ho:=zig (T:=T) g;have hn:=zbi (T:=T) a (by omega);have hd:=zwd (T:=T) a (ofN (val g)) (by omega) (by have:=zad g;omega) (by rw[zae];omega);rw[zae]at hd;rw[zab Z2.h230 rfl,b230];by_cases h1:val g=1
 ·rw[h1]at ho hd ⊢;simp -implicitDefEqProofs[ho,hn]
 ·simp -implicitDefEqProofs[ho,h1,hd]
theorem zng(a:List UInt32)(k:Nat)(ha:a.length≤10000)(hk:k≤1000000):Za T 227 [.sl (Zb a) .an,.i .i64 k]=some (.sl (Zb (ofN (2^k*val a))) .an):=by
 have hq:(k:Int).tdiv 32=(k:Int)/32:=Ybt (by omega);have hm2:(k:Int).tmod 32=(k:Int)%32:=Ycg (by omega);have s0:¬ (k:Int)%32<0:=by omega
 have s1:((k:Int)%32).toNat=k%32:=by omega
 have s2:min (k%32) 32=k%32:=by omega
 have w1:IntKind.wrap .i64 ((k:Int)/32)=((k/32:Nat):Int):=by rw[zac (k/32) (by omega)];omega
 have h2:2^(k%32)<4294967296:=by
  have:=Nat.pow_lt_pow_right (show 1<2 by decide) (Ya7 k (show 0<32 by decide));omega
 have s3:2^(k%32)%4294967296=2^(k%32):=Yf h2;have hmul:=zf1 (T:=T) (List.replicate (k/32) 0++a) [w32 (2^(k%32))] (by grind) (by simp);have hv:val (List.replicate (k/32) 0++a)*val [w32 (2^(k%32))]=2^k*val a:=by
  rw[zah,zaw,Ych,zak,za5,zag h2,Yan,Yx,Yat,zlk,Yae,←Yad,←Ybh,show k%32+32*(k/32)=k by omega]
 rw[hv]at hmul;have b2:k/32+a.length≤4294967296:=by omega
 have b3:((k/32:Nat):Int)≤4294967296:=by omega
 have hu:Zb [w32 (2^(k%32))]=[[u32 (2^(k%32))]]:=by simp[Zb,zag h2]
 rw[hu]at hmul;have ht:List.take (k/32+a.length) (List.replicate (k/32) 0++a)=List.replicate (k/32) 0++a:=Yb (by simp);rw[f227 _ rfl,b227];generalize k/32=q at *
 simp -implicitDefEqProofs[hq,hm2,w1,s0,s1,s2,s3,hmul,b2,b3,ht]
def nmX:BId:=.fld (.loc 12) 22
def nmY:BId:=.fld (.loc 14) 22
def nm2(f:Bool):BId×BId:=if f then (nmX,nmY) else (nmY,nmX)
def Zgj(f:Bool)(P a S P2 b S2:List UInt32)(m n:Nat):St:=
 ⟨[(5,.bs (nm2 f).1 1 1 P.length a.length),(6,.bs (nm2 f).2 2 1 P2.length b.length),(7,.i .i64 m),(8,.i .i64 n)],[((nm2 f).1,⟨1,.own,1,Zb (P++(a++S))⟩),((nm2 f).2,⟨2,.own,1,Zb (P2++(b++S2))⟩)],4⟩
theorem zah0(f:Bool)(P S P2 S2:List UInt32)(X Y m n:Nat)(hX:(ofN X).length≤10000)(hY:(ofN Y).length≤10000)(h:Y<X) :
  ∃(P' S':List UInt32) (k x:Nat),X-Y=2^k*x∧x%2=1 ∧
   evX (orc T) T 0 l228_0 (Zgj f P (ofN X) S P2 (ofN Y) S2 m n)=some (.n,Zgj f P' (ofN x) S' P2 (ofN Y) S2 m n):=by
 have hc:=zeh (T:=T) (ofN X) (ofN Y) (by omega) (by omega);rw[zae,zae,show Zcs X Y=1 by unfold Zcs;omega]at hc;obtain⟨d,hd,hv,hless⟩:=zif (T:=T) P (ofN X) S P2 (ofN Y) S2 (by omega) (zar (Ycq h)) (by rw[zae,zae];omega);rw[zae,zae]at hv;obtain⟨P',S',x,k,e1,e2,e3,e4,e5,hodd⟩:=zf2 (T:=T) P d S (by omega) (by omega);refine⟨P',S',k,x,by omega,e2,?_⟩;have t1:List.take (ofN X).length (List.drop P.length (P++(ofN X++S)))=ofN X:=by simp
 have t2:List.take (ofN Y).length (List.drop P2.length (P2++(ofN Y++S2)))=ofN Y:=by simp
 have b1:P.length+(ofN X).length≤(P++(ofN X++S)).length:=by simp
 have b2:P2.length+(ofN Y).length≤(P2++(ofN Y++S2)).length:=by simp
 rw[hd]at hodd;unfold Zgj;cases f<;>simp -implicitDefEqProofs[l228_0,nm2,nmX,nmY,hc,hless,hodd]
theorem zah1(f:Bool)(P S P2 S2:List UInt32)(X Y m n:Nat)(hX:(ofN X).length≤10000)(hY:(ofN Y).length≤10000)(h:X<Y) :
  ∃(P' S':List UInt32) (k x:Nat),Y-X=2^k*x∧x%2=1 ∧
   evX (orc T) T 0 l228_0 (Zgj f P (ofN X) S P2 (ofN Y) S2 m n)=some (.n,Zgj (!f) P' (ofN x) S' P (ofN X) S m n):=by
 have hc:=zeh (T:=T) (ofN X) (ofN Y) (by omega) (by omega);rw[zae,zae,show Zcs X Y=-1 by unfold Zcs;omega]at hc;obtain⟨d,hd,hv,hless⟩:=zif (T:=T) P2 (ofN Y) S2 P (ofN X) S (by omega) (zar (Ycq h)) (by rw[zae,zae];omega);rw[zae,zae]at hv;obtain⟨P',S',x,k,e1,e2,e3,e4,e5,hodd⟩:=zf2 (T:=T) P2 d S2 (by omega) (by omega);refine⟨P',S',k,x,by omega,e2,?_⟩;have t1:List.take (ofN X).length (List.drop P.length (P++(ofN X++S)))=ofN X:=by simp
 have t2:List.take (ofN Y).length (List.drop P2.length (P2++(ofN Y++S2)))=ofN Y:=by simp
 have b1:P.length+(ofN X).length≤(P++(ofN X++S)).length:=by simp
 have b2:P2.length+(ofN Y).length≤(P2++(ofN Y++S2)).length:=by simp
 rw[hd]at hodd;unfold Zgj;cases f<;>simp -implicitDefEqProofs[l228_0,nm2,nmX,nmY,hc,hless,hodd]
theorem zah2(f:Bool)(P S P2 S2:List UInt32)(X m n:Nat)(hX:(ofN X).length≤10000){G:Option (Ex×St)}
  (hG:G=some (.n,⟨[(5,.bs (nm2 f).1 1 1 P.length (ofN X).length),(7,.i .i64 m),(8,.i .i64 n)],[((nm2 f).1,⟨1,.own,1,Zb (P++(ofN X++S))⟩)],3⟩)) :
  Zey (evX (orc T) T 0 l228_0 (Zgj f P (ofN X) S P2 (ofN X) S2 m n))=true∧Zex 0 0 (Gh.norm false [5,7,8]) (evX (orc T) T 0 l228_0 (Zgj f P (ofN X) S P2 (ofN X) S2 m n))=G:=by
 subst hG;have hc:=zeh (T:=T) (ofN X) (ofN X) (by omega) (by omega);rw[zae,show Zcs X X=0 by grind[Zcs]]at hc;have t1:List.take (ofN X).length (List.drop P.length (P++(ofN X++S)))=ofN X:=by simp
 have t2:List.take (ofN X).length (List.drop P2.length (P2++(ofN X++S2)))=ofN X:=by simp
 have b1:P.length+(ofN X).length≤(P++(ofN X++S)).length:=by simp
 have b2:P2.length+(ofN X).length≤(P2++(ofN X++S2)).length:=by simp
 unfold Zgj;generalize P++(ofN X++S)=Q at *
 generalize P2++(ofN X++S2)=R at *
 generalize ofN X=A at *
 cases f<;>constructor<;>simp -implicitDefEqProofs[l228_0,nm2,nmX,nmY,hc,t1,t2,b1,b2]
structure Gc where
 f:Bool
 P:List UInt32
 S:List UInt32
 P2:List UInt32
 S2:List UInt32
 X:Nat
 Y:Nat
theorem z32(G m n:Nat):∀y:Gc,((ofN y.X).length≤10000∧(ofN y.Y).length≤10000∧y.X%2=1∧y.Y%2=1∧Nat.gcd y.X y.Y=G) →
  ∃r,(∃(f:Bool) (P S:List UInt32),r=(Ex.n,(⟨[(5,.bs (nm2 f).1 1 1 P.length (ofN G).length),(7,.i .i64 m),(8,.i .i64 n)],[((nm2 f).1,⟨1,.own,1,Zb (P++(ofN G++S))⟩)],3⟩:St))) ∧
   Zf T 0 0 (.norm false [5,7,8]) l228_0 (Zgj y.f y.P (ofN y.X) y.S y.P2 (ofN y.Y) y.S2 m n)=some r:=by
 refine zas (fun y:Gc=>Zgj y.f y.P (ofN y.X) y.S y.P2 (ofN y.Y) y.S2 m n) _ (fun y=>y.X+y.Y) _ ?_
 rintro⟨f,P,S,P2,S2,X,Y⟩ ⟨hX,hY,oX,oY,hG⟩
 rcases Ybx X Y with h | h | h
 ·left;obtain⟨P',S',k,x,e1,e2,he⟩:=zah1 (T:=T) f P S P2 S2 X Y m n hX hY h;have hle:x≤Y-X:=by rw[e1];exact Ycd _ (Ybb (by decide))
  refine⟨⟨!f,P',S',P,S,x,X⟩,⟨?_,hX,e2,oX,?_⟩,by grind,he⟩
  ·have:=zar (show x≤Y by omega)
   grind
  grind[zq1,Nat.gcd_comm]
 ·subst h;obtain⟨h1,h2⟩:=zah2 (T:=T) f P S P2 S2 X m n hX rfl
  grind
 ·left;obtain⟨P',S',k,x,e1,e2,he⟩:=zah0 (T:=T) f P S P2 S2 X Y m n hX hY h;have hle:x≤X-Y:=by rw[e1];exact Ycd _ (Ybb (by decide))
  refine⟨⟨f,P',S',P2,S2,x,Y⟩,⟨?_,hY,e2,oY,?_⟩,by grind,he⟩
  ·have:=zar (show x≤X by omega)
   grind
  grind[zq1]
theorem zwe(a b:List UInt32)(ha:a.length≤10000)(hb:b.length≤10000):Za T 228 [.sl (Zb a) .an,.sl (Zb b) .an]=some (.sl (Zb (ofN (Nat.gcd (val a) (val b)))) .an):=by
 have n1:=zca (T:=T) a (by omega);have n2:=zca (T:=T) b (by omega);have la:=zad a;have lb:=zad b;rw[f228 _ rfl,b228];generalize val a=X at *
 generalize val b=Y at *
 have tY:List.take (ofN Y).length (ofN Y)=ofN Y:=Yb (Yd _);by_cases hX:X=0
 ·subst hX;rw[Nat.gcd_zero_left];simp -implicitDefEqProofs[n1,n2,tY]
 ·have eX:¬ ofN X=[]:=fun e=>hX (zap.1 e);by_cases hY:Y=0
  ·subst hY;rw[Yek];simp -implicitDefEqProofs[n1,n2,eX]
  ·have eY:¬ ofN Y=[]:=fun e=>hY (zap.1 e);obtain⟨P1,S1,x,m,e1,e2,e3,e4,e5,o1⟩:=zf2 (T:=T) [] (ofN X) [] (by omega) (by rw[zae];omega);obtain⟨P2,S2,y,n,g1,g2,g3,g4,g5,o2⟩:=zf2 (T:=T) [] (ofN Y) [] (by omega) (by rw[zae];omega);rw[zae]at e1 g1;obtain⟨_,⟨f,P,S,rfl⟩,hl⟩:=z32 (T:=T) (Nat.gcd x y) m n ⟨true,P1,S1,P2,S2,x,y⟩ ⟨by grind,by grind,e2,g2,rfl⟩;have hG:Nat.gcd X Y=2^(min m n)*Nat.gcd x y:=by rw[e1,g1];exact z40 e2 g2
   have hgl:(ofN (Nat.gcd x y)).length≤10000:=by
    have:=zar (Nat.gcd_le_left y (show 0<x by omega));omega
   have hdb:=zng (T:=T) (ofN (Nat.gcd x y)) (min m n) hgl (by omega);rw[zae,←hG]at hdb;simp only[Yaf,Yaq,Yag]at o1 o2;unfold Zgj at hl;have t1:List.take (ofN (Nat.gcd x y)).length (List.drop P.length (P++(ofN (Nat.gcd x y)++S)))=ofN (Nat.gcd x y):=by simp
   have b1:P.length+(ofN (Nat.gcd x y)).length≤(P++(ofN (Nat.gcd x y)++S)).length:=by simp
   have hmin:(if n<m then (n:Int) else (m:Int))=((min m n:Nat):Int):=by omega
   simp only[nm2,nmX,nmY,if_true]at hl;cases f<;>simp only[Y5,if_false,if_true]at hl<;>simp -implicitDefEqProofs[n1,n2,eX,eY,o1,o2,hl,hdb,hmin,mm2]
end
end Go.Ab
end
section
namespace Go.Ab
section
variable{T:Tbl}[Zaj T]
theorem zj2(n:Bool)(a:List UInt32)(ha:a.length≤1000000):Za T 39 [wh n a]=some (ez (wv n a)):=by
 have h:=zbi (T:=T) a ha;have hl:(0<(ofN (val a)).length)=(val a≠0):=by
  rw[eq_iff_iff,Yby];exact not_congr zap
 rw[zab Zaj.h39 rfl,b39];unfold wv;rw[z4q];cases n<;>simp -implicitDefEqProofs[h,hl]
theorem zsk(n:Bool)(a:List UInt32)(ha:a.length≤1000000):Za T 30 [wh n a]=some (.i .i64 (sgI (wv n a))):=by
 have h:=zj2 (T:=T) n a ha;obtain⟨z,hz⟩:∃z,z=wv n a:=⟨_,rfl⟩;rw[←hz]at h ⊢;rw[zab Zaj.h30 rfl,b30];have hl:((((ofN z.natAbs).length:Int) == 0))=decide (z=0):=by
  rw[Ycb];simp[zap]
 unfold sgI;by_cases h0:z=0
 ·subst h0;simp -implicitDefEqProofs[h]
 ·have h1:ofN z.natAbs≠[]:=fun h=>h0 (by have:=zap.1 h;omega);by_cases h2:z<0
  ·simp -implicitDefEqProofs[h,h1,h2]
  ·simp -implicitDefEqProofs[h,h0,h1,h2]
theorem zwg(n m:Bool)(a b:List UInt32)(ha:a.length≤10000)(hb:b.length≤10000):Za T 24 [wh n a,wh m b]=some (ez (wv n a+wv m b)):=by
 have hc:=zeh (T:=T) a b (by omega) (by omega);rw[zab Zaj.h24 rfl,b24];have fin:∀(s:Bool) (k:Nat),sg s k=wv n a+wv m b→(ofN k).length≤1000000→Za T 39 [wh s (ofN k)]=some (ez (wv n a+wv m b)):=by
  intro s k h1 h2;rw[zj2 (T:=T) s (ofN k) h2];have:wv s (ofN k)=sg s k:=by unfold wv;rw[zae]
  rw[this,h1]
 have hla:=zad a;have hlb:=zad b;obtain⟨z,hz⟩:∃z,z=wv n a+wv m b:=⟨_,rfl⟩;by_cases h:n=m
 ·subst h;have h1:=znc (T:=T) a b (by omega) (by omega);have h2:=fin n (val a+val b) (ziz _ _ _) (by
   have:=zb5 (x:=(val a:Int)) (y:=val b) (L:=10000) (by simpa using Yc hla ha) (by simpa using Yc hlb hb);have e:((val a:Int)+val b).natAbs=val a+val b:=by omega
   rw[e]at this;omega)
  rw[←hz]at h2 ⊢;simp -implicitDefEqProofs[h1,h2]
 ·by_cases hlt:val a<val b
  ·have h1:=znd (T:=T) b a (by omega) (by omega) (by omega);have h2:=fin m (val b-val a) (zny h hlt) (by have:=zar (Nat.sub_le (val b) (val a));omega);rw[←hz]at h2 ⊢;simp -implicitDefEqProofs[h,hc,zcu,hlt,h1,h2]
  ·have h1:=znd (T:=T) a b (by omega) (by omega) (by omega);have h2:=fin n (val a-val b) (znz h hlt) (by have:=zar (Nat.sub_le (val a) (val b));omega);rw[←hz]at h2 ⊢;simp -implicitDefEqProofs[h,hc,zcu,hlt,h1,h2]
theorem zsl(n:Bool)(a:List UInt32)(ha:a.length≤1000):Za T 35 [wh n a]=some (.s (Zc4 (wv n a))):=by
 have h1:=zj1 (T:=T) a ha;have h2:=zsk (T:=T) n a (by omega);have h3:=zd0 ha;have h4:1+(Zam (val a)).length≤9223372036854775807:=by omega
 rw[zab Zaj.h35 rfl,b35];unfold Zc4;rw[zxz];by_cases h:wv n a<0
 ·have h5:sgI (wv n a)=-1:=by unfold sgI;rw[if_pos h]
  simp -implicitDefEqProofs[h1,h2,h,h5,h4]
 ·have h5:¬ sgI (wv n a)<0:=by unfold sgI;rw[if_neg h];split<;>omega
  simp -implicitDefEqProofs[h1,h2,h,h5]
end
end Go.Ab
end
section
namespace Go.Ab
theorem z34(n:Bool)(x y:Nat):sg n (x*y)=sg n x*(y:Int):=by cases n<;>simp[sg,Int.neg_mul]
theorem z1h(q:Rat):val (fz q).2.2≠0:=by
 unfold fz;rw[zae];exact q.den_nz
section
variable{T:Tbl}[Z5 T][Zal T][Z1 T][Zah T][Z2 T][Zaj T][Zx T]
theorem zcj(x:Fz)(hx:fsz x≤10000):Za T 231 [efz x]=some (efz (fz (fv x))):=by
 obtain⟨n,a,d⟩:=x;have la:=zd3 (n,a,d);have ld:=zek (n,a,d);simp only at la ld;have n1:=zbi (T:=T) a (by omega);have n2:=zbi (T:=T) d (by omega);have la2:=zad a;have ld2:=zad d;have ho:=zig (T:=T) d;have hg:=zwe (T:=T) (ofN (val a)) (ofN (val d)) (by omega) (by omega);rw[zae,zae]at hg;show _=some (efz (fz (mkRat (sg n (val a)) (val d))));by_cases hd:val d=0
 ·rw[hd,Ye8,zph,zab Zx.h231 rfl,b231];rw[hd]at n2;simp -implicitDefEqProofs[n1,n2,show Zb [1]=[[u32 1]] from rfl]
 ·by_cases ha:val a=0
  ·have e0:mkRat (sg n (val a)) (val d)=0:=by rw[Rat.mkRat_eq_zero hd,ha];cases n<;>rfl
   have ed:¬ ofN (val d)=[]:=fun e=>hd (zap.1 e);rw[e0,zph,zab Zx.h231 rfl,b231];rw[ha]at n1;simp -implicitDefEqProofs[n1,n2,ed,show Zb [1]=[[u32 1]] from rfl]
  ·have ea:¬ ofN (val a)=[]:=fun e=>ha (zap.1 e);have ed:¬ ofN (val d)=[]:=fun e=>hd (zap.1 e);rw[z96 n (val a) hd,show decide (val a≠0)=true by grind,Yes];have gpos:Nat.gcd (val a) (val d)≠0:=by
    grind
   have glen:(ofN (Nat.gcd (val a) (val d))).length≤10000:=by
    have:=zar (Nat.gcd_le_right (val a) (Yar hd));omega
   have o1:=zj0 (T:=T) (ofN (val a)) (ofN (Nat.gcd (val a) (val d))) (by omega) glen (by rw[zae];omega);have o2:=zj0 (T:=T) (ofN (val d)) (ofN (Nat.gcd (val a) (val d))) (by omega) glen (by rw[zae];omega);rw[zae,zae]at o1 o2;rw[zab Zx.h231 rfl,b231];by_cases h1:val d=1
   ·rw[h1]at n2 ho ed ⊢;rw[Nat.gcd_one_right,Yfb,Yfb];simp -implicitDefEqProofs[n1,n2,ho,ea,ed]
   ·generalize ofN (val d/Nat.gcd (val a) (val d))=D' at *
    simp -implicitDefEqProofs[n1,n2,ho,ea,ed,h1,hg,o1,o2]
theorem zqs(n:Nat)(h:n<18446744073709551616):Za T 353 [u64 n]=some (.sl (Zb (ofN n)) .an):=by
 have e2:val [w32 n,w32 (n/4294967296)]=n:=by simp[zbx];omega
 have h2:=zbi (T:=T) [w32 n,w32 (n/4294967296)] (by simp);rw[e2]at h2;have h3:n/4294967296%4294967296=n/4294967296:=Yf (by omega);have h4:n/4294967296%18446744073709551616=n/4294967296:=Yf (by omega);rw[zab Zx.h353 rfl,b353];simp -implicitDefEqProofs[h3,h4,za9 _ _ _ (show n/4294967296<4294967296 by omega),h2]
theorem znh(k:Int)(h1:-9223372036854775808≤k)(h2:k<9223372036854775808):Za T 232 [.i .i64 k]=some (efz (fz (k:Rat))):=by
 have hu:Zb [1]=[[u32 1]]:=rfl;rw[zab Zx.h232 rfl,b232];by_cases hk:k<0
 ·have w1:IntKind.wrap .i64 (k+1)=k+1:=zac _ (by omega);have w2:IntKind.wrap .i64 (-(k+1))=-(k+1):=zac _ (by omega);have w3:(-(k+1)%18446744073709551616).toNat=k.natAbs-1:=by omega
  have c1:=zqs (T:=T) (k.natAbs-1) (by omega);have c2:=znc (T:=T) (ofN (k.natAbs-1)) [1] (by have:=zai (n:=k.natAbs-1) (k:=2) (by omega);omega) (by decide);have e1:val (ofN (k.natAbs-1))+val [1]=k.natAbs:=by rw[zae];show _+(1+4294967296*0)=_;omega
  rw[e1,hu]at c2;have c3:=zcj (T:=T) (true,ofN k.natAbs,[1]) (by
   have:=zai (n:=k.natAbs) (k:=2) (by omega)
   grind[fsz])
  have e2:fv (true,ofN k.natAbs,[1])=(k:Rat):=by
   unfold fv wv;simp only[zae];rw[show val [1]=1 from rfl,show sg true k.natAbs=k by unfold sg;grind];exact Rat.num_divInt_den (k:Rat)
  rw[e2]at c3
  change Za T 231 [.agg [.b true,.sl (Zb (ofN k.natAbs)) .an,.sl (Zb [1]) .an]]=_ at c3
  rw[hu]at c3;simp -implicitDefEqProofs[hk,w1,w2,w3,c1,c2,c3]
 ·have w3:(k%18446744073709551616).toNat=k.natAbs:=by omega
  have c1:=zqs (T:=T) k.natAbs (by omega);have c3:=zcj (T:=T) (false,ofN k.natAbs,[1]) (by
   have:=zai (n:=k.natAbs) (k:=2) (by omega)
   grind[fsz])
  have e2:fv (false,ofN k.natAbs,[1])=(k:Rat):=by
   unfold fv wv;simp only[zae];rw[show val [1]=1 from rfl,show sg false k.natAbs=k by unfold sg;grind];exact Rat.num_divInt_den (k:Rat)
  rw[e2]at c3
  change Za T 231 [.agg [.b false,.sl (Zb (ofN k.natAbs)) .an,.sl (Zb [1]) .an]]=_ at c3
  rw[hu]at c3;simp -implicitDefEqProofs[hk,w3,c1,c3]
theorem zsm:Za T 232 [.i .i64 0]=some (efz (fz 0)):=znh 0 (by decide) (by decide)
theorem zj3:Za T 232 [.i .i64 1]=some (efz (fz 1)):=znh 1 (by decide) (by decide)
theorem zb2(x y:Fz)(hx:fsz x≤10000):Za T 233 [efz x,efz y]=some (.b (decide (x=y))):=by
 obtain⟨n,a,d⟩:=x;obtain⟨m,b,e⟩:=y;have la:=zd3 (n,a,d);have ld:=zek (n,a,d);simp only at la ld;have c1:=zjz (T:=T) a b (by omega);have c2:=zjz (T:=T) d e (by omega);rw[zab Zx.h233 rfl,b233];by_cases h1:n=m
 ·subst h1;by_cases h2:a=b
  ·subst h2;by_cases h3:d=e
   ·simp -implicitDefEqProofs[c1,c2]
   ·simp -implicitDefEqProofs[c1,c2,h3]
  ·simp -implicitDefEqProofs[c1,h2]
 ·simp -implicitDefEqProofs[h1]
theorem zj4(x:Fz)(k:Nat):Za T 247 [efz x,.i .i64 k]=some (.b (decide (k<fsz x))):=by
 obtain⟨n,a,d⟩:=x;unfold fsz;rw[zab Zx.h247 rfl,b247];by_cases h1:k<a.length
 ·have h3:k<max a.length d.length:=by omega
  simp -implicitDefEqProofs[h1,h3]
 ·by_cases h2:k<d.length
  ·have h3:k<max a.length d.length:=by omega
   simp -implicitDefEqProofs[h1,h2,h3]
  ·have h3:¬ k<max a.length d.length:=by omega
   simp -implicitDefEqProofs[h1,h2,h3]
theorem zwh(x:Fz)(hx:fsz x≤10000):Za T 237 [efz x]=some (efz (fz (-fv x))):=by
 obtain⟨n,a,d⟩:=x;have c3:=zcj (T:=T) (!n,a,d) hx;have e1:fv (!n,a,d)=-fv (n,a,d):=by
  grind[fv,wv,z1n,Rat.neg_mkRat]
 rw[e1]at c3;rw[zab Zx.h237 rfl,b237];simp -implicitDefEqProofs[c3]
theorem zwi(x y:Fz)(hx:fsz x≤1000)(hy:fsz y≤1000)(h1:val x.2.2≠0)(h2:val y.2.2≠0):Za T 239 [efz x,efz y]=some (efz (fz (fv x+fv y))):=by
 obtain⟨n,a,d⟩:=x;obtain⟨m,b,e⟩:=y;have la:=zd3 (n,a,d);have ld:=zek (n,a,d);have lb:=zd3 (m,b,e);have le:=zek (m,b,e);simp only at la ld lb le h1 h2;have c1:=zf1 (T:=T) a e (by omega) (by omega);have c2:=zf1 (T:=T) b d (by omega) (by omega);have c4:=zf1 (T:=T) d e (by omega) (by omega);have l1:(ofN (val a*val e)).length≤2000:=by
  have:=zbo (x:=val a) (y:=val e) (L:=1000) (M:=1000) (Yc (zad a) (by omega)) (Yc (zad e) (by omega));omega
 have l2:(ofN (val b*val d)).length≤2000:=by
  have:=zbo (x:=val b) (y:=val d) (L:=1000) (M:=1000) (Yc (zad b) (by omega)) (Yc (zad d) (by omega));omega
 have l4:(ofN (val d*val e)).length≤2000:=by
  have:=zbo (x:=val d) (y:=val e) (L:=1000) (M:=1000) (Yc (zad d) (by omega)) (Yc (zad e) (by omega));omega
 have c3:=zwg (T:=T) n m (ofN (val a*val e)) (ofN (val b*val d)) (by omega) (by omega);have e3:wv n (ofN (val a*val e))+wv m (ofN (val b*val d))=sg n (val a)*(val e:Int)+sg m (val b)*(val d:Int):=by
  grind[wv,zae,z34]
 have l3:(ofN (sg n (val a)*(val e:Int)+sg m (val b)*(val d:Int)).natAbs).length≤3000:=by
  rw[←e3];have:=zb5 (x:=wv n (ofN (val a*val e))) (y:=wv m (ofN (val b*val d))) (L:=2000) (Yc (zcf _ _) l1) (Yc (zcf _ _) l2);omega
 rw[e3]at c3;obtain⟨z,hz⟩:∃z,z=sg n (val a)*(val e:Int)+sg m (val b)*(val d:Int):=⟨_,rfl⟩;rw[←hz]at c3 l3;have c5:=zcj (T:=T) (decide (z<0),ofN z.natAbs,ofN (val d*val e)) (by unfold fsz;grind);have e1:fv (decide (z<0),ofN z.natAbs,ofN (val d*val e))=fv (n,a,d)+fv (m,b,e):=by
  unfold fv;simp only[zae,zg2];rw[hz];exact(Yd9 _ _ h1 h2).symm
 rw[e1]at c5;rw[zab Zx.h239 rfl,b239];simp -implicitDefEqProofs[c1,c2,c3,c4,c5,zh2]
theorem zj5(p q:Rat)(hp:sz p≤1000)(hq:sz q≤1000):Za T 239 [efz (fz p),efz (fz q)]=some (efz (fz (p+q))):=by
 have:=zwi (T:=T) (fz p) (fz q) hp hq (z1h p) (z1h q)
 simp_all
end
end Go.Ab
end
section
namespace Go.Ab
section
variable{T:Tbl}[Z5 T][Zal T][Z1 T][Zah T][Z2 T][Zaj T][Zx T][Zai T]
def Zph(n i:Nat):St:=⟨[(0,.i .i64 n),(3,.bs (.loc 3) 1 3 0 i),(4,.i .i64 i)],[(.loc 3,⟨1,.own,3,Zd (List.replicate i (fz 0))⟩)],3⟩
def Zkl(l:List Fz)(i:Nat):St:=⟨[(0,.sl (Zd l) .an),(3,.bs (.loc 3) 1 3 0 i),(4,.i .i64 i)],[(.loc 3,⟨1,.own,3,Zd (nrm (l.take i))⟩)],3⟩
theorem zsn(l:List Fz)(hl:l.length≤1000)(hw:∀x∈l,fsz x≤1000) :
  Zf T 0 0 (.norm false [3]) l278_0 (Zkl l 0)=some (.n,⟨[(3,.bs (.loc 3) 1 3 0 l.length)],[(.loc 3,⟨1,.own,3,Zd (nrm l)⟩)],3⟩):=by
 refine zay (Zkl l) l.length _ (fun i hi=>?_) ?_
 ·have hg:l[i]? = some (l[i]'hi):=Ya hi;have hws:=zbs hi (by omega);have hn:=zcj (T:=T) (l[i]'hi) (Yc (hw _ (Yj hi)) (by decide));have e:nrm (l.take (i+1))=nrm (l.take i)++[fz (fv (l[i]'hi))]:=zbq l _ hi;have hml:(nrm (l.take i)).length=i:=by simp[nrm];omega
  have hp:=zcx hml (fz (fv (l[i]'hi)));unfold Zkl;rw[e];clear e;generalize nrm (l.take i)=M at *
  generalize fz (fv (l[i]'hi))=z at *
  have hb:i≤4294967295:=by omega
  simp -implicitDefEqProofs[l278_0,hi,hws,hn,hp,hml,hb]
 ·unfold Zkl;rw[Yb (Yd _)];generalize nrm l=M;constructor<;>simp -implicitDefEqProofs[l278_0]
theorem zdx(l:List Fz)(hl:l.length≤1000)(hw:∀x∈l,fsz x≤1000):Za T 278 [.sl (Zd l) .an]=some (.sl (Zd (nrm l)) .an):=by
 have h:=zsn (T:=T) l hl hw;unfold Zkl at h;have e:nrm (l.take 0)=[]:=rfl;rw[e]at h;simp only[za8,Yv]at h;have hl2:(nrm l).length=l.length:=by simp[nrm]
 have ht:List.take l.length (nrm l)=nrm l:=Yb (by omega);rw[zab Zai.h278 rfl,b278];simp -implicitDefEqProofs[h,ht,hl2]
def Zjs(a b:List Fz)(i:Nat):St:=⟨[(0,.sl (Zd a) .an),(1,.sl (Zd b) .an),(5,.i .i64 i)],[],2⟩
theorem zso(a b:List Fz)(hab:a.length=b.length)(hl:a.length≤1000)(ha:∀x∈a,fsz x≤10000) :
  Zf T 0 0 (.norm false []) l279_0 (Zjs a b 0)=if a.drop 0=b.drop 0 then some (.n,⟨[],[],2⟩) else some (.r,⟨[(4,.b false)],[],2⟩):=by
 refine za0 (Zjs a b) a.length (fun i=>if a.drop i=b.drop i then some (.n,⟨[],[],2⟩) else some (.r,⟨[(4,.b false)],[],2⟩)) (fun i hi=>?_) ?_
 ·have hga:a[i]? = some (a[i]'hi):=Ya hi;have hib:i<b.length:=by omega
  have hgb:b[i]? = some (b[i]'hib):=Ya hib;have hws:=zbs hi (by omega);have c:=zb2 (T:=T) (a[i]'hi) (b[i]'hib) (ha _ (Yj hi));have hib':(i:Int)<b.length:=by omega
  have key:(a.drop i=b.drop i)↔((a[i]'hi)=(b[i]'hib)∧a.drop (i+1)=b.drop (i+1)):=by
   grind[List.drop_eq_getElem_cons]
  by_cases he:(a[i]'hi)=(b[i]'hib)
  ·left;refine⟨?_,by grind⟩;unfold Zjs;rw[decide_eq_true he]at c;clear he;simp -implicitDefEqProofs[l279_0,hi,hws,c,hib,hib']
  ·right;rw[if_neg (fun h=>he (key.1 h).1)];unfold Zjs;rw[decide_eq_false he]at c;clear he;constructor<;>simp -implicitDefEqProofs[l279_0,hi,c,hib,hib']
 ·rw[Y7,if_pos (by rw[hab,Y7])];unfold Zjs;constructor<;>simp -implicitDefEqProofs[l279_0]
theorem zck(a b:List Fz)(hl:a.length≤1000)(ha:∀x∈a,fsz x≤10000):Za T 279 [.sl (Zd a) .an,.sl (Zd b) .an]=some (.b (decide (a=b))):=by
 rw[zab Zai.h279 rfl,b279];by_cases hab:a.length=b.length
 ·have h:=zso (T:=T) a b hab hl ha;rw[Yaa,Yaa]at h;unfold Zjs at h;simp only[Yv]at h;have hab':(b.length:Int)=a.length:=by omega
  by_cases he:a=b
  ·subst he;rw[if_pos rfl]at h;simp -implicitDefEqProofs[h]
  ·rw[if_neg he]at h;simp -implicitDefEqProofs[hab',h,he]
 ·have he:¬ a=b:=fun h=>hab (by rw[h]);have hab':¬ (a.length:Int)=b.length:=by omega
  simp -implicitDefEqProofs[hab',he]
def Zpi(p q:List Rat)(i:Nat):St:=⟨[(0,.sl (Zd (fzs p)) .an),(1,.sl (Zd (fzs q)) .an),(5,.bs (.loc 5) 1 3 0 i),(6,.i .i64 i)],[(.loc 5,⟨1,.own,3,Zd (fzs ((Zbn p (fzs q)).take i))⟩)],3⟩
def Zpj(p q:List Rat)(i:Nat):St:=⟨[(0,.sl (Zd (fzs p)) .an),(1,.sl (Zd (fzs q)) .an),(4,.ptr (.loc 4) 1 3 0 0),(5,.ptr (.loc 5) 2 3 0 0),(6,.i .i64 i)],
 [(.loc 4,⟨1,.str,3,[Zdx]⟩),(.loc 5,⟨2,.str,3,[Zdi (fz (Zko (fzs p) (fzs q) i))]⟩)],4⟩
def Zbm(l:List Fz)(many words:Nat):Bool:=decide (many<l.length) || l.any fun x=>decide (words<fsz x)
def Zgk(l:List Fz)(many words:Nat)(i:Nat):St:=⟨[(0,.sl (Zd l) .an),(1,.i .i64 many),(2,.i .i64 words),(7,.i .i64 i)],[],2⟩
theorem zsp(l:List Fz)(many words:Nat)(hl:l.length≤many)(hm:many≤1000) :
  Zf T 0 0 (.norm false [0,1]) l286_0 (Zgk l many words 0)=if (l.drop 0).any (fun x=>decide (words<fsz x))=true then some (.r,⟨[(6,.b true)],[],2⟩) else some (.n,⟨[(0,.sl (Zd l) .an),(1,.i .i64 many)],[],2⟩):=by
 refine za0 (Zgk l many words) l.length (fun i=>if (l.drop i).any (fun x=>decide (words<fsz x))=true then some (.r,⟨[(6,.b true)],[],2⟩) else some (.n,⟨[(0,.sl (Zd l) .an),(1,.i .i64 many)],[],2⟩)) (fun i hi=>?_) ?_
 ·have hga:l[i]? = some (l[i]'hi):=Ya hi;have hws:=zbs hi (by omega);have c:=zj4 (T:=T) (l[i]'hi) words;have h3:(i:Int)<many:=by omega
  have h4:i<many:=by omega
  have key:(l.drop i).any (fun x=>decide (words<fsz x))=(decide (words<fsz (l[i]'hi)) || (l.drop (i+1)).any fun x=>decide (words<fsz x)):=by
   rw[Yi hi,List.any_cons]
  by_cases he:words<fsz (l[i]'hi)
  ·right;rw[if_pos (by rw[key,decide_eq_true he,Bool.true_or])];rw[decide_eq_true he]at c;unfold Zgk;clear key he;constructor<;>simp -implicitDefEqProofs[l286_0,hi,h3,c]
  ·left;refine⟨?_,by grind⟩;rw[decide_eq_false he]at c;unfold Zgk;clear key he;simp -implicitDefEqProofs[l286_0,hi,h3,hws,c]
 ·rw[Y7,if_neg (by simp)];unfold Zgk;constructor<;>simp -implicitDefEqProofs[l286_0]
theorem zsq(l:List Fz)(many words:Nat)(hl:l.length≤many)(hm:many≤1000):Za T 286 [.sl (Zd l) .an,.i .i64 many,.i .i64 words]=some (.b (Zbm l many words)):=by
 have h:=zsp (T:=T) l many words hl hm;rw[Yaa]at h;unfold Zgk at h;simp only[Yv]at h;have h1:¬ (many:Int)<l.length:=by omega
 have h2:¬ many<l.length:=by omega
 unfold Zbm;rw[zab Zai.h286 rfl,b286];cases hc:l.any fun x=>decide (words<fsz x) with
 | true=>
  rw[hc,if_pos rfl]at h;simp -implicitDefEqProofs[h,h2]
 | false=>
  rw[hc,if_neg (by decide)]at h;simp -implicitDefEqProofs[h,h1,h2]
theorem zsr(l:List Fz)(many words:Nat)(hl:many<l.length)(hm:many≤1000) :
  ∃r,(r=some (.r,(⟨[(6,.b true)],[],2⟩:St))∨r=some (.n,⟨[(0,.sl (Zd l) .an),(1,.i .i64 many)],[],2⟩))∧Zf T 0 0 (.norm false [0,1]) l286_0 (Zgk l many words 0)=r:=by
 obtain⟨G,hG⟩:∃G:Nat→Option (Ex×St),G=fun i=>if ((l.take many).drop i).any (fun x=>decide (words<fsz x))=true then some (.r,⟨[(6,.b true)],[],2⟩) else some (.n,⟨[(0,.sl (Zd l) .an),(1,.i .i64 many)],[],2⟩):=⟨_,rfl⟩
 refine⟨G 0,?_,za0 (Zgk l many words) many G (fun i hi=>?_) ?_⟩
 ·grind
 ·have hil:i<l.length:=by omega
  have hil':(i:Int)<l.length:=by omega
  have hga:l[i]? = some (l[i]'hil):=Ya hil;have hws:=zbs hi (by omega);have c:=zj4 (T:=T) (l[i]'hil) words;have key:((l.take many).drop i).any (fun x=>decide (words<fsz x))=(decide (words<fsz (l[i]'hil)) || ((l.take many).drop (i+1)).any fun x=>decide (words<fsz x)):=by
   grind[List.drop_eq_getElem_cons]
  by_cases he:words<fsz (l[i]'hil)
  ·right;rw[hG];simp only;rw[if_pos (by rw[key,decide_eq_true he,Bool.true_or])];rw[decide_eq_true he]at c;unfold Zgk;clear key he hG;constructor<;>simp -implicitDefEqProofs[l286_0,hi,hil,hil',c]
  ·left;refine⟨?_,by grind⟩;rw[decide_eq_false he]at c;unfold Zgk;clear key he hG;simp -implicitDefEqProofs[l286_0,hi,hil,hil',hws,c]
 ·rw[hG];simp only;rw[Ya9 (by grind),if_neg (by simp)];have h1:(many:Int)<l.length:=by omega
  unfold Zgk;constructor<;>simp -implicitDefEqProofs[l286_0,h1]
theorem zo3(l:List Fz)(many words:Nat)(hl:many<l.length)(hm:many≤1000):Za T 286 [.sl (Zd l) .an,.i .i64 many,.i .i64 words]=some (.b true):=by
 obtain⟨r,hr,h⟩:=zsr (T:=T) l many words hl hm;unfold Zgk at h;simp only[Yv]at h;have h1:(many:Int)<l.length:=by omega
 rw[zab Zai.h286 rfl,b286];rcases hr with rfl | rfl
 ·simp -implicitDefEqProofs[h]
 ·simp -implicitDefEqProofs[h,hl]
theorem zdy(l:List Fz)(many words:Nat)(hm:many≤1000):Za T 286 [.sl (Zd l) .an,.i .i64 many,.i .i64 words]=some (.b (Zbm l many words)):=by
 grind[zo3,Zbm,zsq]
theorem zdz{l:List Fz}{many words:Nat}(h:Zbm l many words=false):l.length≤many∧∀x∈l,fsz x≤words:=by
 grind[Zbm]
end
end Go.Ab
end
section
namespace Go.Ab
theorem z4b{x j:Nat}(h1:2^j≤x)(h2:x<2^(j+1)):Z0 x=j+1:=by
 have hx:x≠0:=by
  have:=Ybb (n:=j) (show 0<2 by decide);omega
 unfold Z0;rw[if_neg hx,(Nat.log2_eq_iff hx).2 ⟨h1,h2⟩]
def Zi8(n:Int):Nat:=(min (max n 0) 300).toNat
section
variable{T:Tbl}[Z1 T]
theorem z0a(a:List UInt32)(hl:a.length≤1000000):∀y:Nat,(y≤32*a.length∧val a<2^y)→Zf T 0 0 (.norm false [3]) l95_0 (Zhd a y)=some (.n,⟨[(3,.i .i64 (Z0 (val a)))],[],2⟩):=by
 refine zaq (Zhd a) (fun y=>y≤32*a.length∧val a<2^y) (fun y=>y) (fun _=>_) ?_
 rintro k ⟨hk,hv⟩
 by_cases h0:k=0
 ·right;subst h0;have hz:val a=0:=by
   rw[Ydf]at hv;omega
  have hb:Z0 (val a)=0:=by rw[hz];rfl
  rw[hb];constructor<;>simp -implicitDefEqProofs[l95_0,Zhd]
 ·obtain⟨j,rfl⟩:∃j,k=j+1:=⟨k-1,by omega⟩;have hw:IntKind.wrap .i64 (j:Int)=(j:Int):=zac _ (by omega);have hh:=zne (T:=T) a j hl (by omega);have hp:(0:Int)<(j:Int)+1:=by omega
  by_cases h1:val a/2^j%2=1
  ·right;have hge:2^j≤val a:=by
    rcases Yo (val a) (2^j) with h | h
    ·rw[Ybe h]at h1;omega
    ·exact h
   rw[z4b hge hv];clear hge hv;constructor<;>simp -implicitDefEqProofs[l95_0,Zhd,hw,hh,hp,h1]
  ·left;refine⟨j,⟨by omega,znu hv (by generalize val a/2^j=q at *;omega)⟩,by omega,?_,rfl⟩;clear hv;simp -implicitDefEqProofs[l95_0,Zhd,hw,hh,hp,h1]
theorem zj8(a:List UInt32)(hl:a.length≤1000000):Za T 95 [.sl (Zb a) .an]=some (.i .i64 (Z0 (val a))):=by
 have hr:=z0a (T:=T) a hl (32*a.length) ⟨Yd _,by rw[←zlk];exact zax a⟩;unfold Zhd at hr;simp at hr;have hw:IntKind.wrap .i64 (32*(a.length:Int))=32*(a.length:Int):=by
  have:=zac (32*a.length) (by omega);simpa using this
 rw[zab Z1.h95 rfl,b95];simp -implicitDefEqProofs[hr,hw]
end
section
variable{T:Tbl}[Zq T][Zw T][Zz T][Zs T][Zu T][Zaz T][Ze T][Zl T][Zv T][Zav T][Zbf T]
def Zoo(n i:Int):List Rat:=if 0≤i∧i<Zi8 n then (List.replicate (Zi8 n) 0).set i.toNat 1 else List.replicate (Zi8 n) 0
end
section
variable{T:Tbl}[Z5 T][Zal T][Z1 T][Zah T][Z2 T][Zaj T][Zx T][Zai T]
def Zop(n:Int)(i:Nat):St:=⟨[(0,.i .i64 n),(3,.bs (.loc 3) 1 3 0 i),(4,.i .i64 i)],[(.loc 3,⟨1,.own,3,Zd (List.replicate i (fz 0))⟩)],3⟩
end
end Go.Ab
end
section
namespace Go.Ab
theorem zmz{m:List (List Fz)}{n:Nat}(h:m.length=n)(r:List Fz):wkL (Zt (List.take n m)++[[.sl (Zd r) .an]])=Zt (m++[r]):=by
 rw[Yb (by omega),zx3,z4z]
theorem zh8{α:Type}(l:List α){i:Nat}(h:i<l.length):l.take (i+1)=l.take i++[l[i]'h]:=Yap h
section
variable{T:Tbl}[Z5 T][Zal T][Z1 T][Zah T][Z2 T][Zaj T][Zx T][Zai T][Zcx T][Zce T]
theorem zza(x:Fz):Za T 248 [efz x]=some (efz x):=by
 rw[zab Zcx.h248 rfl,b248];simp -implicitDefEqProofs
theorem zzb(x:Fz):Za T 249 [efz x]=some (efz x):=by
 rw[zab Zcx.h249 rfl,b249];simp -implicitDefEqProofs
def Zg9(l:List Fz)(i:Nat):St:=⟨[(0,.sl (Zd l) .an),(3,.bs (.loc 3) 1 3 0 i),(4,.i .i64 i)],[((.loc 3),⟨1,.own,3,Zd (l.take i)⟩)],3⟩
theorem zvn(l:List Fz)(hl:l.length≤4294967296) :
  Zf T 0 0 (.norm false [3]) l287_0 (Zg9 l 0)=some (.n,⟨[(3,.bs (.loc 3) 1 3 0 (l.length))],[((.loc 3),⟨1,.own,3,Zd (l.take (l.length))⟩)],3⟩):=by
 refine zay (Zg9 l) (l.length) _ (fun i hi=>?_) ?_
 ·have hws:=zbs hi (by omega);have hb:i≤4294967295:=by omega
  have hg:l[i]? = some (l[i]'hi):=Ya hi;have hn:=zza (T:=T) (l[i]'hi);have e:=zh8 l hi;have hml:(l.take i).length=i:=by simp;omega
  have hp:=zcx hml (l[i]'hi);unfold Zg9;rw[e];clear e;generalize l.take i=M at *
  simp -implicitDefEqProofs[l287_0,hi,hws,hb,hp,hml,hg,hn]
 ·unfold Zg9;rw[Yb (Yd _)];constructor<;>simp -implicitDefEqProofs[l287_0]
theorem zg7(l:List Fz)(hl:l.length≤4294967296):Za T 287 [.sl (Zd l) .an]=some (.sl (Zd l) .an):=by
 have h:=zvn (T:=T) l hl;unfold Zg9 at h;rw[Yb8,Yb (Yd _)]at h;simp only[za8,Yv]at h;have ht:List.take l.length l=l:=Yb (Yd _);rw[zab Zce.h287 rfl,b287];simp -implicitDefEqProofs[h,ht]
def Zha(l:List Fz)(i:Nat):St:=⟨[(0,.sl (Zd l) .an),(3,.bs (.loc 3) 1 3 0 i),(4,.i .i64 i)],[((.loc 3),⟨1,.own,3,Zd (l.take i)⟩)],3⟩
theorem zvo(l:List Fz)(hl:l.length≤4294967296) :
  Zf T 0 0 (.norm false [3]) l288_0 (Zha l 0)=some (.n,⟨[(3,.bs (.loc 3) 1 3 0 (l.length))],[((.loc 3),⟨1,.own,3,Zd (l.take (l.length))⟩)],3⟩):=by
 refine zay (Zha l) (l.length) _ (fun i hi=>?_) ?_
 ·have hws:=zbs hi (by omega);have hb:i≤4294967295:=by omega
  have hg:l[i]? = some (l[i]'hi):=Ya hi;have hn:=zzb (T:=T) (l[i]'hi);have e:=zh8 l hi;have hml:(l.take i).length=i:=by simp;omega
  have hp:=zcx hml (l[i]'hi);unfold Zha;rw[e];clear e;generalize l.take i=M at *
  simp -implicitDefEqProofs[l288_0,hi,hws,hb,hp,hml,hg,hn]
 ·unfold Zha;rw[Yb (Yd _)];constructor<;>simp -implicitDefEqProofs[l288_0]
theorem zzc(l:List Fz)(hl:l.length≤4294967296):Za T 288 [.sl (Zd l) .an]=some (.sl (Zd l) .an):=by
 have h:=zvo (T:=T) l hl;unfold Zha at h;rw[Yb8,Yb (Yd _)]at h;simp only[za8,Yv]at h;have ht:List.take l.length l=l:=Yb (Yd _);rw[zab Zce.h288 rfl,b288];simp -implicitDefEqProofs[h,ht]
theorem zqk(a b:List Fz)(hl:a.length≤1000)(ha:∀x∈a,fsz x≤10000):Za T 289 [.sl (Zd a) .an,.sl (Zd b) .an]=some (.b (decide (a=b))):=by
 have h1:=zzc (T:=T) a (by omega);have h2:=zck (T:=T) a b hl ha;rw[zab Zce.h289 rfl,b289];simp -implicitDefEqProofs[h1,h2]
end
end Go.Ab
end
section
namespace Go.Ab
def Zlx:List (List Fz)→Nat
 | []=>0
 | r::_=>r.length
def Zm7(m:List (List Fz)):Bool:=m.all fun r=>decide (r.length=Zlx m)
def Zme(m:List (List Fz))(j:Nat):List Fz:=m.map fun r=>r.getD j (false,[],[])
def Zmf(m:List (List Fz))(k:Nat):List (List Fz):=(List.range k).map fun j=>nrm (Zme m j)
def scM(r:List Fz)(m:List (List Fz)):List (List Fz):=List.zipWith (fun x row=>scl (fv x) row) r m
def Zm8:List (List Fz)→List Rat
 | []=>[]
 | r::m=>m.foldl Zbn (r.map fv)
def Zmg(r:List Fz)(m:List (List Fz)):List Rat:=Zm8 (scM r m)
def Zly(m:List (List Fz))(c:List Fz):List Rat:=m.map fun r=>Zi7 r c
section
variable{T:Tbl}[Zq T][Zw T][Zz T][Zs T][Zu T][Zaz T][Ze T][Zl T][Zv T][Zav T][Zbf T][Zg5 T]
def Znz(m:List (List Fz))(i:Nat):St:=⟨[(0,.sl (Zt m) .an),(5,.sl (Zt m) .an),(6,.i .i64 m.length),(7,.i .i64 i)],[],2⟩
def Zn0(a b:List (List Fz))(i:Nat):St:=⟨[(1,.sl (Zt b) .an),(12,.sl (Zt a) .an),(13,.i .i64 a.length),(14,.i .i64 i)],[],2⟩
def idQ(k:Nat)(i:Nat):List (List Fz):=(List.range i).map fun j=>fzs ((List.replicate k 0).set j 1)
def Zn1(k:Nat)(i:Nat):St:=⟨[(0,.i .i64 k),(3,.bs (.loc 3) 1 1 0 i),(8,.i .i64 k),(9,.i .i64 i)],[((.loc 3),⟨1,.own,1,Zt (idQ k i)⟩)],3⟩
def Zn2(m R:List (List Fz))(k j:Nat)(i:Nat):St:=⟨[(0,.sl (Zt m) .an),(3,.bs (.loc 3) 1 1 0 j),(4,.i .i64 j),(5,.bs (.loc 5) 2 3 0 i),(12,.i .i64 k),(13,.i .i64 j),(16,.sl (Zt m) .an),(17,.i .i64 m.length),(18,.i .i64 i)],[(.loc 3,⟨1,.own,1,Zt R⟩),((.loc 5),⟨2,.own,3,Zd (nrm (Zme (m.take i) j))⟩)],4⟩
def Zm0(m:List (List Fz))(k:Nat)(i:Nat):St:=⟨[(0,.sl (Zt m) .an),(3,.bs (.loc 3) 1 1 0 i),(12,.i .i64 k),(13,.i .i64 i)],[((.loc 3),⟨1,.own,1,Zt (Zmf m i)⟩)],3⟩
end
end Go.Ab
end
section
namespace Go.Ab
section
variable{T:Tbl}[Zq T][Zw T][Zz T][Zs T][Zu T][Zaz T][Ze T][Zl T][Zv T][Zav T][Zbf T][Zg5 T]
def Zn3(r:List Fz)(m:List (List Fz))(i:Nat):St:=⟨[(0,.sl (Zd r) .an),(6,.bs (.loc 6) 1 1 0 i),(19,.sl (Zt m) .an),(20,.i .i64 m.length),(21,.i .i64 i)],[((.loc 6),⟨1,.own,1,Zt (scM (r.take i) (m.take i))⟩)],3⟩
def Zn4(m:List (List Fz))(c:List Fz)(i:Nat):St:=⟨[(1,.sl (Zd c) .an),(6,.bs (.loc 6) 1 3 0 i),(21,.sl (Zt m) .an),(22,.i .i64 m.length),(23,.i .i64 i)],[((.loc 6),⟨1,.own,3,Zd (fzs (Zly (m.take i) c))⟩)],3⟩
def Zm9(a b:List (List Fz)):List (List Fz):=a.map fun r=>fzs (Zmg r b)
def Zn5(a m:List (List Fz))(i:Nat):St:=⟨[(1,.sl (Zt m) .an),(6,.bs (.loc 6) 1 1 0 i),(26,.sl (Zt a) .an),(27,.i .i64 a.length),(28,.i .i64 i)],[((.loc 6),⟨1,.own,1,Zt (Zm9 (a.take i) m)⟩)],3⟩
def Zna(a b:List (List Fz)):List (List Fz):=List.zipWith (fun r s=>fzs (Zbn (r.map fv) s)) a b
def Zn6(a m:List (List Fz))(i:Nat):St:=⟨[(1,.sl (Zt m) .an),(6,.bs (.loc 6) 1 1 0 i),(33,.sl (Zt a) .an),(34,.i .i64 a.length),(35,.i .i64 i)],[((.loc 6),⟨1,.own,1,Zt (Zna (a.take i) (m.take i))⟩)],3⟩
end
end Go.Ab
end
section
namespace Go.Ab
def Zmr:List Rat→List Rat→Rat
 | x::a,y::b=>x*y+Zmr a b
 | _,_=>0
def Zei(m:List (List Fz)):List (List Rat):=m.map fun r=>r.map fv
def fzM(L:List (List Rat)):List (List Fz):=L.map fzs
@[simp] theorem z6w(L:List (List Rat)):(fzM L).length=L.length:=by simp[fzM]
@[simp] theorem z41(m:List (List Fz)):(Zei m).length=m.length:=by simp[Zei]
theorem zq2(m:List (List Fz)):fzM (Zei m)=m.map nrm:=by
 unfold Zei fzM;rw[Ybp];exact Ydb fun r _=>(zw0 r).symm
def Zk0:List (List Rat)→Nat
 | []=>0
 | r::_=>r.length
def Zns(L:List (List Rat)):Bool:=L.all fun r=>decide (r.length=Zk0 L)
def Zl1(L:List (List Rat))(j:Nat):List Rat:=L.map fun p=>p.getD j 0
def Zms(L:List (List Rat)):List (List Rat):=(List.range (Zk0 L)).map (Zl1 L)
def Zk1(L:List (List Rat))(c:List Rat):List Rat:=L.map fun p=>Zmr p c
def Zos(r:List Rat)(L:List (List Rat)):List Rat:=Zk1 (Zms L) r
end Go.Ab
end
section
namespace Go.Ab
def Zmb(q:Rat):Rat:=if q<0 then -q else q
end Go.Ab
end
section
namespace Go.Ab
theorem z0t(acc:List Rat)(r:List Fz):Zbn acc r=List.zipWith (· + ·) acc (r.map fv):=by
 unfold Zbn;rw[List.zipWith_map_right]
theorem z0u(acc b:List Rat):Zbn acc (fzs b)=List.zipWith (· + ·) acc b:=by
 rw[z0t,z9p]
def Zc9(c:Rat)(l:List Rat):List Rat:=l.map fun x=>c*x
theorem z42(c:Rat)(l:List Fz):scl c l=fzs (Zc9 c (l.map fv)):=by
 rw[z38];unfold Zc9;rw[Ybp]
 rfl
theorem z0v(c:Rat)(l:List Rat):(Zc9 c l).length=l.length:=by simp[Zc9]
theorem zx8{c:Rat}{l:List Rat}{B C:Nat}(hc:sz c≤C)(hl:∀q∈l,sz q≤B):∀q∈Zc9 c l,sz q≤C+B:=by
 intro q hq;obtain⟨x,hx,rfl⟩:=Yab.1 hq;have h1:=z97 c x;have h2:=hl x hx;omega
def Zfo(a b:List Rat):List Rat:=List.zipWith (· + ·) a b
theorem z43{a b:List Rat}{A B:Nat}(ha:∀q∈a,sz q≤A)(hb:∀q∈b,sz q≤B):∀q∈Zfo a b,sz q≤A+B+1:=by
 intro q hq;obtain⟨i,hi,rfl⟩:=List.getElem_of_mem hq;simp only[Zfo,List.length_zipWith]at hi;simp only[Zfo,Yd1];have h1:=zx2 (a[i]'(by omega)) (b[i]'(by omega));have h2:=ha _ (Yj (show i<a.length by omega));have h3:=hb _ (Yj (show i<b.length by omega));omega
def Zlg(b x:Rat):Rat:=if b<Zmb x then Zmb x else b
def Zlq(l:List Rat):Rat:=l.foldl Zlg 0
def Znw:List (Rat×List Rat)→List Rat→List Rat
 | [],acc=>acc
 | p::l,acc=>Znw l (Zfo acc (Zc9 p.1 p.2))
end Go.Ab
end