/-
  A calculus of values, boxes and code, and what functions of the program compute, proved in it.
  Conditions: none beyond those that the theorems state. (Part 5: QhTab, QhBld, TxHalf, GpTrim, AxWp, QhEnd, TxJoin, TxJoinOk, QhJoin, Ab25, Ab26, Ab27, AxTop, NmFrac, AxTop2, QhSign, NmGcd, GpCommon, GpWhole, GpFrac, GpRow, GpRow2, GpMix, GpSpan, AxTop3, GcRow5, GpRow3, GpRef06, GpRef08, GpRef09, GpRef11, GpRow4, GpLaw11, GpGrid, GpGrid2, NmGrid, GpFrac2, NmRow, GpPow, GpRef12, GpLaw12, GcPoly, GpPoly, GpRow5, NmTape.)
-/
import Derived.Test.YtoaggbmfmgfnpaaGreatDoorPart4
import Derived.Test.YtoaggbmfmgfnpaaGreatDoorProg
import Derived.KernelRfl
import Derived.Shelf.RegionOpenPlain
import Derived.Lib.Strings
import Derived.Lib.Slices
import Derived.Lib.Walk
import Derived.Lib.Builder
import Derived.Lib.AppendStr
import Derived.Lib.UnsafeStr
import Derived.Lib.MakeNoZero
import Derived.WalkKit
import Derived.Laws.Externs
import Derived.Laws.IdiomCopy
import Derived.Laws.BitsLemmas
import GoSem.Claims
import Derived.Deep.LoopGhost
import Derived.Shelf.Strings.Builder1
import Derived.Shelf.Strings.Builder2
import Derived.Shelf.Strings.OnBuilder
import Derived.ProofKit
import Derived.OpenShut
import Derived.Deep.DeepCutAuto
import Derived.Deep.DeepFit
import Derived.Deep.CutBlock
import Derived.Lib.OthersKept

set_option linter.unusedSectionVars false
set_option linter.unusedVariables false
set_option linter.unusedSimpArgs false
set_option linter.unnecessarySimpa false

section
namespace Go.Proofs.YtoaggbmfmgfnpaaGreatDoor
open Go Go.Ab
set_option maxRecDepth 100000
def nus:List (Nat×Nat):=[(23,197),(24,146),(25,138),(27,191),(34,157),(36,132),(37,173),(38,196),(39,204),(40,184),(41,117),(43,73),(52,141),(54,88),(55,180),(56,240),(57,241),(58,110),(59,205),(60,139),(61,145),(62,239),(63,144),(68,159),(70,190),(71,199),(72,118),(73,269),(84,174),(85,274),(86,181),(87,158),(88,275),(89,198),(90,211),(91,261),(93,272),(94,273),(95,202),(96,203),(97,142),(101,212),(103,213),(106,243),(115,291),(116,292),(117,242),(118,252),(119,288),(120,289),(121,290),(122,244),(125,253),(126,254),(127,255),(128,256),(168,165),(172,100),(173,97),(177,167),(178,168),(179,169),(180,217),(181,218),(182,219),(183,95),(185,220),(186,221),(187,222),(188,223),(189,259),(190,260),(198,270),(199,237),(200,238),(201,195),(202,137),(203,131),(205,60),(207,129),(208,170),(209,108),(210,133),(211,68),(212,72),(213,124),(215,172),(216,71),(217,182),(218,126),(219,347),(220,345),(223,171),(224,200),(225,201),(226,140),(227,143),(228,75),(229,74),(230,76),(231,24),(232,49),(233,32),(235,48),(236,78),(237,109),(239,80),(240,47),(241,155),(242,151),(243,79),(244,245),(245,166),(247,16),(248,21),(249,82),(251,94),(265,105),(269,164),(271,122),(274,63),(278,106),(279,50),(286,58),(287,65),(288,83),(289,33),(308,93),(323,17),(324,61),(326,62),(329,119),(330,34),(335,120),(336,121),(337,123),(338,125),(339,89),(340,90),(341,91),(347,152),(348,153),(349,154),(353,111),(355,207),(356,224),(379,57),(382,64),(384,193),(389,135),(405,234),(406,235),(407,236),(409,194),(411,344),(420,267),(421,134),(422,268),(426,346),(430,192),(431,287),(433,231),(434,232),(435,233),(437,264),(438,265),(439,266),(441,336),(442,337),(443,338),(444,339),(445,340),(446,341),(447,342),(448,343),(465,84),(475,206),(476,150),(496,14),(497,15),(500,19),(507,18),(508,27),(513,67),(515,35),(516,59),(522,30),(524,69),(527,37),(528,81),(529,40),(532,128),(533,130),(536,42),(538,147),(539,148),(540,98),(541,99),(544,85),(545,86),(547,87),(549,189),(551,41),(558,149),(559,101),(560,102),(561,103),(562,104),(563,136),(566,4),(568,20),(569,22),(570,23),(571,25),(572,26),(573,28),(574,29),(575,31),(576,66),(577,70),(578,77),(579,127),(580,185),(581,186),(582,187),(583,188),(584,229),(585,230),(2043,73),(2071,199),(2092,271),(2097,142),(2106,243),(2263,183)]
def nu(u:Nat):FuncId:=(nus.lookup u).getD 0
def row1000001:AFx:=⟨292,0,meths1,.bad,none,false⟩
def Zeg(P:Program)(ν:Nat→FuncId)(τ:Nat→Nat)(u:Nat)(af:AFx):Prop:=
 match af.body.isPrim with
 | some f=>∀xs r,f xs=some r→Za8 P (ν u) xs (·=r)
 | none=>if af.body.isBad=true then (∀m∈Zgf af,Zd3 P af.np m.1=some (ν m.2))∧(af.res.isEmpty=true→af.np=ν af.nt) else Zda P (ν u)=some (erF ν τ af)
theorem ok_pr{P:Program}{ν:Nat→FuncId}{τ:Nat→Nat}{u:Nat}{af:AFx}{f:List AV→Option AV}(h0:af.body.isPrim=some f)(h:∀xs r,f xs=some r→Za8 P (ν u) xs (·=r)):Zeg P ν τ u af:=by unfold Zeg;rw[h0];exact h
theorem ok_fn{P:Program}{ν:Nat→FuncId}{τ:Nat→Nat}{u:Nat}{af:AFx}(h0:af.body.isPrim=none)(h1:af.body.isBad=false)(h:Zda P (ν u)=some (erF ν τ af)):Zeg P ν τ u af:=by unfold Zeg;rw[h0];simp only[h1];exact h
theorem ok_ty{P:Program}{ν:Nat→FuncId}{τ:Nat→Nat}{u:Nat}{af:AFx}(h0:af.body.isPrim=none)(h1:af.body.isBad=true)(h:((Zgf af).all fun m=>Zd3 P af.np m.1 == some (ν m.2))=true)(h2:(!af.res.isEmpty || af.np == ν af.nt)=true):Zeg P ν τ u af:=by unfold Zeg;rw[h0];simp only[h1,if_true];exact⟨fun m hm=>eq_of_beq (List.all_eq_true.1 h m hm),fun he=>by rw[he]at h2;exact eq_of_beq (by simpa using h2)⟩
theorem ok_cons{P:Program}{ν:Nat→FuncId}{τ:Nat→Nat}{u:Nat}{af:AFx}{l:List (Nat×AFx)}(h:Zeg P ν τ u af)(hl:∀p∈l,Zeg P ν τ p.1 p.2) :
  ∀p∈(u,af)::l,Zeg P ν τ p.1 p.2:=by
 intro p hp;rcases List.mem_cons.1 hp with rfl | hp
 ·exact h
 ·exact hl p hp
theorem ok_lookup{P:Program}{ν:Nat→FuncId}{l:List (Nat×AFx)}(hl:∀p∈l,Zeg P ν (Zq fun u=>l.lookup u) p.1 p.2):TOk P ν (fun u=>l.lookup u):=fun _ _ h=>hl _ (zeh h)
theorem sub_cons{l l2:List (Nat×AFx)}{u:Nat}{af:AFx}(h:l.lookup u=some af)(h2:∀p∈l2,l.lookup p.1=some p.2):∀p∈(u,af)::l2,l.lookup p.1=some p.2:=by
 intro p hp;rcases List.mem_cons.1 hp with rfl | hp
 ·exact h
 ·exact h2 p hp
def pT(i:Nat):List (Nat×AFx):=match i with
 | 0=>[(115,row115),(116,row116),(117,row117),(118,row118),(91,row91),(86,row86),(106,row106),(71,row71),(72,row72),(73,row73),(70,row70),(87,row87),(85,row85),(56,row56),(88,row88),(57,row57),(2106,row2106),(89,row89),(60,row60),(94,row94),(90,row90),(119,row119),(120,row120),(121,row121),(93,row93)]
 | 1=>[(2071,row2071),(2092,row2092),(62,row62),(55,row55),(38,row38),(40,row40),(23,row23),(25,row25),(27,row27),(37,row37),(41,row41),(36,row36),(34,row34),(198,row198),(199,row199),(200,row200),(201,row201),(202,row202),(203,row203),(205,row205),(207,row207),(209,row209),(210,row210),(211,row211),(212,row212)]
 | 2=>[(213,row213),(215,row215),(216,row216),(217,row217),(218,row218),(208,row208),(219,row219),(220,row220),(223,row223),(356,row356),(185,row185),(186,row186),(177,row177),(188,row188),(179,row179),(178,row178),(172,row172),(251,row251),(265,row265),(269,row269),(271,row271),(274,row274),(2263,row2263),(43,row43),(84,row84)]
 | 3=>[(52,row52),(54,row54),(58,row58),(59,row59),(61,row61),(122,row122),(95,row95),(96,row96),(97,row97),(63,row63),(224,row224),(225,row225),(226,row226),(227,row227),(228,row228),(229,row229),(230,row230),(2097,row2097),(2043,row2043),(39,row39),(24,row24),(231,row231),(232,row232),(233,row233),(235,row235)]
 | 4=>[(236,row236),(237,row237),(239,row239),(240,row240),(241,row241),(242,row242),(247,row247),(353,row353),(278,row278),(279,row279),(286,row286),(340,row340),(341,row341),(347,row347),(348,row348),(349,row349),(355,row355),(330,row330),(339,row339),(248,row248),(249,row249),(287,row287),(288,row288),(289,row289),(308,row308)]
 | 5=>[(421,row421),(430,row430),(433,row433),(434,row434),(435,row435),(437,row437),(438,row438),(439,row439),(406,row406),(411,row411),(426,row426),(405,row405),(420,row420),(384,row384),(389,row389),(407,row407),(409,row409),(422,row422),(431,row431),(441,row441),(442,row442),(443,row443),(444,row444),(445,row445),(446,row446)]
 | 6=>[(447,row447),(448,row448),(379,row379),(382,row382),(324,row324),(326,row326),(329,row329),(335,row335),(336,row336),(337,row337),(338,row338),(568,row568),(569,row569),(570,row570),(513,row513),(532,row532),(533,row533),(549,row549),(576,row576),(579,row579),(580,row580),(581,row581),(582,row582),(583,row583),(584,row584)]
 | 7=>[(585,row585),(536,row536),(551,row551),(559,row559),(560,row560),(561,row561),(562,row562),(524,row524),(563,row563),(577,row577),(496,row496),(497,row497),(515,row515),(516,row516),(500,row500),(507,row507),(527,row527),(323,row323),(243,row243),(245,row245),(244,row244),(189,row189),(190,row190),(181,row181),(180,row180)]
 | 8=>[(182,row182),(168,row168),(173,row173),(465,row465),(475,row475),(476,row476),(528,row528),(538,row538),(539,row539),(544,row544),(547,row547),(558,row558),(529,row529),(540,row540),(541,row541),(508,row508),(545,row545),(522,row522),(571,row571),(578,row578),(572,row572),(573,row573),(575,row575),(566,row566),(574,row574)]
 | _=>[]
def Zp2:List (Nat×AFx):=[(68,row68),(183,row183),(187,row187),(1000001,row1000001)]
def lTab:List (Nat×AFx):=pT 0++pT 1++pT 2++pT 3++pT 4++pT 5++pT 6++pT 7++pT 8++Zp2
def gTab:List (Nat×AFx):=lTab++[(92,row92),(101,row101),(103,row103),(125,row125),(263,row263)]
def tab:Tbl:=fun u=>gTab.lookup u
def Zki:Nat→Nat:=Zq fun u=>lTab.lookup u
theorem q_1000001:((Zgf row1000001).all fun m=>Zd3 Tryz.prog row1000001.np m.1 == some (nu m.2))=true:=by kernel_rfl
def Zbu(l:List (Nat×AFx)):Prop:=(l.map fun p=>Zda Tryz.prog (nu p.1))=l.map fun p=>some (erF nu Zki p.2)
theorem res_mem{l:List (Nat×AFx)}(h:Zbu l)(h2:(l.all fun p=>p.2.body.isPrim.isNone&&!p.2.body.isBad)=true):∀p∈l,Zeg Tryz.prog nu Zki p.1 p.2:=by
 intro p hp;have h3:=List.all_eq_true.1 h2 p hp;simp only[Bool.and_eq_true,Option.isNone_iff_eq_none,Bool.not_eq_true']at h3;exact ok_fn h3.1 h3.2 (List.map_inj_left.1 h p hp)
theorem ok_app{l r:List (Nat×AFx)}(h1:∀p∈l,Zeg Tryz.prog nu Zki p.1 p.2)(h2:∀p∈r,Zeg Tryz.prog nu Zki p.1 p.2):∀p∈l++r,Zeg Tryz.prog nu Zki p.1 p.2:=fun p hp=>(List.mem_append.1 hp).elim (h1 p) (h2 p)
theorem res0:Zbu (pT 0):=by unfold Zbu;kernel_rfl
theorem res1:Zbu (pT 1):=by unfold Zbu;kernel_rfl
theorem res2:Zbu (pT 2):=by unfold Zbu;kernel_rfl
theorem res3:Zbu (pT 3):=by unfold Zbu;kernel_rfl
theorem res4:Zbu (pT 4):=by unfold Zbu;kernel_rfl
theorem res5:Zbu (pT 5):=by unfold Zbu;kernel_rfl
theorem res6:Zbu (pT 6):=by unfold Zbu;kernel_rfl
theorem res7:Zbu (pT 7):=by unfold Zbu;kernel_rfl
theorem res8:Zbu (pT 8):=by unfold Zbu;kernel_rfl
theorem lTab_ok(hp68:∀xs r,prim68 xs=some r→Za8 Tryz.prog (nu 68) xs (·=r))(hp183:∀xs r,prim183 xs=some r→Za8 Tryz.prog (nu 183) xs (·=r))(hp187:∀xs r,prim187 xs=some r→Za8 Tryz.prog (nu 187) xs (·=r)):TOk Tryz.prog nu (fun u=>lTab.lookup u):=ok_lookup (ok_app (ok_app (ok_app (ok_app (ok_app (ok_app (ok_app (ok_app (ok_app (res_mem res0 (by kernel_rfl)) (res_mem res1 (by kernel_rfl))) (res_mem res2 (by kernel_rfl))) (res_mem res3 (by kernel_rfl))) (res_mem res4 (by kernel_rfl))) (res_mem res5 (by kernel_rfl))) (res_mem res6 (by kernel_rfl))) (res_mem res7 (by kernel_rfl))) (res_mem res8 (by kernel_rfl))) (ok_cons (ok_pr rfl hp68) (ok_cons (ok_pr rfl hp183) (ok_cons (ok_pr rfl hp187) (ok_cons (ok_ty rfl rfl q_1000001 rfl) (fun p hp=>by cases hp))))))
def Zm7:List Nat→Bool
 | []=>true
 | a::l=>!l.contains a&&Zm7 l
theorem sub_app{l r:List (Nat×AFx)}(h:Zm7 (l.map (·.1))=true):∀p∈l,(l++r).lookup p.1=some p.2:=by
 induction l with
 | nil=>intro p hp;cases hp
 | cons a l ih=>
  intro p hp;obtain⟨k,v⟩:=a;simp only[List.map_cons,Zm7,Bool.and_eq_true,Bool.not_eq_true']at h;rcases List.mem_cons.1 hp with rfl | hq
  ·simp
  ·have hne:(p.1 == k)=false:=by
    cases hb:p.1 == k with
    | false=>rfl
    | true=>
     have:=eq_of_beq hb;subst this;have h5:(l.map (·.1)).contains p.1=true:=List.contains_iff_mem.2 (List.mem_map.2 ⟨p,hq,rfl⟩);rw[h5]at h;cases h.1
   rw[List.cons_append,List.lookup_cons,hne];exact ih h.2 p hq
theorem lTab_part:Part gTab lTab:=⟨sub_app (by kernel_rfl),by kernel_rfl⟩
def sTab:List (Nat×AFx):=[(118,row118),(86,row86),(106,row106),(71,row71),(70,row70),(90,row90),(101,row101),(103,row103),(125,row125)]
def Zgw:Nat→Nat:=Zq fun u=>sTab.lookup u
theorem ress_118:Zda Tryz.prog (nu 118)=some (erF nu Zgw row118):=by kernel_rfl
theorem ress_86:Zda Tryz.prog (nu 86)=some (erF nu Zgw row86):=by kernel_rfl
theorem ress_106:Zda Tryz.prog (nu 106)=some (erF nu Zgw row106):=by kernel_rfl
theorem ress_71:Zda Tryz.prog (nu 71)=some (erF nu Zgw row71):=by kernel_rfl
theorem ress_70:Zda Tryz.prog (nu 70)=some (erF nu Zgw row70):=by kernel_rfl
theorem ress_90:Zda Tryz.prog (nu 90)=some (erF nu Zgw row90):=by kernel_rfl
theorem ress_101:Zda Tryz.prog (nu 101)=some (erF nu Zgw row101):=by kernel_rfl
theorem ress_103:Zda Tryz.prog (nu 103)=some (erF nu Zgw row103):=by kernel_rfl
theorem ress_125:Zda Tryz.prog (nu 125)=some (erF nu Zgw row125):=by kernel_rfl
theorem sTab_ok:TOk Tryz.prog nu (fun u=>sTab.lookup u):=ok_lookup (ok_cons (ok_fn rfl rfl ress_118) (ok_cons (ok_fn rfl rfl ress_86) (ok_cons (ok_fn rfl rfl ress_106) (ok_cons (ok_fn rfl rfl ress_71) (ok_cons (ok_fn rfl rfl ress_70) (ok_cons (ok_fn rfl rfl ress_90) (ok_cons (ok_fn rfl rfl ress_101) (ok_cons (ok_fn rfl rfl ress_103) (ok_cons (ok_fn rfl rfl ress_125) (fun p hp=>by cases hp))))))))))
theorem sTab_part:Part gTab sTab:=⟨sub_cons (by kernel_rfl) (sub_cons (by kernel_rfl) (sub_cons (by kernel_rfl) (sub_cons (by kernel_rfl) (sub_cons (by kernel_rfl) (sub_cons (by kernel_rfl) (sub_cons (by kernel_rfl) (sub_cons (by kernel_rfl) (sub_cons (by kernel_rfl) (fun p hp=>by cases hp))))))))),by kernel_rfl⟩
instance:Zaj tab:=⟨by kernel_rfl,by kernel_rfl,by kernel_rfl,by kernel_rfl,by kernel_rfl⟩
instance:Zs tab where
 h115:=by kernel_rfl
 h116:=by kernel_rfl
 h117:=by kernel_rfl
 h118:=by kernel_rfl
 h91:=by kernel_rfl
 h86:=by kernel_rfl
 h106:=by kernel_rfl
 h71:=by kernel_rfl
 h72:=by kernel_rfl
 h73:=by kernel_rfl
 h70:=by kernel_rfl
 h87:=by kernel_rfl
 h85:=by kernel_rfl
 h56:=by kernel_rfl
 h88:=by kernel_rfl
 h57:=by kernel_rfl
 h2106:=by kernel_rfl
instance:Z2 tab where
 h115:=by kernel_rfl
 h116:=by kernel_rfl
 h117:=by kernel_rfl
 h118:=by kernel_rfl
 h91:=by kernel_rfl
 h86:=by kernel_rfl
 h106:=by kernel_rfl
 h71:=by kernel_rfl
 h72:=by kernel_rfl
 h73:=by kernel_rfl
 h70:=by kernel_rfl
 h87:=by kernel_rfl
 h85:=by kernel_rfl
 h56:=by kernel_rfl
 h88:=by kernel_rfl
 h57:=by kernel_rfl
 h2106:=by kernel_rfl
 h89:=by kernel_rfl
 h60:=by kernel_rfl
instance:Z4 tab:=⟨by kernel_rfl,by kernel_rfl⟩
instance:Zu tab:=⟨by kernel_rfl,by kernel_rfl,by kernel_rfl,by kernel_rfl,by kernel_rfl⟩
instance:Zw tab:=⟨by kernel_rfl,by kernel_rfl,by kernel_rfl⟩
instance:Zap tab:=⟨by kernel_rfl⟩
instance:Za0 tab:=⟨by kernel_rfl⟩
instance:Zi7 tab:=⟨by kernel_rfl,by kernel_rfl⟩
instance:Zf tab:=⟨by kernel_rfl,by kernel_rfl,by kernel_rfl,by kernel_rfl,by kernel_rfl,by kernel_rfl,by kernel_rfl,by kernel_rfl,by kernel_rfl,by kernel_rfl⟩
instance:Zl tab:=⟨by kernel_rfl,by kernel_rfl,by kernel_rfl,by kernel_rfl⟩
instance:Zp tab:=⟨by kernel_rfl,by kernel_rfl,by kernel_rfl,by kernel_rfl,by kernel_rfl,by kernel_rfl,by kernel_rfl,by kernel_rfl,by kernel_rfl,by kernel_rfl,by kernel_rfl,by kernel_rfl,by kernel_rfl⟩
instance:Ze6 tab where
instance:Zah tab:=⟨by kernel_rfl,by kernel_rfl,by kernel_rfl⟩
instance:Za4 tab:=⟨by kernel_rfl⟩
instance:Zdh tab:=⟨by kernel_rfl⟩
instance:Zaz tab:=⟨by kernel_rfl⟩
instance:Zc1 tab:=⟨by kernel_rfl,by kernel_rfl,by kernel_rfl,by kernel_rfl,by kernel_rfl,by kernel_rfl,by kernel_rfl,by kernel_rfl⟩
instance:Zbr tab:=⟨by kernel_rfl,by kernel_rfl,by kernel_rfl,by kernel_rfl,by kernel_rfl,by kernel_rfl,by kernel_rfl⟩
instance:Zgp tab where
instance:Z0 tab:=⟨by kernel_rfl,by kernel_rfl,by kernel_rfl,by kernel_rfl,by kernel_rfl,by kernel_rfl⟩
instance:Z7 tab where
 h43:=by kernel_rfl
 h84:=by kernel_rfl
 h52:=by kernel_rfl
 h54:=by kernel_rfl
 h58:=by kernel_rfl
 h59:=by kernel_rfl
 h61:=by kernel_rfl
instance:Zy tab where
 h43:=by kernel_rfl
 h84:=by kernel_rfl
 h52:=by kernel_rfl
 h54:=by kernel_rfl
 h58:=by kernel_rfl
 h59:=by kernel_rfl
 h61:=by kernel_rfl
 h122:=by kernel_rfl
 h95:=by kernel_rfl
 h96:=by kernel_rfl
 h97:=by kernel_rfl
 h63:=by kernel_rfl
instance:Zz tab:=⟨by kernel_rfl,by kernel_rfl,by kernel_rfl,by kernel_rfl,by kernel_rfl,by kernel_rfl,by kernel_rfl,by kernel_rfl⟩
instance:Zaa tab where
 h43:=by kernel_rfl
 h84:=by kernel_rfl
 h52:=by kernel_rfl
 h54:=by kernel_rfl
 h58:=by kernel_rfl
 h59:=by kernel_rfl
 h61:=by kernel_rfl
 h122:=by kernel_rfl
 h95:=by kernel_rfl
 h96:=by kernel_rfl
 h97:=by kernel_rfl
 h63:=by kernel_rfl
 h2043:=by kernel_rfl
instance:Zab tab where
 h43:=by kernel_rfl
 h84:=by kernel_rfl
 h52:=by kernel_rfl
 h54:=by kernel_rfl
 h58:=by kernel_rfl
 h59:=by kernel_rfl
 h61:=by kernel_rfl
 h122:=by kernel_rfl
 h95:=by kernel_rfl
 h96:=by kernel_rfl
 h97:=by kernel_rfl
 h63:=by kernel_rfl
 h2043:=by kernel_rfl
 h39:=by kernel_rfl
 h24:=by kernel_rfl
instance:Zk tab:=⟨by kernel_rfl,by kernel_rfl,by kernel_rfl,by kernel_rfl,by kernel_rfl,by kernel_rfl,by kernel_rfl,by kernel_rfl,by kernel_rfl,by kernel_rfl,by kernel_rfl,by kernel_rfl⟩
instance:Zac tab:=⟨by kernel_rfl,by kernel_rfl,by kernel_rfl⟩
instance:Zfq tab where
instance:Za9 tab:=⟨by kernel_rfl,by kernel_rfl,by kernel_rfl,by kernel_rfl,by kernel_rfl,by kernel_rfl⟩
instance:Zds tab:=⟨by kernel_rfl,by kernel_rfl⟩
instance:Zb1 tab:=⟨by kernel_rfl,by kernel_rfl⟩
instance:Zbq tab:=⟨by kernel_rfl,by kernel_rfl,by kernel_rfl⟩
instance:Zei tab:=⟨by kernel_rfl⟩
instance:Zal tab:=⟨by kernel_rfl,by kernel_rfl,by kernel_rfl,by kernel_rfl,by kernel_rfl,by kernel_rfl,by kernel_rfl,by kernel_rfl⟩
instance:Zar tab:=⟨by kernel_rfl,by kernel_rfl,by kernel_rfl⟩
instance:Zbs tab:=⟨by kernel_rfl,by kernel_rfl⟩
instance:Zas tab:=⟨by kernel_rfl,by kernel_rfl,by kernel_rfl,by kernel_rfl,by kernel_rfl,by kernel_rfl,by kernel_rfl,by kernel_rfl,by kernel_rfl,by kernel_rfl,by kernel_rfl,by kernel_rfl,by kernel_rfl,by kernel_rfl⟩
instance:Zew tab where
 h1:=⟨292,by kernel_rfl⟩
instance:Zdr tab:=⟨by kernel_rfl,by kernel_rfl⟩
instance:Zbg tab:=⟨by kernel_rfl,by kernel_rfl,by kernel_rfl,by kernel_rfl,by kernel_rfl,by kernel_rfl,by kernel_rfl⟩
instance:Zba tab:=⟨by kernel_rfl,by kernel_rfl,by kernel_rfl⟩
instance:Zam tab:=⟨by kernel_rfl,by kernel_rfl,by kernel_rfl,by kernel_rfl,by kernel_rfl,by kernel_rfl,by kernel_rfl,by kernel_rfl,by kernel_rfl,by kernel_rfl,by kernel_rfl,by kernel_rfl⟩
instance:Zej tab where
instance:Zag tab:=⟨by kernel_rfl,by kernel_rfl,by kernel_rfl,by kernel_rfl,by kernel_rfl,by kernel_rfl⟩
instance:Zdn tab:=⟨by kernel_rfl,by kernel_rfl,by kernel_rfl⟩
instance:Za5 tab:=⟨by kernel_rfl,by kernel_rfl,by kernel_rfl,by kernel_rfl⟩
instance:Zex tab:=⟨by kernel_rfl,by kernel_rfl,by kernel_rfl⟩
instance:Ze7 tab:=⟨by kernel_rfl⟩
instance:Zk2 tab where
instance:Zcw tab:=⟨by kernel_rfl,by kernel_rfl⟩
instance:Zd6 tab:=⟨by kernel_rfl⟩
instance:Za1 tab:=⟨by kernel_rfl,by kernel_rfl,by kernel_rfl,by kernel_rfl,by kernel_rfl,by kernel_rfl,by kernel_rfl⟩
instance:Zc2 tab:=⟨by kernel_rfl,by kernel_rfl,by kernel_rfl⟩
instance:Zb2 tab:=⟨by kernel_rfl,by kernel_rfl,by kernel_rfl⟩
instance:Zbk tab:=⟨by kernel_rfl,by kernel_rfl,by kernel_rfl⟩
instance:Zcr tab:=⟨by kernel_rfl,by kernel_rfl,by kernel_rfl⟩
instance:Zd5 tab:=⟨by kernel_rfl,by kernel_rfl⟩
instance:Zcs tab:=⟨by kernel_rfl,by kernel_rfl,by kernel_rfl⟩
instance:Zch tab:=⟨by kernel_rfl,by kernel_rfl,by kernel_rfl⟩
instance:Zak tab:=⟨by kernel_rfl,by kernel_rfl⟩
end Go.Proofs.YtoaggbmfmgfnpaaGreatDoor
end
section
namespace Go.Proofs
open Go.RowKit
theorem Tryz.sizeBuilder:(Tryz.prog.info? 231).map (·.size)=some 2:=by kernel_rfl
theorem Tryz.liesBuilder:liesAt Tryz.prog Tryz.prog.depth 231 (2/Tryz.prog.cellsOf 231) 0 231 1=true:=by kernel_rfl
theorem Tryz.infoByte:(Tryz.prog.info? 5).map (fun i=>(i.zero,i.size,i.bytes))=some (some (.int .u8 0),1,1):=by kernel_rfl
theorem Tryz.cellsByte:Tryz.prog.cellsOf 5=1:=by kernel_rfl
set_option maxHeartbeats 1000000 in
set_option maxRecDepth 100000 in
theorem Tryz.bString(B b:Nat)(l:List UInt8)(w:World)(h:Lib.IsBuilder 231 5 B b (Lib.byteCells l) w)(h0:l≠[]) :
  Calls Tryz.prog 162 #[.pointer (some ⟨b,0,none⟩)] w fun e w'=>e=.returned (.string ⟨l.toArray⟩)∧Below B w w':=by
 obtain⟨p,hB,v,hbk,hown,hne⟩:∃p,Lib.BuilderAt 231 5 B b p (Lib.byteCells l) w:=by
  rcases h with h | h
  ·exact⟨_,h⟩
  ·exact⟨_,h⟩
 have hl0:l.length≠0:=by simpa using h0
 rw[Lib.byteCells_length]at hown;obtain⟨g,cap,cur,rfl,hbg,hg,hnc,hcm,hcs,htake⟩:∃g cap cur,v=.slice (some ⟨g,0,none⟩) l.length cap∧B≤g∧w.heap[g]? = some (.cells cur 5 (0,0))∧l.length≤cap∧cap≤maxLen∧cur.size=cap*1∧cur.toList.take (l.length*1)=Lib.byteCells l:=by
  rcases hown.2 with ⟨_,hz⟩ | ⟨g,cap,cur,hv,r⟩
  ·exact absurd hz hl0
  ·exact⟨g,cap,cur,hv,r⟩
 have c1:w.drew.cell? ⟨b,1,none⟩=some (.slice (some ⟨g,0,none⟩) l.length cap):=by
  have:w.drew.heap[b]? = some (.cells #[p,.slice (some ⟨g,0,none⟩) l.length cap] 231 (0,0)):=hbk;rw[Lib.cell_of_heap this];rfl
 have hSD:(Builtin.unsafeSliceData_ #[229] 279 #[.slice (some ⟨g,0,none⟩) l.length cap]).run Tryz.prog w.drew=.ok (.pointer (some ⟨g,0,none⟩)) w.drew:=
  Lib.run_unsafeSliceData_row _ _ _ _ _ _ (by omega)
 have hUS:(Builtin.unsafeString_ #[279,3] 9 #[.pointer (some ⟨g,0,none⟩),.int .i64 l.length]).run Tryz.prog w.drew=.ok (.string ⟨l.toArray⟩) (w.drew.freeze ⟨g,0,none⟩ l.length):=by
  refine Lib.run_unsafeString_row w.drew 279 3 9 5 Tryz.underlying279 Tryz.cellsByte g cur.size (by have hg':w.drew.heap[g]? = some (.cells cur 5 (0,0)):=hg;simp[World.shape?,hg']) l h0 (by omega) (by unfold maxLen at hcm;omega) ?_;intro j x hx;have:=hown.cells (g:=g) rfl j (.int .u8 x.toNat) (by simp[Lib.byteCells,hx]);exact this
 go_enter Tryz.func162,Tryz.ntmps162
 go_wp2
 go_region
 all_goals (go_wp2;go_ret;exact⟨rfl,Lib.below_freeze (Below.drew (Below.refl B w)) (p:=⟨g,0,none⟩) hbg _⟩)
set_option maxHeartbeats 1000000 in
set_option maxRecDepth 100000 in
theorem Tryz.bCheck_used(b:Nat)(w:World)(h0:w.cell? ⟨b,0,none⟩=some (.pointer (some ⟨b,0,none⟩))) :
  Calls Tryz.prog 214 #[.pointer (some ⟨b,0,none⟩)] w fun e w'=>e=.returned (.tuple #[])∧w'=w:=by
 obtain⟨j,hj,_⟩:=Option.map_eq_some_iff.1 Tryz.sizeBuilder
 go_enter Tryz.func214,Tryz.ntmps214
 go_wp2
 rw[Lib.run_neq_ptr_same w _ Tryz.underlying228 hj]
 go_wp2
 go_end0
 exact⟨rfl,rfl⟩
set_option maxHeartbeats 1000000 in
set_option maxRecDepth 100000 in
theorem Tryz.bCheck_fresh(b:Nat)(w:World)(h0:w.cell? ⟨b,0,none⟩=some (.pointer none))(hsh:w.shape? b=some (231,2))(hfz:w.frozen? ⟨b,0,none⟩=false) :
  Calls Tryz.prog 214 #[.pointer (some ⟨b,0,none⟩)] w fun e w'=>e=.returned (.tuple #[])∧w'=w.setCell ⟨b,0,none⟩ (.pointer (some ⟨b,0,none⟩)):=by
 obtain⟨j,hj,hjs⟩:=Option.map_eq_some_iff.1 Tryz.sizeBuilder
 go_enter Tryz.func214,Tryz.ntmps214
 go_wp2
 rw[Lib.run_to_unsafe w ⟨b,0,none⟩ Tryz.underlying228 Tryz.underlying321 hj (by rw[hjs];decide) hsh (Nat.zero_lt_succ 1)];simp only[Result.andThen];rw[Oper.upon_value]
 go_wp2
 rw[run_callFunc_extern Tryz.func257 (by kernel_rfl) (by kernel_rfl) (by kernel_rfl) (e:=Extern.AbiNoEscape.same) (by kernel_rfl)];rw[Lib.run_noEscape];simp only[Result.andThen];rw[Oper.upon_value]
 go_wp2
 rw[Lib.run_from_unsafe w ⟨b,0,none⟩ Tryz.underlying321 Tryz.underlying228 hj hsh Tryz.liesBuilder];simp only[Result.andThen];rw[Oper.upon_value]
 go_wp2
 go_end0
 exact⟨rfl,rfl⟩
theorem Tryz.bCheck(B b:Nat)(bs:List Value)(w:World)(h:Lib.IsBuilder 231 5 B b bs w) :
  Calls Tryz.prog 214 #[.pointer (some ⟨b,0,none⟩)] w fun e w'=>e=.returned (.tuple #[])∧(Lib.BuilderAt 231 5 B b (.pointer (some ⟨b,0,none⟩)) bs w'∧Below B w w'):=by
 rcases h with h | h
 ·refine(Tryz.bCheck_fresh b w h.cell0 h.shape h.frozen0).mono ?_
  rintro e w' ⟨rfl,rfl⟩
  exact⟨rfl,h.used _,(Below.refl B w).setCell (p:=⟨b,0,none⟩) h.1 _⟩
 ·refine(Tryz.bCheck_used b w h.cell0).mono ?_
  rintro e w' ⟨rfl,rfl⟩
  exact⟨rfl,h,Below.refl B _⟩
set_option maxHeartbeats 2000000 in
set_option maxRecDepth 100000 in
theorem Tryz.bWrite(B b:Nat)(bs:List Value)(s:ByteArray)(w:World)(h:Lib.IsBuilder 231 5 B b bs w)(hlen:bs.length+s.size≤140737488355328)(hBw:B≤w.heap.size) :
  Calls Tryz.prog 161 #[.pointer (some ⟨b,0,none⟩),.string s] w fun e w'=>e=.returned (.tuple #[.int .i64 s.size,.nilIface])∧(Lib.BuilderAt 231 5 B b (.pointer (some ⟨b,0,none⟩)) (bs++Lib.strCells s) w'∧Below B w w'):=by
 obtain⟨i0,hi,hz0,hz1,hz2⟩:=info_parts Tryz.infoByte
 go_enter Tryz.func161,Tryz.ntmps161
 go_wp2_with (go_at_call 214;refine(Tryz.bCheck B b bs _ h).mono ?_)
 rintro e w1 ⟨rfl,h1,hb1⟩
 obtain⟨hB,v,hbk,hown,hne⟩:=h1;have c0:w1.cell? ⟨b,0,none⟩=some (.pointer (some ⟨b,0,none⟩)):=by rw[Lib.cell_of_heap hbk];rfl
 have c1:w1.cell? ⟨b,1,none⟩=some v:=by rw[Lib.cell_of_heap hbk];rfl
 go_wp2_with (at_builtin;refine Lib.wpList_append_own_string _ rfl _ _ 229 9 rfl B 5 i0 Tryz.underlying229 Tryz.underlying9 hi hz0 hz1 hz2 _ _ _ rfl hown s rfl ?c3 ?c4 ?c5 ?_)
 case c3=>unfold maxLen;omega
 case c4=>omega
 case c5=>have:=hb1.size;omega
 intro v' w2 hown' hgrow _;have hlt:b<w1.heap.size:=by
  rcases Nat.lt_or_ge b w1.heap.size with h' | h'
  ·exact h'
  ·simp[Array.getElem?_eq_none h']at hbk
 have hb2:w2.heap[b]? = some (.cells #[.pointer (some ⟨b,0,none⟩),v] 231 (0,0)):=by
  rw[hgrow.block b hlt (fun e=>hne e.symm)];exact hbk
 have d0:w2.cell? ⟨b,0,none⟩=some (.pointer (some ⟨b,0,none⟩)):=by rw[Lib.cell_of_heap hb2];rfl
 have d1:w2.cell? ⟨b,1,none⟩=some v:=by rw[Lib.cell_of_heap hb2];rfl
 have f1:w2.frozen? ⟨b,1,none⟩=false:=Lib.frozen_of_heap hb2 1;obtain⟨ao,n',cap,rfl⟩:∃ao n' cap,v'=.slice ao n' cap:=by
  rcases hown'.2 with ⟨hv,_⟩ | ⟨g,cap,cur,hv,_⟩
  ·exact⟨_,_,_,hv⟩
  ·exact⟨_,_,_,hv⟩
 go_wp2
 go_ret2
 refine⟨rfl,?_,?_⟩
 ·exact Lib.BuilderAt.put (T:=231) (e:=5) hB hb2 (bs':=bs++Lib.strCells s) (by simpa[Lib.strCells_length]using hown') (by decide)
 ·exact(hb1.grown hgrow (by have:=hb1.size;omega) (fun k hk=>(hown.lt k hk).1)).setCell (p:=⟨b,1,none⟩) hB _
end Go.Proofs
end
section
namespace Go.Ab
def pieces(n:Nat):List (List UInt8):=if h:n=0 then [] else Zec 9 (n%1000000000)::pieces (n/1000000000)
termination_by n
decreasing_by exact Ydd (Yaf h) (by decide)
theorem zch:pieces 0=[]:=by unfold pieces;simp
theorem zc7{n:Nat}(h:n≠0):pieces n=Zec 9 (n%1000000000)::pieces (n/1000000000):=by
 conv=>lhs;unfold pieces
 rw[dif_neg h]
def Zdz(l:List (List UInt8)):List (List AV):=l.map fun s=>[.s s]
@[simp] theorem z5t(l:List (List UInt8)):(Zdz l).length=l.length:=by simp[Zdz]
@[simp] theorem z4s(l:List (List UInt8)):wkL (Zdz l)=Zdz l:=by
 induction l with
 | nil=>rfl
 | cons x l ih=>simpa[Zdz,wkL,wkR]using ih
theorem z1m(l:List (List UInt8))(s:List UInt8):Zdz l++[[.s s]]=Zdz (l++[s]):=by simp[Zdz]
def txL:AX:=
 (.note
 (.seq
 (.seq
  (.reg [⟨(some 11),none,.mov (.t 0)⟩,
   ⟨(some 12),none,.call 70 [(.t 11)]⟩,
   ⟨(some 13),none,.un .not (.t 12)⟩])
  (.cond (.t 13)
  .skip
  (.exit 0)))
 (.block 1
  (.seq
  (.reg [⟨(some 15),none,.mov (.t 0)⟩,
   ⟨(some 16),none,.call 90 [(.t 15),(.c (u32 1000000000))]⟩,
   ⟨(some 14),none,.mov (.t 16)⟩,
   ⟨(some 17),none,.ext (.t 14) 0⟩,
   ⟨(some 18),none,.ext (.t 14) 1⟩,
   ⟨(some 19),none,.ext (.t 14) 2⟩,
   ⟨(some 4),none,.mov (.t 17)⟩,
   ⟨(some 5),none,.mov (.t 18)⟩,
   ⟨(some 6),none,.mov (.t 19)⟩])
  (.seq
   (.reg [⟨(some 20),none,.mov (.t 3)⟩,
    ⟨(some 21),none,.mov (.t 5)⟩,
    ⟨(some 22),none,.call 101 [(.t 21)]⟩,
    ⟨(some 23),none,.bsl 1 [(.s [])] 1 [(0,(.t 22))]⟩,
    ⟨(some 24),none,.app 1 (.t 20) (.t 23)⟩,
    ⟨(some 3),none,.mov (.t 24)⟩])
   (.reg [⟨(some 25),none,.mov (.t 4)⟩,
    ⟨(some 0),none,.mov (.t 25)⟩])))))
 (.norm false [0,3]))
def tx0:AX:=(.reg [⟨(some 2),none,.mov (.c (.s []))⟩])
def txA:AX:=
  (.seq
  (.reg [⟨(some 9),none,.mov (.t 0)⟩,
   ⟨(some 10),none,.call 70 [(.t 9)]⟩])
  (.cond (.t 10)
   (.seq
   (.reg [⟨(some 2),none,.mov (.c (.s [48]))⟩])
   (.pre (.norm false [2]) .ret))
   .skip))
def tx3:AX:=(.note (.reg [⟨(some 3),none,.mov (.c (.sl [] .nl))⟩]) (.nil 3 1))
def txP:AX:=(.lp 0 (.norm false [0,3]) txL (.norm false [3]))
section
variable{T:Tbl}
theorem zajp(x:AV):evX (orc T) T 0 tx0 ⟨Zdd [x],[],1⟩=some (.n,⟨[(2,.s []),(0,x)],[],1⟩):=by
 simp -implicitDefEqProofs[tx0]
end
section
variable{T:Tbl}[Zs T]
theorem zadd(a:List UInt32)(hl:a.length≤1000)(h0:val a=0):evX (orc T) T 0 txA ⟨[(2,.s []),(0,.sl (Zb a) .an)],[],1⟩=some (.r,⟨[(2,.s [48])],[],2⟩):=by
 have hz:=zgt (T:=T) a (by omega);simp -implicitDefEqProofs[txA,hz,h0]
end
section
variable{T:Tbl}[Zs T]
theorem zade(a:List UInt32)(hl:a.length≤1000)(h0:val a≠0):evX (orc T) T 0 txA ⟨[(2,.s []),(0,.sl (Zb a) .an)],[],1⟩ =
  some (.n,⟨[(10,.b false),(9,.sl (Zb a) .an),(2,.s []),(0,.sl (Zb a) .an)],[],1⟩):=by
 have hz:=zgt (T:=T) a (by omega);simp -implicitDefEqProofs[txA,hz,h0]
end
section
variable{T:Tbl}[Zs T][Z2 T][Z4 T][Zu T][Zap T]
def Zm8(a:List UInt32)(l:List (List UInt8)):St:=⟨[(0,.sl (Zb a) .an),(3,.bs (.loc 3) 1 1 0 l.length)],[((.loc 3),⟨1,.own,1,Zdz l⟩)],3⟩
theorem zv8(l:List (List UInt8))(s:List UInt8):wkL (List.take l.length (Zdz l)++[[AV.s s]])=Zdz (l++[s]):=by
 rw[Yb (by simp),z1m,z4s]
end
section
variable{T:Tbl}[Zs T][Zu T][Zap T]
theorem z4t(N:Nat)(hN:N≤4294967295)(L:List (List UInt8)):∀y:List UInt32×List (List UInt8),(y.1.length≤1000∧y.2++pieces (val y.1)=L∧L.length=N) →
  Ze T 0 0 (Gh.norm false [3]) txL (Zm8 y.1 y.2)=some (.n,⟨[(3,.bs (.loc 3) 1 1 0 L.length)],[((.loc 3),⟨1,.own,1,Zdz L⟩)],3⟩):=by
 refine zav (fun y:List UInt32×List (List UInt8)=>Zm8 y.1 y.2) _ (fun y=>val y.1) _ ?_
 rintro⟨a,l⟩ ⟨ha,hL,hn⟩
 simp only at ha hL hn;have hz:=zgt (T:=T) a (by omega);by_cases h0:val a=0
 ·right;rw[h0,zch,Ya8]at hL;subst hL;constructor<;>simp -implicitDefEqProofs[txL,Zm8,hz,h0]
 ·left;have hq:=zot (T:=T) a 1000000000 (by omega) (by omega) (by omega);have hn9:=zqn (T:=T) (val a%1000000000) (by omega);have hlen:(ofN (val a/1000000000)).length≤a.length:=Yc (zat (Yce _ _)) (zad a);rw[zc7 h0]at hL;have hll:l.length≤4294967295:=by have:=congrArg List.length hL;simp at this;omega
  refine⟨(ofN (val a/1000000000),l++[Zec 9 (val a%1000000000)]),⟨by simp only;omega,by simp only[zae,Ya3,List.singleton_append];exact hL,hn⟩,?_,?_,rfl⟩
  ·simp only[zae];exact Ydd (Yaf h0) (by decide)
  ·simp -implicitDefEqProofs[txL,Zm8,hz,hq,hn9,h0,hll,zv8]
end
section
variable{T:Tbl}[Zs T][Z2 T][Z4 T][Zu T][Zap T]
theorem zg5:∀k n,n<1000000000^k→(pieces n).length≤k
 | 0,n,h=>by
  have:n=0:=by omega
  subst this;simp[zch]
 | k+1,n,h=>by
  by_cases h0:n=0
  ·subst h0;simp[zch]
  ·rw[zc7 h0];have:=zg5 k (n/1000000000) (Ybd (by rw[Yab,←Y6];exact h));simp only[Yn];omega
theorem zpw(a:List UInt32):(pieces (val a)).length≤2*a.length:=by
 refine zg5 _ _ (Yr (za0 a) ?_);rw[Ydh];exact Ydx (by decide) _
theorem zrl:∀n,∀s∈pieces n,s.length=9:=by
 intro n
 induction n using Nat.strongRecOn with
 | _ n ih=>
  intro s hs;by_cases h0:n=0
  ·subst h0;simp[zch]at hs
  ·rw[zc7 h0]at hs;rcases Y7.1 hs with rfl | hs
   ·exact zf8 9 _
   ·exact ih _ (Ydd (Yaf h0) (by decide)) s hs
theorem zly:∀(k n:Nat),n≠0→n<10^k→(Zec k n).dropWhile (· == 48)=Zbb n
 | 0,n,h0,h=>by omega
 | k+1,n,h0,h=>by
  rw[ze6];by_cases h1:n<10
  ·have e:n/10=0:=by omega
   have e2:n%10=n:=by omega
   have hz:∀j,(Zec j 0).dropWhile (· == 48)=[]:=by
    intro j
    induction j with
    | zero=>rfl
    | succ j ih=>rw[ze6,Ydl,Nat.zero_div,ih];rfl
   rw[e,e2,Ydl,hz,zep h1];have:∀d,d<10→d≠0→List.dropWhile (fun x=>x == 48) [UInt8.ofNat (48+d)]=[UInt8.ofNat (48+d)]:=by decide
   simpa using this n h1 h0
  ·have ih:=zly k (n/10) (by omega) (Ybd (by rw[Yab,←Y6];exact h));have hne:Zbb (n/10)≠[]:=by
    unfold Zbb;by_cases h2:n/10<10
    ·rw[zlu h2];simp
    ·rw[zs4 h2];simp
   rw[Ydl,ih,zpp h1];rw[if_neg (by simpa using hne)]
theorem ztd(j:Nat):∀(k n:Nat),Zec (j+k) n=Zec j (n/10^k)++Zec k (n%10^k)
 | 0,n=>by simp[zj9]
 | k+1,n=>by
  rw[←Ya0,ze6,ztd j k (n/10),ze6,Ya3];have e1:n/10/10^k=n/10^(k+1):=by rw[Ybf,Y6,Yab]
  have e2:n/10%10^k=n%10^(k+1)/10:=by rw[Y6,Yab,Nat.mod_mul_right_div_self]
  have e3:n%10^(k+1)%10=n%10:=by rw[Y6,Nat.mod_mul_left_mod]
  rw[e1,e2,e3]
theorem zrm:∀n,(pieces n).reverse.flatten=Zec (9*(pieces n).length) n:=by
 intro n
 induction n using Nat.strongRecOn with
 | _ n ih=>
  by_cases h0:n=0
  ·subst h0;simp[zch,zj9]
  ·rw[zc7 h0,List.reverse_cons,List.flatten_append,ih _ (Ydd (Yaf h0) (by decide))];simp only[Yn,List.flatten_cons,List.flatten_nil,Ya8];rw[show 9*((pieces (n/1000000000)).length+1)=9*(pieces (n/1000000000)).length+9 by omega,ztd]
theorem z1n:∀n,n<10^(9*(pieces n).length):=by
 intro n
 induction n using Nat.strongRecOn with
 | _ n ih=>
  by_cases h0:n=0
  ·subst h0;simp[zch]
  ·have h:=ih _ (Ydd (Yaf h0) (by decide:1<1000000000));rw[zc7 h0,Yn,Yae,Ybh];exact(Ybj (by decide:0<10^(9*1))).1 h
theorem zrn(n:Nat)(h:n≠0):((pieces n).reverse.flatten).dropWhile (· == 48)=Zbb n:=by
 rw[zrm];exact zly _ n h (z1n n)
theorem zdr:∀(l:List (List UInt8)),(∀s∈l,s.length=9)→l.flatten.length=9*l.length
 | [],_=>rfl
 | s::l,h=>by
  rw[List.flatten_cons,Ya7,h s Y8,zdr l fun s hs=>h s (Yq _ hs),Yn];omega
def Zno(a:List UInt32):St:=⟨[(3,.bs (.loc 3) 1 1 0 0),(3,.sl [] .nl),(10,.b false),(9,.sl (Zb a) .an),(2,.s []),(0,.sl (Zb a) .an)],[(.loc 3,⟨1,.own,1,[]⟩)],2⟩
end
section
variable{T:Tbl}
theorem zajq(a:List UInt32):evX (orc T) T 0 tx3 ⟨[(10,.b false),(9,.sl (Zb a) .an),(2,.s []),(0,.sl (Zb a) .an)],[],1⟩=some (.n,Zno a):=by
 simp -implicitDefEqProofs[tx3,Zno]
end
section
variable{T:Tbl}[Zs T][Zu T][Zap T]
theorem zajr(a:List UInt32)(hl:a.length≤1000):evX (orc T) T 0 txP (Zno a) =
  some (.n,⟨[(3,.bs (.loc 3) 1 1 0 (pieces (val a)).length)],[((.loc 3),⟨1,.own,1,Zdz (pieces (val a))⟩)],3⟩):=by
 have hp:=zpw a;have h:=z4t (T:=T) (pieces (val a)).length (by omega) (pieces (val a)) (a,[]) ⟨by simpa using hl,rfl,rfl⟩;unfold Zm8 at h;simp[Zdz]at h;simp -implicitDefEqProofs[Zno,txP,h,Zdz]
end
end Go.Ab
end
section
namespace Go.Ab
section
variable{T:Tbl}
theorem zvy(res:List UInt8):∀l:List UInt8,(l.length≤1000000∧l.dropWhile (· == 48)=res) →
  Ze T 0 0 (.norm false [0]) l125_0 ⟨[(0,.s l),(1,u8 48)],[],2⟩=some (.n,⟨[(0,.s res)],[],2⟩):=by
 refine zav (fun l:List UInt8=>⟨[(0,.s l),(1,u8 48)],[],2⟩) _ (fun l=>l.length) _ ?_
 rintro l ⟨hl,hr⟩
 cases l with
 | nil=>
  right;simp at hr;subst hr;constructor<;>simp -implicitDefEqProofs[l125_0]
 | cons c r=>
  simp only[Yn]at hl;have h2:(0:Int)<(r.length:Int)+1:=by omega
  have h3:(1:Int)≤(r.length:Int)+1:=by omega
  by_cases hc:c=48
  ·left;subst hc;rw[Ydz (by decide)]at hr;exact⟨r,⟨by omega,hr⟩,Yy _,by simp -implicitDefEqProofs[l125_0,h2,h3],rfl⟩
  ·right;rw[Yd0 (by simpa using hc)]at hr;subst hr;have hc':¬ c.toNat=48:=fun h=>hc (UInt8.toNat_inj.1 h);constructor<;>simp -implicitDefEqProofs[l125_0,h2,hc']
end
section
variable{T:Tbl}[Zi7 T]
theorem z01(l:List UInt8)(hl:l.length≤1000000):Za T 103 [.s l,.s [48]]=some (.s (l.dropWhile (· == 48))):=by
 have h:=zvy (T:=T) _ l ⟨hl,rfl⟩;have h1:Za T 125 [.s l,u8 48]=some (.s (l.dropWhile (· == 48))):=by
  rw[zaa Zi7.h125 rfl,b125];simp -implicitDefEqProofs[h]
 obtain⟨Z,hZ⟩:∃Z,b103=(.seq
 (.reg [⟨(some 4),none,.mov (.c (.s []))⟩])
 (.seq
  (.seq
  (.reg [⟨(some 7),none,.mov (.t 0)⟩,
   ⟨(some 8),none,.bin .eql (.t 7) (.c (.s []))⟩,
   ⟨(some 9),none,.mov (.t 8)⟩,
   ⟨(some 10),(some (9,false)),.mov (.t 1)⟩,
   ⟨(some 11),(some (9,false)),.bin .eql (.t 10) (.c (.s []))⟩,
   ⟨(some 12),none,.pick (.t 9) (.c (.b true)) (.t 11)⟩])
  (.cond (.t 12)
   (.seq
   (.reg [⟨(some 13),none,.mov (.t 0)⟩,
    ⟨(some 4),none,.mov (.t 13)⟩])
   (.pre (.norm false [4]) .ret))
   .skip))
  (.seq
  (.seq
   (.reg [⟨(some 14),none,.mov (.t 1)⟩,
    ⟨(some 15),none,.lens (.t 14)⟩,
    ⟨(some 16),none,.bin .eql (.t 15) (.c (.i .i64 1))⟩,
    ⟨(some 17),none,.mov (.t 16)⟩,
    ⟨(some 18),(some (17,true)),.mov (.t 1)⟩,
    ⟨(some 19),(some (17,true)),.ixs (.t 18) (.c (.i .i64 0))⟩,
    ⟨(some 20),(some (17,true)),.bin .lss (.t 19) (.c (u8 128))⟩,
    ⟨(some 21),none,.pick (.t 17) (.t 20) (.c (.b false))⟩])
   (.cond (.t 21)
   (.seq
    (.reg [⟨(some 22),none,.mov (.t 0)⟩,
     ⟨(some 23),none,.mov (.t 1)⟩,
     ⟨(some 24),none,.ixs (.t 23) (.c (.i .i64 0))⟩,
     ⟨(some 25),none,.call 125 [(.t 22),(.t 24)]⟩,
     ⟨(some 4),none,.mov (.t 25)⟩])
    (.pre (.norm false [4]) .ret))
   .skip)) Z)):AX):=⟨_,rfl⟩
 rw[zaa Zi7.h103 rfl,hZ];by_cases h0:l=[]
 ·subst h0;simp -implicitDefEqProofs
 ·simp -implicitDefEqProofs[h0,h1]
end
end Go.Ab
end
section
namespace Go.Ab
variable{P:Program}{ν:Nat→FuncId}{T:Tbl}
theorem zx1(hT:TOk P ν T)(hm:P.follows .mixedOrders=true){cx:Cx}(hP:cx.P=P)(hk:cx.clk0=1)(c:AX){code:Code}{nt:Nat}(hnt:cx.nt=nt)(hres:Zr P nt code=some (er ν (Zq T) c)){st:St}{e:Ex}{st':St}
  (h:evX (orc T) T 0 c st=some (e,st')) {a:Act} {w:World} (hr:Rel cx st a w) {K:Exit→Act→World→Prop} (hK:∀a' w',Rel cx st' a' w'→K e.out a' w'):code.wp P K a w:=by
 obtain⟨L,h1,h2⟩:=zcb T 0 c st _ _ h;obtain⟨n,hn⟩:=zqk T h1;have hev:=zbc (GoodO.orcN hT hm n) (k:=0) (cx:=cx) hP hk c st e st' (h2 _ hn);subst hP hnt;refine wp_mono (hev code hres hm a w hr) ?_
 rintro ex a' w' ⟨s,⟨rfl,rfl⟩,hr'⟩
 exact hK a' w' hr'
theorem zx2{nt:Nat}{w:World}{S:Nat→Nat→Prop}{cargs:Array Value}{args:List AV}(hl:cargs.size=args.length)(hn:args.length≤nt)
  (hC:∀(j:Nat) (v:Value) (c:AV),cargs[j]? = some v→args[j]? = some c→CP w S v c) (hS:∀k o,S k o→k<w.heap.size) :
  Rel ⟨P,nt,w,S,fun _=>none,1⟩ ⟨Zdd args,[],1⟩ { tmps:=cargs++Array.replicate (nt-cargs.size) undef,defers:=[] } w:=by
 refine⟨S,fun _=>none,by simp;omega,rfl,fun t=>?_,⟨⟨fun b bx hb=>(by simp at hb),fun g m hm=>(by cases hm),fun b bx b' bx' h1=>(by simp at h1),fun g g' k h1=>(by cases h1)⟩,
  Ext.refl _ _ _ _,⟨rfl,rfl,rfl,Yg _,fun _ _ _=>rfl⟩,fun k o hs=>.inl hs,hS,fun g k hm=>(by cases hm)⟩⟩
 rw[zk1];cases ha:args[t]? with
 | none=>exact .p (.dead _)
 | some x=>
  have htl:=zcv ha;have hv:cargs[t]? = some (cargs[t]'(by omega)):=Y5 _;have e1:(cargs++Array.replicate (nt-cargs.size) undef).getD t undef=cargs[t]'(by omega):=by
   simp only[Ydr];rw[Yb2 (by omega),hv]
   rfl
  rw[e1];exact .p (hC t _ x hv ha)
theorem Rel.below{nt:Nat}{w0:World}{S:Nat→Nat→Prop}{st:St}{a:Act}{w:World}(h:Rel ⟨P,nt,w0,S,fun _=>none,1⟩ st a w):RowKit.Below w0.heap.size w0 w:=by
 obtain⟨S',M',hr⟩:=h;exact⟨hr.wr.fr.os,hr.wr.fr.tape,hr.wr.fr.output,hr.wr.fr.size,fun k hk=>hr.wr.fr.block k hk fun⟨g,hg⟩=>(by cases hg)⟩
theorem Rel.strAt{cx:Cx}{st:St}{a:Act}{w:World}(h:Rel cx st a w){t:Nat}{l:List UInt8}(he:st.env.get t=.s l):a.tmps.getD t undef=.string ⟨l.toArray⟩:=by
 obtain⟨S',M',hr⟩:=h;have:=hr.env t;rw[he]at this;generalize a.tmps.getD t undef=v at *
 cases this with
 | p h=>cases h;rfl
theorem Rel.strs{cx:Cx}{st:St}{a:Act}{w:World}(h:Rel cx st a w){t:Nat}{b:BId}{g n:Nat}{ls:List (List UInt8)}(hne:ls≠[])(he:st.env.get t=.bs b g 1 0 n)
  (hb:st.heap.lookup b=some ⟨g,.own,1,ls.map fun s=>[.s s]⟩):∃k arr e cap,a.tmps.getD t undef=.slice (some ⟨k,0,none⟩) n cap∧w.heap[k]? = some (.cells arr e (0,0))∧n≤cap∧cap≤maxLen∧cap≤arr.size ∧
   ∀(i:Nat) (s:List UInt8),ls[i]? = some s→arr[i]? = some (Value.string ⟨s.toArray⟩):=by
 obtain⟨S',M',hr⟩:=h;have h1:=hr.env t;rw[he]at h1;obtain⟨_,_,m,hm,h2⟩:=hr.wr.heap.box b _ hb;simp only at hm h2;generalize a.tmps.getD t undef=v at *
 cases h1 with
 | p h=>cases h
 | bs _ _ _ _ _ _ hg hB h1=>
  unfold Zgk at hB;rw[hm]at hB;cases m with
  | none=>exact absurd (by simpa using h2.1) hne
  | some k=>
   obtain⟨arr,e,cap,hk,hv,c1,c2,c3⟩:=hB;obtain⟨arr',e',hk',_,hcells,_⟩:=h2;rw[hk]at hk';cases hk';refine⟨k,arr,e,cap,by rw[hv],hk,c1,c2,by omega,fun i s hi=>?_⟩;obtain⟨u,hu,_,_,hc⟩:=hcells i [.s s] 0 (.s s) (by simp[hi]) rfl;have:=hc (by simp);rw[Ydg,Y4]at hu;cases this;exact hu
end Go.Ab
end
section
namespace Go.Proofs.YtoaggbmfmgfnpaaGreatDoor
open Go Go.Ab Go.RowKit
theorem list_cons{α:Type}{n:Nat}{l:List α}(h:l.length=n+1):∃x t,l=x::t∧t.length=n:=by
 cases l with
 | nil=>simp at h
 | cons x t=>exact⟨x,t,rfl,by simpa using h⟩
set_option maxHeartbeats 2000000 in
set_option maxRecDepth 100000 in
theorem text_calls(hm:Tryz.prog.follows .mixedOrders=true)(a:List UInt32)(hl:a.length≤1000){w0:World}{S:Nat→Nat→Prop}{cargs:Array Value}(hsz:cargs.size=1)
  (hC:∀(j:Nat) (v:Value) (c:AV),cargs[j]? = some v→[AV.sl (Zb a) .an][j]? = some c→CP w0 S v c) (hS:∀k o,S k o→k<w0.heap.size) :
  Calls Tryz.prog 159 cargs w0 fun e w'=>e=.returned (.string ⟨(Zbb (val a)).toArray⟩)∧Below w0.heap.size w0 w':=by
 refine calls_of_wp Tryz.func159 rfl ?_;have h0:=zx2 (P:=Tryz.prog) (nt:=40) (w:=w0) (S:=S) (cargs:=cargs) (args:=[AV.sl (Zb a) .an]) (by simpa using hsz) (by simp) hC hS;refine wp_seq (zx1 sTab_ok hm (cx:=⟨Tryz.prog,40,w0,S,fun _=>none,1⟩) rfl rfl tx0 (nt:=40) rfl (by kernel_rfl) (sTab_part.ev (by kernel_rfl) (zajp (T:=tab) _)) h0 fun a1 w1 h1=>?_);refine wp_seq ?_;by_cases hz:val a=0
 ·refine zx1 sTab_ok hm (cx:=⟨Tryz.prog,40,w0,S,fun _=>none,1⟩) rfl rfl txA (nt:=40) rfl (by kernel_rfl) (sTab_part.ev (by kernel_rfl) (zadd (T:=tab) a hl hz)) h1 fun a2 w2 h2=>?_;have hv:=h2.strAt (t:=2) (l:=[48]) rfl;have hb:=h2.below;have ht:Zbb (val a)=[48]:=by rw[hz];exact zep (by decide)
  obtain⟨_,_,hr2⟩:=h2;refine(show bodyPost Tryz.prog Tryz.f159 (fun e w'=>e=.returned (.string ⟨(Zbb (val a)).toArray⟩)∧Below w0.heap.size w0 w') .ret a2 w2 from ?_);refine⟨hr2.defers,.string ⟨[48].toArray⟩,?_,by rw[ht],hb⟩;rw[←hv];exact results_tmp rfl _ _ _
 ·refine zx1 sTab_ok hm (cx:=⟨Tryz.prog,40,w0,S,fun _=>none,1⟩) rfl rfl txA (nt:=40) rfl (by kernel_rfl) (sTab_part.ev (by kernel_rfl) (zade (T:=tab) a hl hz)) h1 fun a2 w2 h2=>?_;refine wp_seq (zx1 sTab_ok hm (cx:=⟨Tryz.prog,40,w0,S,fun _=>none,1⟩) rfl rfl tx3 (nt:=40) rfl (by kernel_rfl) (sTab_part.ev (by kernel_rfl) (zajq (T:=tab) a)) h2 fun a3 w3 h3=>?_);refine wp_seq (zx1 sTab_ok hm (cx:=⟨Tryz.prog,40,w0,S,fun _=>none,1⟩) rfl rfl txP (nt:=40) rfl (by kernel_rfl) (sTab_part.ev (by kernel_rfl) (zajr (T:=tab) a hl)) h3 fun a4 w4 h4=>?_);have hb4:=h4.below;have hne:pieces (val a)≠[]:=by rw[zc7 hz];simp
  obtain⟨k,arr,e,cap,hv,hk,hc1,hc2,hc3,hcells⟩:=h4.strs (t:=3) (ls:=pieces (val a)) hne rfl (by simp[Zdz]);obtain⟨_,_,hr4⟩:=h4;have hdf:=hr4.defers;have hsz:=hr4.size;have hpl:=zpw a;clear hr4 h0 h1 h2 h3
  change Code.wp _ _ _ a4 w4
  obtain⟨tm,df⟩:=a4;obtain⟨l,rfl⟩:∃l:List Value,tm=l.toArray:=⟨tm.toList,by simp⟩;simp only[List.size_toArray]at hsz;simp only at hdf;subst hdf;obtain⟨x0,l0,rfl,s0⟩:=list_cons hsz;obtain⟨x1,l1,rfl,s1⟩:=list_cons s0;obtain⟨x2,l2,rfl,s2⟩:=list_cons s1;obtain⟨x3,l3,rfl,s3⟩:=list_cons s2;obtain⟨x4,l4,rfl,s4⟩:=list_cons s3;obtain⟨x5,l5,rfl,s5⟩:=list_cons s4;obtain⟨x6,l6,rfl,s6⟩:=list_cons s5;obtain⟨x7,l7,rfl,s7⟩:=list_cons s6;obtain⟨x8,l8,rfl,s8⟩:=list_cons s7;obtain⟨x9,l9,rfl,s9⟩:=list_cons s8;obtain⟨x10,l10,rfl,s10⟩:=list_cons s9;obtain⟨x11,l11,rfl,s11⟩:=list_cons s10;obtain⟨x12,l12,rfl,s12⟩:=list_cons s11;obtain⟨x13,l13,rfl,s13⟩:=list_cons s12;obtain⟨x14,l14,rfl,s14⟩:=list_cons s13;obtain⟨x15,l15,rfl,s15⟩:=list_cons s14;obtain⟨x16,l16,rfl,s16⟩:=list_cons s15;obtain⟨x17,l17,rfl,s17⟩:=list_cons s16;obtain⟨x18,l18,rfl,s18⟩:=list_cons s17;obtain⟨x19,l19,rfl,s19⟩:=list_cons s18;obtain⟨x20,l20,rfl,s20⟩:=list_cons s19;obtain⟨x21,l21,rfl,s21⟩:=list_cons s20;obtain⟨x22,l22,rfl,s22⟩:=list_cons s21;obtain⟨x23,l23,rfl,s23⟩:=list_cons s22;obtain⟨x24,l24,rfl,s24⟩:=list_cons s23;obtain⟨x25,l25,rfl,s25⟩:=list_cons s24;obtain⟨x26,l26,rfl,s26⟩:=list_cons s25;obtain⟨x27,l27,rfl,s27⟩:=list_cons s26;obtain⟨x28,l28,rfl,s28⟩:=list_cons s27;obtain⟨x29,l29,rfl,s29⟩:=list_cons s28;obtain⟨x30,l30,rfl,s30⟩:=list_cons s29;obtain⟨x31,l31,rfl,s31⟩:=list_cons s30;obtain⟨x32,l32,rfl,s32⟩:=list_cons s31;obtain⟨x33,l33,rfl,s33⟩:=list_cons s32;obtain⟨x34,l34,rfl,s34⟩:=list_cons s33;obtain⟨x35,l35,rfl,s35⟩:=list_cons s34;obtain⟨x36,l36,rfl,s36⟩:=list_cons s35;obtain⟨x37,l37,rfl,s37⟩:=list_cons s36;obtain⟨x38,l38,rfl,s38⟩:=list_cons s37;obtain⟨x39,l39,rfl,s39⟩:=list_cons s38;cases Yap s39;have hx3:x3=.slice (some ⟨k,0,none⟩) (pieces (val a)).length cap:=hv;subst hx3;have hjoin:=zrn (val a) hz;have hall:=zrl (val a);generalize pieces (val a)=ps at *
  have HC:Aside (∀(i:Nat) (s:List UInt8),ps[i]? = some s→arr[i]? = some (Value.string ⟨s.toArray⟩)):=hcells;have HJ:Aside (List.dropWhile (fun x=>x == 48) ps.reverse.flatten=Zbb (val a)):=hjoin;have HN:Aside (∀s∈ps,s.length=9):=hall;have HB:Aside (Below w0.heap.size w0 w4):=hb4;have HK:Aside (w4.heap[k]? = some (.cells arr e (0,0))):=hk;have hk4:k<w4.heap.size:=by
   rcases Ys k w4.heap.size with h' | h'
   ·exact h'
   ·simp[Array.getElem?_eq_none h']at hk
  clear hcells hjoin hall hb4 hk
  go_wp2
  go_loopg [8] ps.length (fun g s8 wx=>s8=.int .i64 ((g:Int)-1)∧g≤ps.length∧Aside (Lib.IsBuilder 231 5 w4.heap.size w4.heap.size (Lib.byteCells (ps.drop g).reverse.flatten) wx∧Below w4.heap.size w4 wx))
  case atStart=>exact⟨rfl,Yg _,by rw[Yp];exact Lib.fresh_isBuilder 231 5 w4,(Below.refl _ _).alloc (Yg _) _⟩
  case round=>
   obtain⟨rfl,hg,HW⟩:=hrel;cases gk with
   | zero=>
    obtain⟨hBld,hBel⟩:=HW.out;rw[Y3]at hBld;have hne':ps.reverse.flatten≠[]:=by
     intro h;have:=zdr ps.reverse (fun s hs=>HN.out s (Yej.1 hs));rw[h]at this;simp at this;exact hne (Yap (by omega))
    have HT:Aside (ps.reverse.flatten≠[]):=hne';clear hne';have hlenF:ps.reverse.flatten.length≤1000000:=by
     rw[zdr ps.reverse (fun s hs=>HN.out s (Yej.1 hs)),List.length_reverse];omega
    have hT:∀W:World,Calls Tryz.prog 213 #[.string ⟨ps.reverse.flatten.toArray⟩,.string ⟨#[48]⟩] W fun e w'=>e=.returned (.string ⟨(Zbb (val a)).toArray⟩)∧Below W.heap.size W w':=by
     intro W;have h1:=zja sTab_ok hm (u:=103) rfl rfl (sTab_part.call (by kernel_rfl) (z01 (T:=tab) ps.reverse.flatten hlenF));rw[HJ.out]at h1;refine(h1.2 W (fun _ _=>False) #[.string ⟨ps.reverse.flatten.toArray⟩,.string ⟨#[48]⟩] rfl (fun j v c hv hc=>?_) (fun _ _ h=>h.elim)).mono ?_
     ·match j,hv,hc with
      | 0,hv,hc=>cases hv;cases hc;exact .s _
      | 1,hv,hc=>cases hv;cases hc;exact .s _
     ·rintro e w' ⟨v,r,rfl,rfl,hb,hc⟩
      cases hc;exact⟨rfl,hb⟩
    have HTT:=hT;clear hT
    go_wp2_with (go_at_call 162;refine(Tryz.bString w4.heap.size w4.heap.size ps.reverse.flatten wr hBld HT.out).mono ?_)
    rintro e1 w5 ⟨rfl,hb5⟩
    go_wp2_with (go_at_call 213;refine(HTT w5).mono ?_)
    rintro e2 w6 ⟨rfl,hb6⟩
    go_wp2
    go_ret
    refine⟨rfl,?_⟩;have hs1:=HB.out.size;have hs5:=(hBel.trans hb5).size;exact HB.out.trans (((hBel.trans hb5).mono hs1).trans (hb6.mono (by omega)))
   | succ j=>
    obtain⟨hBld,hBel⟩:=HW.out;obtain⟨s,hs⟩:∃s,ps[j]? = some s:=⟨_,Ya (by omega)⟩;have hcell:wr.cell? ⟨k,j,none⟩=some (.string ⟨s.toArray⟩):=by
     rw[hBel.cell (p:=⟨k,j,none⟩) hk4,Lib.cell_of_heap HK.out];exact HC.out j s hs
    have hs9:s.length=9:=HN.out s (Yf hs);have hflen:=zdr (ps.drop (j+1)).reverse (fun s hs=>HN.out s (Ydn (Yej.1 hs)));have HS:Aside (ps[j]? = some s):=hs;clear hs;rw[List.length_reverse,Yb4]at hflen;have hbound:(Lib.byteCells (ps.drop (j+1)).reverse.flatten).length+(⟨s.toArray⟩:ByteArray).size≤140737488355328:=by
     rw[Lib.byteCells_length,hflen];show _+s.toArray.size≤_;simp only[List.size_toArray];omega
    have HF:Aside ((Lib.byteCells (ps.drop (j+1)).reverse.flatten).length+(⟨s.toArray⟩:ByteArray).size≤140737488355328):=hbound;clear hflen hbound
    go_wp2_with (go_at_call 161;refine(Tryz.bWrite w4.heap.size w4.heap.size _ ⟨s.toArray⟩ wr hBld HF.out hBel.size).mono ?_)
    rintro e1 w5 ⟨rfl,h5,hb5⟩
    go_wp2
    go_roundg j
    case measure=>omega
    case rel=>
     refine⟨by congr 1,by omega,?_,hBel.trans hb5⟩;have e1:(ps.drop j).reverse.flatten=(ps.drop (j+1)).reverse.flatten++s:=by
      obtain⟨hj,he⟩:=Yd.1 HS.out;rw[Ye hj,he];simp
     rw[e1,Lib.byteCells_append];exact .inr h5
theorem word_rows:∀(els:List (List AV)) (l:List UInt32),els.mapM Zgi=some l→els=Zb l
 | [],l,h=>by cases h;rfl
 | r::els,l,h=>by
  rw[Ybp]at h;obtain⟨x,hx,h1⟩:=bind_some h;obtain⟨y,hy,h2⟩:=bind_some h1;cases h2;rw[word_rows els y hy];unfold Zgi at hx;split at hx
  ·split at hx
   ·cases hx;rename_i n hn;have:(w32 n.toNat).toNat=n.toNat:=zah (by omega);simp only[Zb,Yaa,this,u32];rw[Int.toNat_of_nonneg hn.1]
   ·cases hx
  ·cases hx
theorem text_ok(hm:Tryz.prog.follows .mixedOrders=true):∀xs r,prim68 xs=some r→Za8 Tryz.prog (nu 68) xs (·=r):=by
 intro xs r h;unfold prim68 at h;split at h
 ·split at h
  ·rename_i els hl;cases hw:els.mapM Zgi with
   | none=>rw[hw]at h;cases h
   | some l=>
    rw[hw]at h;cases h;have he:=word_rows els l hw;subst he;rw[zjc]at hl;refine⟨enters_of Tryz.func159 (by kernel_rfl) rfl,fun w S cargs hsz hC hS=>?_⟩;refine(text_calls hm l hl (by simpa using hsz) hC hS).mono ?_
    rintro e w' ⟨rfl,hb⟩
    exact⟨_,_,rfl,rfl,hb,.s _⟩
  ·cases h
 ·cases h
#print axioms text_ok
end Go.Proofs.YtoaggbmfmgfnpaaGreatDoor
end
section
set_option linter.unusedVariables false
namespace Go.Proofs
open Go.Shelf Go.RowKit
variable{P:Program}{ρ:Ren}
structure JL (P:Program) (ρ:Ren):Prop extends Lays.n169 P ρ,Lays.n241 P ρ,Builder.Extra P ρ where
 f156:P.funcs[ρ.f 156]? = some (Body.n156 ρ)
 f165:P.funcs[ρ.f 165]? = some (Body.n165 ρ)
 f166:P.funcs[ρ.f 166]? = some (Body.n166 ρ)
 t4:P.underlying (ρ.t 4)=some (TypeDesc.bool)
 a4:∀w,(isAgg (ρ.t 4)).run P w=.ok false w
 z4:∀w,(Go.sizeOf (ρ.t 4)).run P w=.ok 1 w
 v4:∀w,(zeroValue (ρ.t 4)).run P w=.ok (Value.bool false) w
 t20:P.underlying (ρ.t 20)=some (TypeDesc.interface #[])
 a20:∀w,(isAgg (ρ.t 20)).run P w=.ok false w
 z20:∀w,(Go.sizeOf (ρ.t 20)).run P w=.ok 1 w
 v20:∀w,(zeroValue (ρ.t 20)).run P w=.ok (Value.nilIface) w
 t31:P.underlying (ρ.t 31)=some (TypeDesc.slice (ρ.t 9))
 a31:∀w,(isAgg (ρ.t 31)).run P w=.ok false w
 z31:∀w,(Go.sizeOf (ρ.t 31)).run P w=.ok 1 w
 v31:∀w,(zeroValue (ρ.t 31)).run P w=.ok (Value.slice none 0 0) w
 t75:P.underlying (ρ.t 75)=some (TypeDesc.interface #[("Error",ρ.t 80)])
 a75:∀w,(isAgg (ρ.t 75)).run P w=.ok false w
 z75:∀w,(Go.sizeOf (ρ.t 75)).run P w=.ok 1 w
 v75:∀w,(zeroValue (ρ.t 75)).run P w=.ok (Value.nilIface) w
 t76:P.underlying (ρ.t 76)=some (TypeDesc.tuple #[ρ.t 3,ρ.t 75])
 a76:∀w,(isAgg (ρ.t 76)).run P w=.ok false w
 z76:∀w,(Go.sizeOf (ρ.t 76)).run P w=.ok 1 w
 v76:∀w,(zeroValue (ρ.t 76)).run P w=.ok (Value.tuple #[Value.int IntKind.i64 0,Value.nilIface]) w
 t164:P.underlying (ρ.t 164)=some (TypeDesc.unsafePointer)
 a164:∀w,(isAgg (ρ.t 164)).run P w=.ok false w
 z164:∀w,(Go.sizeOf (ρ.t 164)).run P w=.ok 1 w
 v164:∀w,(zeroValue (ρ.t 164)).run P w=.ok (Value.pointer none) w
 e240:∀args w,(callFunc (ρ.f 240) args).run P w=.ok (.enter (ρ.f 240) args) w
 c240:∀(B b:Nat) (bs:List Value) (w:World),Lib.IsBuilder (ρ.t 72) (ρ.t 5) B b bs w →
  Calls P (ρ.f 240) #[.pointer (some ⟨b,0,none⟩)] w fun e w'=>e=.returned (.tuple #[])∧(Lib.BuilderAt (ρ.t 72) (ρ.t 5) B b (.pointer (some ⟨b,0,none⟩)) bs w'∧Below B w w')
 c240f:∀(b:Nat) (w:World),w.cell? ⟨b,0,none⟩=some (.pointer none)→w.shape? b=some ((ρ.t 72),2)→w.frozen? ⟨b,0,none⟩=false →
  Calls P (ρ.f 240) #[.pointer (some ⟨b,0,none⟩)] w fun e w'=>e=.returned (.tuple #[])∧w'=w.setCell ⟨b,0,none⟩ (.pointer (some ⟨b,0,none⟩))
theorem Jl.hid{p:Prop}(h:p):Hid p:=h
set_option maxHeartbeats 2000000 in
set_option maxRecDepth 100000 in
theorem Jl.Builder_WriteString(L:JL P ρ)(B b:Nat)(bs:List Value)(s:ByteArray)(w:World)(h:Lib.IsBuilder (ρ.t 72) (ρ.t 5) B b bs w)(hlen:bs.length+s.size≤140737488355328)(hBw:B≤w.heap.size) :
  Calls P (ρ.f 166) #[.pointer (some ⟨b,0,none⟩),.string s] w fun e w'=>e=.returned (.tuple #[.int .i64 s.size,.nilIface])∧(Lib.BuilderAt (ρ.t 72) (ρ.t 5) B b (.pointer (some ⟨b,0,none⟩)) (bs++Lib.strCells s) w'∧Below B w w'):=by
 obtain⟨i0,hi,hz0,hz1,hz2⟩:=info_parts L.infoByte;have mixed:=L.mixed;have t72:=L.t72;have a72:=L.a72;have z72:=L.z72;have v72:=L.v72;have u72:=run_underlying L.t72;have t70:=L.t70;have a70:=L.a70;have z70:=L.z70;have v70:=L.v70;have u70:=run_underlying L.t70;have t37:=L.t37;have a37:=L.a37;have z37:=L.z37;have v37:=L.v37;have u37:=run_underlying L.t37;have t3:=L.t3;have a3:=L.a3;have z3:=L.z3;have v3:=L.v3;have u3:=run_underlying L.t3;have t9:=L.t9;have a9:=L.a9;have z9:=L.z9;have v9:=L.v9;have u9:=run_underlying L.t9;have t4:=L.t4;have a4:=L.a4;have z4:=L.z4;have v4:=L.v4;have u4:=run_underlying L.t4;have t164:=L.t164;have a164:=L.a164;have z164:=L.z164;have v164:=L.v164;have u164:=run_underlying L.t164;have t5:=L.t5;have a5:=L.a5;have z5:=L.z5;have v5:=L.v5;have u5:=run_underlying L.t5;have e240:∀args w,(callFunc (ρ.f 240) args).run P w=.ok (.enter (ρ.f 240) args) w:=L.e240
 go_enter L.f166,Body.n166_ntmps ρ
 go_wp2_with (go_at_fn (ρ.f 240);refine(L.c240 B b bs _ h).mono ?_)
 rintro e w1 ⟨rfl,h1,hb1⟩
 obtain⟨hB,v,hbk,hown,hne⟩:=h1;have c0:w1.cell? ⟨b,0,none⟩=some (.pointer (some ⟨b,0,none⟩)):=by rw[Lib.cell_of_heap hbk];rfl
 have c1:w1.cell? ⟨b,1,none⟩=some v:=by rw[Lib.cell_of_heap hbk];rfl
 go_wp2_with (at_builtin;refine Lib.wpList_append_own_string _ rfl _ _ (ρ.t 37) (ρ.t 9) rfl B (ρ.t 5) i0 L.t37 L.t9 hi hz0 hz1 hz2 _ _ _ rfl hown s rfl ?c3 ?c4 ?c5 ?_)
 case c3=>unfold maxLen;omega
 case c4=>omega
 case c5=>have:=hb1.size;omega
 intro v' w2 hown' hgrow _;have hlt:b<w1.heap.size:=by
  rcases Nat.lt_or_ge b w1.heap.size with h' | h'
  ·exact h'
  ·simp[Array.getElem?_eq_none h']at hbk
 have hb2:w2.heap[b]? = some (.cells #[.pointer (some ⟨b,0,none⟩),v] (ρ.t 72) (0,0)):=by
  rw[hgrow.block b hlt (fun e=>hne e.symm)];exact hbk
 have d0:w2.cell? ⟨b,0,none⟩=some (.pointer (some ⟨b,0,none⟩)):=by rw[Lib.cell_of_heap hb2];rfl
 have d1:w2.cell? ⟨b,1,none⟩=some v:=by rw[Lib.cell_of_heap hb2];rfl
 have f1:w2.frozen? ⟨b,1,none⟩=false:=Lib.frozen_of_heap hb2 1;obtain⟨ao,n',cap,rfl⟩:∃ao n' cap,v'=.slice ao n' cap:=by
  rcases hown'.2 with ⟨hv,_⟩ | ⟨g,cap,cur,hv,_⟩
  ·exact⟨_,_,_,hv⟩
  ·exact⟨_,_,_,hv⟩
 go_wp2
 go_ret2
 refine⟨rfl,?_,?_⟩
 ·exact Lib.BuilderAt.put (T:=(ρ.t 72)) (e:=(ρ.t 5)) hB hb2 (bs':=bs++Lib.strCells s) (by simpa[Lib.strCells_length]using hown') L.neB5
 ·exact(hb1.grown hgrow (by have:=hb1.size;omega) (fun k hk=>(hown.lt k hk).1)).setCell (p:=⟨b,1,none⟩) hB _
set_option maxHeartbeats 2000000 in
set_option maxRecDepth 1000000 in
theorem Jl.Builder_Grow_fresh(L:JL P ρ)(B b n:Nat)(w:World)(hB:B≤b)(hbk:w.heap[b]? = some (.cells #[.pointer none,.slice none 0 0] (ρ.t 72) (0,0)))(hBw:B≤w.heap.size)(hn:n≤281474976710656) :
  Calls P (ρ.f 165) #[.pointer (some ⟨b,0,none⟩),.int .i64 n] w fun e w'=>e=.returned (.tuple #[])∧(Lib.BuilderAt (ρ.t 72) (ρ.t 5) B b (.pointer (some ⟨b,0,none⟩)) [] w'∧Below B w w'):=by
 have hbk1:(w.setCell ⟨b,0,none⟩ (.pointer (some ⟨b,0,none⟩))).heap[b]? = some (.cells #[.pointer (some ⟨b,0,none⟩),.slice none 0 0] (ρ.t 72) (0,0)):=by
  simp[World.setCell,Array.getElem?_modify,hbk]
 have c1:(w.setCell ⟨b,0,none⟩ (.pointer (some ⟨b,0,none⟩))).cell? ⟨b,1,none⟩=some (.slice none 0 0):=by rw[Lib.cell_of_heap hbk1];rfl
 have hb1:Below B w (w.setCell ⟨b,0,none⟩ (.pointer (some ⟨b,0,none⟩))):=(Below.refl B w).setCell (p:=⟨b,0,none⟩) hB _;have mixed:=L.mixed;have t72:=L.t72;have a72:=L.a72;have z72:=L.z72;have v72:=L.v72;have u72:=run_underlying L.t72;have t70:=L.t70;have a70:=L.a70;have z70:=L.z70;have v70:=L.v70;have u70:=run_underlying L.t70;have t37:=L.t37;have a37:=L.a37;have z37:=L.z37;have v37:=L.v37;have u37:=run_underlying L.t37;have t3:=L.t3;have a3:=L.a3;have z3:=L.z3;have v3:=L.v3;have u3:=run_underlying L.t3;have t9:=L.t9;have a9:=L.a9;have z9:=L.z9;have v9:=L.v9;have u9:=run_underlying L.t9;have t4:=L.t4;have a4:=L.a4;have z4:=L.z4;have v4:=L.v4;have u4:=run_underlying L.t4;have t164:=L.t164;have a164:=L.a164;have z164:=L.z164;have v164:=L.v164;have u164:=run_underlying L.t164;have t5:=L.t5;have a5:=L.a5;have z5:=L.z5;have v5:=L.v5;have u5:=run_underlying L.t5;have e240:∀args w,(callFunc (ρ.f 240) args).run P w=.ok (.enter (ρ.f 240) args) w:=L.e240;have e241:∀args w,(callFunc (ρ.f 241) args).run P w=.ok (.enter (ρ.f 241) args) w:=enters_of L.f241 (by kernel_rfl) rfl
 go_enter L.f165,Body.n165_ntmps ρ
 have hU:Lib.BuilderAt (ρ.t 72) (ρ.t 5) B b (.pointer (some ⟨b,0,none⟩)) [] (w.setCell ⟨b,0,none⟩ (.pointer (some ⟨b,0,none⟩))):=⟨hB,.slice none 0 0,hbk1,World.ownsRow_nil _ _ _ _,by simp[Value.ownBlock]⟩;have c1':(w.setCell ⟨b,0,none⟩ (.pointer (some ⟨b,0,none⟩))).drew.cell? ⟨b,1,none⟩=some (.slice none 0 0):=c1
 go_wp2_with (go_at_fn (ρ.f 240);refine(L.c240f b w (by rw[Lib.cell_of_heap hbk];rfl) (by simp[World.shape?,hbk]) (Lib.frozen_of_heap hbk 0)).mono ?_;rintro e w' ⟨rfl,rfl⟩)
 go_region_o
 all_goals go_wp2_with (go_at_fn (ρ.f 241);refine(Any.Builder_grow_fresh L.ton241 L.toExtra B b n (w.setCell ⟨b,0,none⟩ (.pointer (some ⟨b,0,none⟩))).drew hB hbk1 (by simpa[World.setCell,World.drew,-World.drew_eq]using hBw) hn).mono ?_;rintro e w' ⟨rfl,h1,h2⟩)
 all_goals first
  | (go_end0;exact⟨rfl,h1,hb1.drew.trans h2⟩)
  | (go_end0;exact⟨rfl,hU.drew,hb1.drew⟩)
theorem Jl.strings_Join_none(L:JL P ρ)(a:Option Addr)(c:Nat)(sep:ByteArray)(w:World) :
  Calls P (ρ.f 156) #[.slice a 0 c,.string sep] w fun e w'=>e=.returned (.string ⟨#[]⟩)∧w'=w:=by
 have u72:=run_underlying L.t72;have u70:=run_underlying L.t70;have u37:=run_underlying L.t37;have u127:=run_underlying L.t127;have u3:=run_underlying L.t3;have u9:=run_underlying L.t9;have u4:=run_underlying L.t4;have u164:=run_underlying L.t164;have t31:=L.t31;have u31:=run_underlying L.t31;have u5:=run_underlying L.t5
 go_enter L.f156,Body.n156_ntmps ρ
 go_wp2
 go_ret
 simp_all
theorem Jl.strings_Join_one(L:JL P ρ)(bk o c:Nat)(x sep:ByteArray)(w:World)(hc:w.cell? ⟨bk,o,none⟩=some (.string x)) :
  Calls P (ρ.f 156) #[.slice (some ⟨bk,o,none⟩) 1 c,.string sep] w fun e w'=>e=.returned (.string x)∧w'=w:=by
 have u72:=run_underlying L.t72;have u70:=run_underlying L.t70;have u37:=run_underlying L.t37;have u127:=run_underlying L.t127;have u3:=run_underlying L.t3;have a9:=L.a9;have z9:=L.z9;have u9:=run_underlying L.t9;have u4:=run_underlying L.t4;have u164:=run_underlying L.t164;have t31:=L.t31;have u31:=run_underlying L.t31;have u5:=run_underlying L.t5
 go_enter L.f156,Body.n156_ntmps ρ
 go_wp2
 go_ret
 simp_all
set_option maxHeartbeats 4000000 in
set_option maxRecDepth 100000 in
theorem Jl.strings_Join_many(L:JL P ρ)(bk o c:Nat)(xs:List ByteArray)(sep:ByteArray)(w:World)
  (hcells:∀(j:Nat) x,xs[j]? = some x→w.cell? ⟨bk,o+j,none⟩=some (.string x))
  (hbk:bk<w.heap.size) (h2:2≤xs.length) (hN:xs.length≤140737488355328) (hcap:xs.length≤c)
  (hlen:(Lib.join (xs.map (·.data.toList)) sep.data.toList).length≤140737488355328) :
  Calls P (ρ.f 156) #[.slice (some ⟨bk,o,none⟩) xs.length c,.string sep] w fun e w'=>e=.returned (.string ⟨(Lib.join (xs.map (·.data.toList)) sep.data.toList).toArray⟩)∧Below w.heap.size w w':=by
 have HC:=Jl.hid hcells;clear hcells
 -- the lengths
 obtain⟨x0,r,hxs⟩:∃x0 r,xs=x0::r:=by
  cases xs with
  | nil=>simp at h2
  | cons a t=>exact⟨a,t,rfl⟩
 have hjl:sep.size*(xs.length-1)+Lib.lens (xs.map (·.data.toList))≤140737488355328:=by
  have:=Lib.join_length x0.data.toList (r.map (·.data.toList)) sep.data.toList;rw[hxs]at hlen ⊢;simp only[List.map_cons]at hlen ⊢;rw[this,List.length_map]at hlen;rw[Lib.size_eq,List.length_cons,Nat.add_sub_cancel];exact hlen
 have hmul:sep.size*(xs.length-1)≤140737488355328:=by omega
 generalize hM:sep.size*(xs.length-1)=M at hjl hmul;have hcast:((xs.length:Int)-1)=((xs.length-1:Nat):Int):=by omega
 have hlt:sep.size<9223372036854775807/(xs.length-1):=by
  have:sep.size+1≤9223372036854775807/(xs.length-1):=by
   rw[Nat.le_div_iff_mul_le (by omega),Nat.add_mul,hM];omega
  omega
 have hdv:¬ (9223372036854775807/((xs.length:Int)-1)≤(sep.size:Int)):=by
  have e:(9223372036854775807:Int)/((xs.length-1:Nat):Int)=((9223372036854775807/(xs.length-1):Nat):Int):=IntWalk.up_div (x:=9223372036854775807) rfl rfl;rw[hcast,e];generalize 9223372036854775807/(xs.length-1)=q at hlt;omega
 have hprod:wrap64 ((sep.size:Int)*((xs.length:Int)-1))=(M:Int):=by
  have e:(sep.size:Int)*((xs.length-1:Nat):Int)=((sep.size*(xs.length-1):Nat):Int):=IntWalk.up_mul rfl rfl;rw[hcast,e,hM];exact IntWalk.wrap64_in _ ⟨by omega,by omega⟩
 have hM0:sep.size=0→M=0:=fun h=>by rw[←hM,h,Nat.zero_mul]
 clear hlt hcast;have hne0:((xs.length:Int) == 0)=false:=beq_eq_false_iff_ne.2 (by omega);have hne1:((xs.length:Int) == 1)=false:=beq_eq_false_iff_ne.2 (by omega);have Hxs:=Jl.hid hxs;have Hlen:=Jl.hid hlen;clear hxs hlen;have mixed:=L.mixed;have t72:=L.t72;have a72:=L.a72;have z72:=L.z72;have v72:=L.v72;have u72:=run_underlying L.t72;have t70:=L.t70;have a70:=L.a70;have z70:=L.z70;have v70:=L.v70;have u70:=run_underlying L.t70;have t37:=L.t37;have a37:=L.a37;have z37:=L.z37;have v37:=L.v37;have u37:=run_underlying L.t37;have t127:=L.t127;have a127:=L.a127;have z127:=L.z127;have v127:=L.v127;have u127:=run_underlying L.t127;have t3:=L.t3;have a3:=L.a3;have z3:=L.z3;have v3:=L.v3;have u3:=run_underlying L.t3;have t9:=L.t9;have a9:=L.a9;have z9:=L.z9;have v9:=L.v9;have u9:=run_underlying L.t9;have t4:=L.t4;have a4:=L.a4;have z4:=L.z4;have v4:=L.v4;have u4:=run_underlying L.t4;have t164:=L.t164;have a164:=L.a164;have z164:=L.z164;have v164:=L.v164;have u164:=run_underlying L.t164;have t31:=L.t31;have a31:=L.a31;have z31:=L.z31;have v31:=L.v31;have u31:=run_underlying L.t31;have t5:=L.t5;have a5:=L.a5;have z5:=L.z5;have v5:=L.v5;have u5:=run_underlying L.t5;have e240:∀args w,(callFunc (ρ.f 240) args).run P w=.ok (.enter (ρ.f 240) args) w:=L.e240;have e241:∀args w,(callFunc (ρ.f 241) args).run P w=.ok (.enter (ρ.f 241) args) w:=enters_of L.f241 (by kernel_rfl) rfl;have e165:∀args w,(callFunc (ρ.f 165) args).run P w=.ok (.enter (ρ.f 165) args) w:=enters_of L.f165 (by kernel_rfl) rfl;have e166:∀args w,(callFunc (ρ.f 166) args).run P w=.ok (.enter (ρ.f 166) args) w:=enters_of L.f166 (by kernel_rfl) rfl;have e169:∀args w,(callFunc (ρ.f 169) args).run P w=.ok (.enter (ρ.f 169) args) w:=enters_of L.f169 (by kernel_rfl) rfl
 go_enter L.f156,Body.n156_ntmps ρ
 go_wp2_with fail
 all_goals (
  go_loop [5,41] (fun n i=>∃k:Nat,k≤xs.length∧i=.int .i64 k∧n=.int .i64 ((M+Lib.lens ((xs.map (·.data.toList)).take k):Nat):Int)) (fun _ i=>xs.length-(intOf i).toNat)
  case atStart=>exact⟨0,Nat.zero_le _,rfl,by first | (simp[Lib.lens];done) | (have:=hM0 (by omega);simp[Lib.lens,this])⟩
  case round=>
   obtain⟨k,hk,rfl,rfl⟩:=hrel;by_cases hkn:k<xs.length
   ·obtain⟨x,hx⟩:∃x,xs[k]? = some x:=⟨xs[k],List.getElem?_eq_getElem hkn⟩;have hc:=HC.out k x hx;have hstep:=Lib.lens_take_succ (xs.map (·.data.toList)) k x.data.toList (by simp[hx]);have hbound:Lib.lens ((xs.map (·.data.toList)).take (k+1))≤Lib.lens (xs.map (·.data.toList)):=Lib.lens_take_le _ _;rw[←Lib.size_eq]at hstep;generalize hA1:Lib.lens ((xs.map (·.data.toList)).take (k+1))=A1 at hstep hbound;generalize Lib.lens ((xs.map (·.data.toList)).take k)=A0 at hstep;have HA1:=Jl.hid hA1;clear hA1
    go_wp2
    exact⟨⟨k+1,by omega,by go_num,by rw[HA1.out];refine congrArg _ ?_;omega⟩,by simp[intOf];omega⟩
   ·have hke:k=xs.length:=by omega
    subst hke;have hall:(xs.map (·.data.toList)).take xs.length=xs.map (·.data.toList):=List.take_of_length_le (by simp);rw[hall];generalize hT:Lib.lens (xs.map (·.data.toList))=T at hjl;have HT:=Jl.hid hT;clear hT hall
    go_wp2_with fail
    have hMT:((M:Int)+(T:Int))=((M+T:Nat):Int):=by omega
    rw[hMT];refine(Jl.Builder_Grow_fresh L w.heap.size w.heap.size (M+T) _ (Nat.le_refl _) (heap_alloc_new w _) (by simp) (by omega)).mono ?_
    rintro e w1 ⟨rfl,h1,hb1⟩
    have hb1':Below w.heap.size w w1:=((Below.refl w.heap.size w).alloc (Nat.le_refl _) _).trans hb1
    -- the first element
    have hx0:xs[0]? = some x0:=by rw[Hxs.out];rfl
    have hc0:w1.cell? ⟨bk,o,none⟩=some (.string x0):=by
     rw[hb1'.cell (p:=⟨bk,o,none⟩) hbk];exact HC.out 0 x0 hx0
    have H1:=Jl.hid (Or.inr h1:Lib.IsBuilder (ρ.t 72) (ρ.t 5) w.heap.size w.heap.size [] w1);have Hb1:=Jl.hid hb1';have hBw1:w.heap.size≤w1.heap.size:=hb1'.size;clear h1 hb1 hb1' hMT
    -- what the builder holds behind k rounds of the second loop;and that it is never longer than the whole
    have hwhole:Lib.join (xs.map (·.data.toList)) sep.data.toList=x0.data.toList++Lib.joinTail sep.data.toList (r.map (·.data.toList)):=by
     rw[Hxs.out,List.map_cons,Lib.join_cons]
    have hCle:∀k,(x0.data.toList++Lib.joinTail sep.data.toList ((r.map (·.data.toList)).take k)).length≤140737488355328:=fun k=>by
     have h1:=Hlen.out;rw[hwhole,List.length_append]at h1;have h2:=Lib.joinTail_take_le sep.data.toList (r.map (·.data.toList)) k;rw[List.length_append];omega
    have HCle:=Jl.hid hCle;have Hwhole:=Jl.hid hwhole;clear hCle hwhole
    go_wp2_with fail
    refine(Jl.Builder_WriteString L w.heap.size w.heap.size [] x0 w1 H1.out (by have:=HCle.out 0;simp[Lib.joinTail]at this ⊢;omega) hBw1).mono ?_
    rintro e w2 ⟨rfl,h2',hb2⟩
    have hstart:([]:List Value)++Lib.strCells x0=Lib.byteCells (x0.data.toList++Lib.joinTail sep.data.toList ((r.map (·.data.toList)).take 0)):=by
     simp[Lib.joinTail,Lib.strCells_eq]
    rw[hstart]at h2';have H2:=Jl.hid (Or.inr h2':Lib.IsBuilder (ρ.t 72) (ρ.t 5) w.heap.size w.heap.size _ w2);have Hb2:=Jl.hid (Hb1.out.trans hb2);clear h2' hb2 hstart;have hrl:r.length=xs.length-1:=by rw[Hxs.out];simp
    go_wp2_with fail
    go_loopw [65] (fun i wr=>∃k:Nat,k≤r.length∧i=.int .i64 k∧Hid (Lib.IsBuilder (ρ.t 72) (ρ.t 5) w.heap.size w.heap.size (Lib.byteCells (x0.data.toList++Lib.joinTail sep.data.toList ((r.map (·.data.toList)).take k))) wr)∧Hid (Below w.heap.size w wr)) (fun i _=>r.length-(intOf i).toNat)
    case atStart=>exact⟨0,Nat.zero_le _,rfl,H2,Hb2⟩
    case round=>
     obtain⟨k,hk',rfl,HB,HW⟩:=hrel;by_cases hkr:k<r.length
     ·obtain⟨y,hy⟩:∃y,r[k]? = some y:=⟨r[k],List.getElem?_eq_getElem hkr⟩;have hxy:xs[k+1]? = some y:=by rw[Hxs.out];simpa using hy
      have hcy:wr.cell? ⟨bk,o+1+k,none⟩=some (.string y):=by
       rw[HW.out.cell (p:=⟨bk,o+1+k,none⟩) hbk,show o+1+k=o+(k+1) by omega];exact HC.out (k+1) y hxy
      have hBw:w.heap.size≤wr.heap.size:=HW.out.size;have hnext:Lib.byteCells (x0.data.toList++Lib.joinTail sep.data.toList ((r.map (·.data.toList)).take k))++Lib.strCells sep++Lib.strCells y=Lib.byteCells (x0.data.toList++Lib.joinTail sep.data.toList ((r.map (·.data.toList)).take (k+1))):=by
       rw[Lib.joinTail_take_succ sep.data.toList (r.map (·.data.toList)) k y.data.toList (by simp[hy]),Lib.strCells_eq,Lib.strCells_eq,←Lib.byteCells_append,←Lib.byteCells_append,List.append_assoc,List.append_assoc,List.append_assoc]
      have hl1:=HCle.out (k+1);rw[Lib.joinTail_take_succ sep.data.toList (r.map (·.data.toList)) k y.data.toList (by simp[hy])]at hl1;simp only[List.length_append,←Lib.size_eq]at hl1;have hl0:(Lib.byteCells (x0.data.toList++Lib.joinTail sep.data.toList ((r.map (·.data.toList)).take k))).length=x0.size+(Lib.joinTail sep.data.toList ((r.map (·.data.toList)).take k)).length:=by
       rw[Lib.byteCells_length,List.length_append,←Lib.size_eq]
      generalize (Lib.joinTail sep.data.toList ((r.map (·.data.toList)).take k)).length=J at hl0 hl1;have Hn:=Jl.hid hnext;clear hnext hy hxy
      go_wp2_with fail
      refine(Jl.Builder_WriteString L w.heap.size w.heap.size _ sep wr HB.out (by rw[hl0];omega) hBw).mono ?_
      rintro e w3 ⟨rfl,h3,hb3⟩
      have hBw3:w.heap.size≤w3.heap.size:=Nat.le_trans hBw hb3.size;have H3:=Jl.hid h3;have Hb3:=Jl.hid hb3;clear h3 hb3
      go_wp2_with fail
      refine(Jl.Builder_WriteString L w.heap.size w.heap.size _ y w3 (Or.inr H3.out) (by rw[List.length_append,hl0,Lib.strCells_length];omega) hBw3).mono ?_
      rintro e w4 ⟨rfl,h4,hb4⟩
      rw[Hn.out]at h4;have H4:=Jl.hid (Or.inr h4:Lib.IsBuilder (ρ.t 72) (ρ.t 5) w.heap.size w.heap.size _ w4);have Hb4:=Jl.hid ((HW.out.trans Hb3.out).trans hb4);clear h4 hb4
      go_wp2
      exact⟨⟨k+1,by omega,by go_num,H4,Hb4⟩,by simp[intOf];omega⟩
     ·have hke:k=r.length:=by omega
      subst hke;have hfull:(r.map (·.data.toList)).take r.length=r.map (·.data.toList):=List.take_of_length_le (by simp);have hB':=HB.out;rw[hfull,←Hwhole.out]at hB';have hBw:w.heap.size≤wr.heap.size:=HW.out.size
      go_wp2_with fail
      refine(Any.Builder_String_any L.ton169 L.toExtra w.heap.size w.heap.size _ wr hB' hBw).mono ?_
      rintro e w5 ⟨rfl,hb5⟩
      have Hb5:=Jl.hid (HW.out.trans hb5);clear hb5 hB'
      go_wp2
      go_ret
      exact⟨rfl,Hb5.out⟩)
theorem Jl.strings_Join(L:JL P ρ)(bk o c:Nat)(xs:List ByteArray)(sep:ByteArray)(w:World)
  (hcells:∀(j:Nat) x,xs[j]? = some x→w.cell? ⟨bk,o+j,none⟩=some (.string x))
  (hbk:bk<w.heap.size) (hN:xs.length≤140737488355328) (hcap:xs.length≤c)
  (hlen:(Lib.join (xs.map (·.data.toList)) sep.data.toList).length≤140737488355328) :
  Calls P (ρ.f 156) #[.slice (some ⟨bk,o,none⟩) xs.length c,.string sep] w fun e w'=>e=.returned (.string ⟨(Lib.join (xs.map (·.data.toList)) sep.data.toList).toArray⟩)∧Below w.heap.size w w':=by
 match xs,hcells,hN,hcap,hlen with
 | [],_,_,_,_=>exact(Jl.strings_Join_none L _ c sep w).mono fun e w' ⟨he,hw⟩=>⟨he,hw▸Below.refl _ _⟩
 | [x],hcells,_,_,_=>
  refine(Jl.strings_Join_one L bk o c x sep w (hcells 0 x rfl)).mono fun e w' ⟨he,hw⟩=>⟨?_,hw▸Below.refl _ _⟩;rw[he,List.map_cons,List.map_nil,Lib.join_one,Lib.mk_data]
 | x::y::r,hcells,hN,hcap,hlen=>grind[Jl.strings_Join_many]
end Go.Proofs
end
section
namespace Go.Proofs
open Go.Shelf Go.RowKit Go.Ab
variable{P:Program}{ρ:Ren}
theorem sl_inv{w:World}{S:Nat→Nat→Prop}{v:Value}{els:List (List AV)}{f:Fl}(h:CP w S v (.sl els f)) :
  (els=[]∧∃a,v=.slice a 0 0)∨∃(blk off z cap:Nat) (u:Nat→Nat→Value),v=.slice (some ⟨blk,off,none⟩) els.length cap∧els.length≤cap∧cap≤maxLen ∧
   (∀(i:Nat) (r:List AV),els[i]? = some r→r.length=z) ∧
   (∀i j,i<els.length→j<z→S blk (off+i*z+j)∧w.cell? ⟨blk,off+i*z+j,none⟩=some (u i j)) ∧
   (∀(i:Nat) (r:List AV) (j:Nat) (c:AV),els[i]? = some r→r[j]? = some c→CP w S (u i j) c):=by
 cases h with
 | slnil f hf=>exact .inl ⟨rfl,_,rfl⟩
 | slz a f hf=>exact .inl ⟨rfl,_,rfl⟩
 | sl blk off z cap els f u hf hfull hcap hmax hz hS hc=>exact .inr ⟨blk,off,z,cap,u,rfl,hcap,hmax,hz,fun i j hi hj=>⟨(hS i j hi hj).1,(hS i j hi hj).2.1⟩,hc⟩
theorem s_inv{w:World}{S:Nat→Nat→Prop}{v:Value}{l:List UInt8}(h:CP w S v (.s l)):v=.string ⟨l.toArray⟩:=by
 cases h with
 | s=>rfl
theorem two_args{cargs:Array Value}(h:cargs.size=2):∃a b,cargs=#[a,b]:=by
 obtain⟨l⟩:=cargs
 match l,h with
 | [a,b],_=>exact⟨a,b,rfl⟩
theorem one_arg{cargs:Array Value}(h:cargs.size=1):∃a,cargs=#[a]:=by
 obtain⟨l⟩:=cargs
 match l,h with
 | [a],_=>exact⟨a,rfl⟩
theorem inter_len(sep:List UInt8)(hs:sep.length≤100):∀ts:List (List UInt8),(∀t∈ts,t.length≤10000)→(Lib.join ts sep).length≤20000*ts.length
 | [],_=>by simp[Lib.join,List.intercalate]
 | x::r,h=>by
  have key:∀r:List (List UInt8),(∀t∈r,t.length≤10000)→Lib.lens r≤10000*r.length:=by
   intro r
   induction r with
   | nil=>intro _;simp[Lib.lens]
   | cons y r ih=>
    intro h;have h1:=ih fun t ht=>h t (List.mem_cons_of_mem _ ht);have h2:=h y List.mem_cons_self;simp only[Lib.lens,List.map_cons,List.sum_cons,List.length_cons]at h1 ⊢;omega
  rw[Lib.join_length];have h1:=key (x::r) h;have h2:=Nat.mul_le_mul_right r.length hs;simp only[List.length_cons]at h1 ⊢;omega
theorem join_pcall(L:JL P ρ):∀xs r,prim183 xs=some r→Za8 P (ρ.f 156) xs (·=r):=by
 intro xs r h;unfold prim183 at h;split at h
 ·split at h
  ·rename_i els sep hl;cases ht:els.mapM textOf with
   | none=>rw[ht]at h;cases h
   | some ts=>
    rw[ht]at h;cases h;obtain⟨he,hb⟩:=zlw ht;refine⟨enters_of L.f156 (by kernel_rfl) rfl,fun w S cargs hsz hC hS=>?_⟩;obtain⟨v0,v1,rfl⟩:=two_args hsz;have c0:=hC 0 _ _ rfl rfl;have c1:=s_inv (hC 1 _ _ rfl rfl);subst c1;have htl:ts.length≤1000:=by rw[he,zdq]at hl;exact hl.1
    have done:∀{Q:World→Prop},(∀w',Q w'→Below w.heap.size w w')→Calls P (ρ.f 156) #[v0,.string ⟨sep.toArray⟩] w (fun e w'=>e=.returned (.string ⟨(List.intercalate sep ts).toArray⟩)∧Q w') →
      Calls P (ρ.f 156) #[v0,.string ⟨sep.toArray⟩] w fun e w'=>∃v r,e=.returned v∧r=AV.s (List.intercalate sep ts)∧Below w.heap.size w w'∧CP w' (fun k o=>S k o∨(w.heap.size≤k∧k<w'.heap.size)) v r:=by
     intro Q hQ hc;refine hc.mono ?_
     rintro e w' ⟨rfl,hb⟩
     exact⟨_,_,rfl,rfl,hQ _ hb,.s _⟩
    rcases sl_inv c0 with ⟨h0,a,rfl⟩ | ⟨blk,off,z,cap,u,rfl,hcap,hmax,hz,hcell,hcp⟩
    ·have h1:ts=[]:=by
      rw[he]at h0;exact List.eq_nil_of_length_eq_zero (by rw[←zdq ts,h0];rfl)
     subst h1;refine done (Q:=fun w'=>w'=w) (fun w' h=>h▸Below.refl _ _) ?_;exact Jl.strings_Join_none L a 0 ⟨sep.toArray⟩ w
    ·have hel:els.length=ts.length:=by rw[he,zdq]
     have hcells:∀(j:Nat) x,(ts.map fun t=>(⟨t.toArray⟩:ByteArray))[j]? = some x→S blk (off+j)∧w.cell? ⟨blk,off+j,none⟩=some (.string x):=by
      intro j x hx;rw[List.getElem?_map]at hx;cases ht2:ts[j]? with
      | none=>rw[ht2]at hx;cases hx
      | some t=>
       rw[ht2]at hx;cases hx;have hj:els[j]? = some [.s t]:=by rw[he];simp[Zb7,ht2]
       have hz1:1=z:=hz j _ hj;subst hz1;have hjl:j<els.length:=(List.getElem?_eq_some_iff.1 hj).1;obtain⟨h1,h2⟩:=hcell j 0 hjl Nat.one_pos;have h3:=s_inv (hcp j _ 0 (.s t) hj rfl);rw[h3]at h2;simp only[Nat.mul_one,Nat.add_zero]at h1 h2;exact⟨h1,h2⟩
     cases hts:ts with
     | nil=>
      subst hts;rw[show els.length=0 from hel]at done ⊢;refine done (Q:=fun w'=>w'=w) (fun w' h=>h▸Below.refl _ _) ?_;exact Jl.strings_Join_none L _ cap ⟨sep.toArray⟩ w
     | cons t0 tr=>
      rw[←hts];have hblk:blk<w.heap.size:=hS _ _ (hcells 0 ⟨t0.toArray⟩ (by rw[hts];rfl)).1;have hm:(ts.map fun t=>(⟨t.toArray⟩:ByteArray)).map (·.data.toList)=ts:=by rw[List.map_map];simp[Function.comp_def]
      have hj:=Jl.strings_Join L blk off cap (ts.map fun t=>(⟨t.toArray⟩:ByteArray)) ⟨sep.toArray⟩ w (fun j x hx=>(hcells j x hx).2) hblk (by rw[List.length_map];omega) (by rw[List.length_map];omega)
       (by rw[hm];have:=inter_len sep hl.2 ts hb;show (Lib.join ts sep).length≤_;omega)
      rw[hm,List.length_map,←hel]at hj;exact done (fun _ h=>h) hj
  ·cases h
 ·cases h
end Go.Proofs
end
section
namespace Go.Proofs
open Go.Shelf Go.RowKit
set_option maxRecDepth 100000
def Tryz.jren:Ren:=⟨fun | 156=>95 | 165=>160 | 166=>161 | 169=>162 | 240=>214 | 241=>215 | 277=>258 | n=>n,fun | 0=>0 | 1=>1 | 2=>2 | 3=>3 | 4=>4 | 5=>5 | 6=>6 | 7=>7 | 8=>8 | 9=>9 | 10=>10 | 11=>11 | 12=>12 | 13=>13 | 14=>14 | 15=>15 | 16=>16 | 17=>17 | 18=>18 | 19=>19 | 20=>20 | 21=>21 | 22=>305 | 23=>278 | 24=>96 | 25=>309 | 27=>324 | 28=>22 | 30=>114 | 31=>162 | 34=>26 | 36=>28 | 37=>229 | 40=>372 | 41=>281 | 45=>27 | 46=>254 | 48=>243 | 51=>139 | 52=>261 | 53=>178 | 55=>347 | 59=>250 | 60=>251 | 61=>343 | 63=>346 | 64=>360 | 67=>164 | 69=>183 | 70=>228 | 71=>230 | 72=>231 | 73=>232 | 74=>233 | 75=>234 | 76=>235 | 77=>236 | 80=>237 | 81=>381 | 103=>373 | 105=>344 | 106=>345 | 111=>362 | 112=>287 | 113=>359 | 114=>148 | 115=>315 | 116=>316 | 117=>317 | 118=>318 | 119=>368 | 122=>314 | 123=>319 | 124=>320 | 127=>279 | 131=>66 | 137=>369 | 138=>370 | 139=>371 | 146=>301 | 150=>367 | 151=>361 | 164=>321 | 165=>322 | 166=>323 | n=>n,fun n=>n⟩
theorem Tryz.joinLaid:JL Tryz.prog Tryz.jren:={
 mixed:=by kernel_rfl,
 f169:=Tryz.func162.trans (congrArg some (by kernel_rfl)),
 t0:=Tryz.underlying0,
 a0:=Tryz.isAgg0,
 z0:=Tryz.sizeOf0,
 v0:=Tryz.zeroValue0,
 t3:=Tryz.underlying3,
 a3:=Tryz.isAgg3,
 z3:=Tryz.sizeOf3,
 v3:=Tryz.zeroValue3,
 t9:=Tryz.underlying9,
 a9:=Tryz.isAgg9,
 z9:=Tryz.sizeOf9,
 v9:=Tryz.zeroValue9,
 t37:=Tryz.underlying229,
 a37:=Tryz.isAgg229,
 z37:=Tryz.sizeOf229,
 v37:=Tryz.zeroValue229,
 t70:=Tryz.underlying228,
 a70:=Tryz.isAgg228,
 z70:=Tryz.sizeOf228,
 v70:=Tryz.zeroValue228,
 t72:=Tryz.underlying231,
 a72:=Tryz.isAgg231,
 z72:=Tryz.sizeOf231,
 v72:=Tryz.zeroValue231,
 t127:=Tryz.underlying279,
 a127:=Tryz.isAgg279,
 z127:=Tryz.sizeOf279,
 v127:=Tryz.zeroValue279,
 f241:=Tryz.func215.trans (congrArg some (by kernel_rfl)),
 f277:=Tryz.func258.trans (congrArg some (by kernel_rfl)),
 sizeBuilder:=by kernel_rfl,
 liesBuilder:=by kernel_rfl,
 t5:=Tryz.underlying5,
 a5:=Tryz.isAgg5,
 z5:=Tryz.sizeOf5,
 v5:=Tryz.zeroValue5,
 infoByte:=by kernel_rfl,
 cellsByte:=by kernel_rfl,
 sizeByte:=by kernel_rfl,
 neB5:=by decide,
 f156:=Tryz.func95.trans (congrArg some (by kernel_rfl)),
 f165:=Tryz.func160.trans (congrArg some (by kernel_rfl)),
 f166:=Tryz.func161.trans (congrArg some (by kernel_rfl)),
 t4:=Tryz.underlying4,
 a4:=Tryz.isAgg4,
 z4:=Tryz.sizeOf4,
 v4:=Tryz.zeroValue4,
 t20:=Tryz.underlying20,
 a20:=Tryz.isAgg20,
 z20:=Tryz.sizeOf20,
 v20:=Tryz.zeroValue20,
 t31:=Tryz.underlying162,
 a31:=Tryz.isAgg162,
 z31:=Tryz.sizeOf162,
 v31:=Tryz.zeroValue162,
 t75:=Tryz.underlying234,
 a75:=Tryz.isAgg234,
 z75:=Tryz.sizeOf234,
 v75:=Tryz.zeroValue234,
 t76:=Tryz.underlying235,
 a76:=Tryz.isAgg235,
 z76:=Tryz.sizeOf235,
 v76:=Tryz.zeroValue235,
 t164:=Tryz.underlying321,
 a164:=Tryz.isAgg321,
 z164:=Tryz.sizeOf321,
 v164:=Tryz.zeroValue321,
 e240:=enters_of Tryz.func214 (by kernel_rfl) rfl,
 c240:=fun B b bs w h=>Tryz.bCheck B b bs w h,
 c240f:=fun b w h0 h1 h2=>Tryz.bCheck_fresh b w h0 h1 h2 }
end Go.Proofs
namespace Go.Proofs.YtoaggbmfmgfnpaaGreatDoor
open Go.Ab
theorem join_ok:∀xs r,prim183 xs=some r→Za8 Tryz.prog (nu 183) xs (·=r):=by
 have e:nu 183=Tryz.jren.f 156:=by kernel_rfl
 rw[e];exact join_pcall Tryz.joinLaid
end Go.Proofs.YtoaggbmfmgfnpaaGreatDoor
end
section
namespace Go.Ab
open Go.ChangeShapes Go.WideShapes Go.ChangeAt Go.RowKit
theorem zl3{H:Type}{enc:TypeId×Value→H}{P:Program}{f:Func}{s:ChangeSpec}{apart fresh handsOn again:Bool}{W W':World}{args:Array Value}{v:Value}{ds gs:List (DataW H)}{before pa pv:List MemPlace}
  (hW:DataW.Whole enc P f.params.toList s.vars apart W args.toList ds gs before)
  (hres:∀(b:Nat) (sp:Nat→Bool) (hd:Bool),DataW.TrodAll enc P W' b sp hd f.resultTypes.toList (v.resultList f.resultTypes.size) (s.fn H (ds++gs)).results [])
  (hargs:∀sp:Nat→Bool,(∀p∈before,sp p.block=true)→DataW.TrodAll enc P W' 0 sp true f.params.toList args.toList (s.fn H (ds++gs)).args pa)
  (hvars:∀sp:Nat→Bool,(∀p∈before,sp p.block=true)→DataW.TrodVars enc P W' sp s.vars (s.fn H (ds++gs)).vars pv)
  (hps:before=pa++pv) (hw:Below W.heap.size W W')
  (hok:∀(j:Nat) (t:TypeId) (r:Value),f.resultTypes[j]? = some t→(v.resultList f.resultTypes.size)[j]? = some r→Value.okWide P W' .any 0 t r) :
  s.post enc P f apart fresh handsOn again W args v W':=by
 have hold:∀p∈before,(fun b=>decide (b<W.heap.size)) p.block=true:=fun p hp=>by simpa using hW.lt p hp
 have hlt:∀p∈before,p.block<W.heap.size:=fun p hp=>hW.lt p hp;refine⟨ds,gs,before,[],pa,pv,hW,hres _ _ _,hargs _ hold,hvars _ hold,World.keptBut_mono (fun p hp=>⟨hp,?_⟩) (hw.frame (·∈before)),fun _=>?_⟩
 ·grind
 ·obtain⟨_,_,_,_,_,hz,hn⟩:=hW;refine⟨hok,_,_,([]++pa)++pv,⟨[]++pa,pv,trodAll_append (hargs _ (fun _ _=>rfl)) (hres _ _ _),hvars _ (fun _ _=>rfl),rfl,?_,?_⟩,?_⟩
  ·intro b off hp;have hp':MemPlace.cell b off∈before:=by grind
   rw[hw.frozen (p:=⟨b,off,none⟩) (hlt _ hp')];exact hz b off hp'
  all_goals grind
end Go.Ab
end
section
namespace Go.Ab
open Go.ChangeShapes Go.WideShapes Go.ChangeAt Go.RowKit
inductive Ty where
 | int (k:IntKind)
 | bool
 | str
 | sl (r:Ty)
 | nil
 | cons (a:Ty) (r:Ty)
def Ty.z:Ty→Nat
 | .nil=>0
 | .cons a r=>a.z+r.z
 | _=>1
def Ok:Ty→List AV→Prop
 | .int k,cs=>∃n,cs=[.i k n]∧(Lit.int k n).wf=true
 | .bool,cs=>∃b,cs=[.b b]
 | .str,cs=>∃l,cs=[.s l]∧l.length≤maxLen
 | .sl r,cs=>∃els f,cs=[.sl els f]∧els.length≤maxLen∧(f=.nl∧els=[]∨f=.so)∧∀row∈els,Ok r row
 | .nil,cs=>cs=[]
 | .cons a r,cs=>∃c1 c2,cs=c1++c2∧Ok a c1∧Ok r c2
theorem Ok.len:∀{ty:Ty} {cs:List AV},Ok ty cs→cs.length=ty.z
 | .int _,_,⟨_,h,_⟩=>by rw[h];rfl
 | .bool,_,⟨_,h⟩=>by rw[h];rfl
 | .str,_,⟨_,h,_⟩=>by rw[h];rfl
 | .sl _,_,⟨_,_,h,_⟩=>by rw[h];rfl
 | .nil,_,h=>by rw[show _=[] from h];rfl
 | .cons _ _,_,⟨_,_,h,h1,h2⟩=>by rw[h,Ya7,h1.len,h2.len];rfl
def Zea(w:World)(S:Nat→Nat→Prop)(cs:List Value)(xs:List AV):Prop:=
 xs.length=cs.length∧∀(j:Nat) (v:Value) (c:AV),cs[j]? = some v→xs[j]? = some c→CP w S v c∧v.oneCell'=true
section
variable{H:Type}{enc:TypeId×Value→H}{P:Program}{w:World}{base:Nat}{held:Bool}{S:Nat→Nat→Prop}
theorem Zea.nil:Zea w S [] []:=⟨rfl,fun j v c h=>by grind⟩
theorem Zea.one{v:Value}{c:AV}(h:CP w S v c)(h1:v.oneCell'=true):Zea w S [v] [c]:=by
 refine⟨rfl,fun j v' c' hv hc=>?_⟩
 grind
theorem Zea.append{cs cs':List Value}{xs xs':List AV}(h:Zea w S cs xs)(h':Zea w S cs' xs'):Zea w S (cs++cs') (xs++xs'):=by
 refine⟨by rw[Ya7,Ya7,h.1,h'.1],fun j v c hv hc=>?_⟩;by_cases hj:j<cs.length
 ·rw[Yw hj]at hv;rw[Yw (by rw[h.1];omega)]at hc;exact h.2 j v c hv hc
 ·rw[Yo (by omega)]at hv;rw[Yo (by rw[h.1];omega),h.1]at hc;exact h'.2 _ v c hv hc
def Zgo(P:Program)(g:TypeId→Option Ty)(tot:Nat):Nat→List Field→Option Ty
 | off,[]=>if off=tot then some .nil else none
 | off,f::fs=>(g f.type).bind fun a=>if f.offset=off∧a.z=P.cellsOf f.type then (Zgo P g tot (off+a.z) fs).map (.cons a) else none
def Zlw:Nat→Ty→Ty
 | 0,_=>.nil
 | n+1,a=>.cons a (Zlw n a)
def Zhk(P:Program):Nat→TypeId→Option Ty
 | 0,_=>none
 | n+1,t=>
  match P.underlying t with
  | some .bool=>some .bool
  | some (.int k)=>some (.int k)
  | some .string=>some .str
  | some (.slice e)=>(Zhk P n e).bind fun r=>if r.z=P.cellsOf e∧0<r.z then some (.sl r) else none
  | some (.struct fs)=>Zgo P (Zhk P n) (P.cellsOf t) 0 fs.toList
  | some (.array k e)=>(Zhk P n e).bind fun a=>if a.z=P.cellsOf e∧k*a.z=P.cellsOf t then some (Zlw k a) else none
  | _=>none
theorem zw1{α:Type}{Q:Nat→α→Prop}:∀(n:Nat),(∀i,i<n→∃x,Q i x)→∃l:List α,l.length=n∧∀i x,l[i]? = some x→Q i x
 | 0,_=>⟨[],rfl,fun i x h=>by grind⟩
 | n+1,h=>by
  obtain⟨l,hl,hq⟩:=zw1 n fun i hi=>h i (by omega);obtain⟨x,hx⟩:=h n (by omega);refine⟨l++[x],by grind,fun i y hy=>?_⟩
  grind
def Zge(S:Nat→Nat→Prop)(ps:List MemPlace):Prop:=∀k o,MemPlace.cell k o∈ps→S k o
theorem ziv{n:Nat}{g:TypeId→Option Ty}{cs:List Value}
  (ih:∀t cs x ty,DataW.trod enc P w base (fun _=>true) held n t cs=some x→g t=some ty→Zge S x.2→∃xs,Ok ty xs∧Zea w S cs xs) :
  ∀(fs:List Field) (off:Nat) (ty:Ty) (ys:List (DataW H×List MemPlace)),
   ys.length=fs.length→(∀(i:Nat) (f:Field),fs[i]? = some f→DataW.trod enc P w base (fun _=>true) held n f.type ((cs.drop f.offset).take (P.cellsOf f.type))=ys[i]?) →
   Zgo P g cs.length off fs=some ty→Zge S (ys.flatMap (·.2))→∃xs,Ok ty xs∧Zea w S (cs.drop off) xs
 | [],off,ty,ys,hl,hm,ht,hp=>by
  simp only[Zgo]at ht;split at ht<;>cases ht;rename_i ho;exact⟨[],rfl,by rw[ho,Yp];exact Zea.nil⟩
 | f::fs,off,ty,[],hl,hm,ht,hp=>by grind
 | f::fs,off,ty,y::ys1,hl,hm,ht,hp=>by
  obtain⟨a,ha,ht1⟩:=bind_some ht;split at ht1
  ·rename_i hc;obtain⟨ho,hz⟩:=hc;obtain⟨r,hr,rfl⟩:=map_some ht1;have hy:=hm 0 f rfl;rw[ho,←hz]at hy;obtain⟨xs1,ho1,hr1⟩:=ih _ _ _ _ hy ha fun k o h=>hp k o (by grind);obtain⟨xs2,ho2,hr2⟩:=ziv ih fs _ r ys1 (by grind) (fun i f' hf=>by simpa using hm (i+1) f' (by grind)) hr fun k o h=>hp k o (by
    grind)
   refine⟨xs1++xs2,⟨xs1,xs2,rfl,ho1,ho2⟩,?_⟩;have e:cs.drop off=(cs.drop off).take a.z++cs.drop (off+a.z):=by rw[←Yet,Yay]
   rw[e];exact hr1.append hr2
  grind
theorem zk2{n:Nat}{e:TypeId}{r:Ty}(ih:∀cs x,DataW.trod enc P w base (fun _=>true) held n e cs=some x→Zge S x.2→∃xs,Ok r xs∧Zea w S cs xs) :
  ∀(k:Nat) (cs:List Value) (ys:List (DataW H×List MemPlace)),ys.length=k→cs.length=k*r.z →
   (∀(i:Nat),i<k→DataW.trod enc P w base (fun _=>true) held n e ((cs.drop (i*r.z)).take r.z)=ys[i]?)→Zge S (ys.flatMap (·.2))→∃xs,Ok (Zlw k r) xs∧Zea w S cs xs
 | 0,cs,ys,hl,hc,hm,hp=>by
  rw[Yc4,Ya1]at hc;subst hc;exact⟨[],rfl,Zea.nil⟩
 | k+1,cs,[],hl,hc,hm,hp=>by grind
 | k+1,cs,y::ys,hl,hc,hm,hp=>by
  have hy:=hm 0 (by omega);rw[Yc4,Y3]at hy;obtain⟨xs1,ho1,hr1⟩:=ih _ _ hy fun k o h=>hp k o (by grind);obtain⟨xs2,ho2,hr2⟩:=zk2 ih k (cs.drop r.z) ys (by grind) (by grind) (fun i hi=>by
   grind[List.drop_drop]) fun k o h=>hp k o (by
    grind)
  refine⟨xs1++xs2,⟨xs1,xs2,rfl,ho1,ho2⟩,?_⟩;have e:cs=cs.take r.z++cs.drop r.z:=(Yay ..).symm;rw[e];exact hr1.append hr2
theorem zr5{a:Addr}{m z:Nat}{cs:List Value}(h:w.cells? base (a.add m) z=some cs)(j:Nat)(hj:j<z):w.cell? ((a.add m).add j)=cs[j]? := (World.cells?_some h).2.2 j hj
theorem zw2{a:Addr}{v:Value}(h:w.cell? a=some v):a.spot=none:=by
 unfold World.cell? at h;split at h
 all_goals simp_all
theorem zgg:∀(n m:Nat) (t:TypeId) (cs:List Value) (x:DataW H×List MemPlace) (ty:Ty),
  DataW.trod enc P w base (fun _=>true) held n t cs=some x→Zhk P m t=some ty→Zge S x.2→∃xs,Ok ty xs∧Zea w S cs xs
 | 0,_,_,_,_,_,h,_,_=>by simp[DataW.trod]at h
 | n+1,0,_,_,_,_,_,ht,_=>by simp[Zhk]at ht
 | n+1,m+1,t,cs,x,ty,h,ht,hp=>by
  simp only[Zhk]at ht;split at ht
  ·rename_i hu;cases ht;obtain⟨b,rfl,rfl⟩:=DataW.trod_bool hu h;exact⟨[.b b],⟨b,rfl⟩,Zea.one (.b b) rfl⟩
  ·rename_i k hu;cases ht;obtain⟨z,rfl,rfl,hw⟩:=DataW.trod_int hu h;exact⟨[.i k z],⟨z,rfl,hw⟩,Zea.one (.i k z) rfl⟩
  ·rename_i hu;cases ht;obtain⟨s,rfl,rfl,hs⟩:=DataW.trod_string hu h;exact⟨[.s s.data.toList],⟨_,rfl,by simp_all⟩,Zea.one (.s s.data.toList) rfl⟩
  ·rename_i e hu;obtain⟨r,hr,ht1⟩:=bind_some ht;split at ht1
   ·rename_i hz;cases ht1;obtain⟨hz,hzp⟩:=hz;rcases DataW.trod_slice hu h with ⟨rfl,rfl⟩ | ⟨a,len,cap,elems,rest,n',hn',rfl,rfl,hb,hl,hmx,hlen,hel,hsp,hns⟩
    ·exact⟨[.sl [] .nl],⟨[],.nl,rfl,Yv _,.inl ⟨rfl,rfl⟩,fun row h=>by grind⟩,Zea.one (.slnil _ (.inl rfl)) rfl⟩
    ·obtain⟨hrl,hrest⟩:=hsp rfl;have hall:∀i,i<cap→∃y cs',y∈elems++rest∧w.cells? base (a.add (i*P.cellsOf e)) (P.cellsOf e)=some cs'∧DataW.trod enc P w base (fun _=>true) held n e cs'=some y:=by
      intro i hi;by_cases hil:i<len
      ·have h1:=hel i hil;rw[Ya (by omega)]at h1;obtain⟨cs',h2,h3⟩:=bind_some h1
       grind
      ·have h1:=hrest (i-len) (by omega);rw[Ya (by omega),show len+(i-len)=i by omega]at h1;obtain⟨cs',h2,h3⟩:=bind_some h1
       grind
     by_cases hcap:cap=0
     ·have hl0:len=0:=by omega
      subst hcap;subst hl0;exact⟨[.sl [] .so],⟨[],.so,rfl,Yv _,.inr rfl,fun row h=>by grind⟩,Zea.one (.slz a _ (.inl rfl)) rfl⟩
     ·have hspot:a.spot=none:=by
       obtain⟨y,cs',_,h2,_⟩:=hall 0 (by omega);have h3:=zr5 h2 0 (by omega)
       grind[World.cells?_some,zw2,Addr.add]
      obtain⟨blk,off,sp⟩:=a;have hrows:∀i,i<len→∃xs,Ok r xs∧∃cs',w.cells? base ((⟨blk,off,none⟩:Addr).add (i*P.cellsOf e)) (P.cellsOf e)=some cs'∧Zea w S cs' xs:=by
       intro i hi;obtain⟨y,cs',hy,h2,h3⟩:=hall i (by omega);obtain⟨xs,ho,hrc⟩:=zgg n m e cs' y r h3 hr fun k o hk=>hp k o (by
        grind)
       grind
      obtain⟨els,hels,hq⟩:=zw1 len hrows;refine⟨[.sl els .so],⟨els,.so,rfl,by omega,.inr rfl,fun row hrow=>?_⟩,Zea.one ?_ rfl⟩
      ·grind[List.getElem?_of_mem]
      ·have hcell:∀i j,i<els.length→j<r.z→∃v,w.cell? ⟨blk,off+i*r.z+j,none⟩=some v∧v.oneCell'=true∧∀row c,els[i]? = some row→row[j]? = some c→CP w S v c:=by
        intro i j hi hj;obtain⟨ho,cs',h2,hrc⟩:=hq i _ (Ya hi);have h3:=zr5 h2 j (by omega);have h4:=(World.cells?_some h2).2.1;rw[zbo,zbo,←hz,Ya (by omega)]at h3;have hlr:=ho.len;have h5:=hrc.2 j _ _ (Ya (by omega)) (Ya (by omega))
        grind
       have hS:∀i j,i<els.length→j<r.z→S blk (off+i*r.z+j):=by
        intro i j hi hj;refine hp _ _ ?_;rw[Yag];left;unfold MemPlace.row;rw[Yx];refine⟨i*r.z+j,?_,by rw[Ya0]⟩;have h1:(i+1)*r.z≤(elems.length+rest.length)*r.z:=Yt _ (by omega)
        grind
       have:=CP.sl (w:=w) (S:=S) blk off r.z cap els .so (fun i j=>(w.cell? ⟨blk,off+i*r.z+j,none⟩).getD undef) (by simp) (by simp) (by omega) hmx
        (fun i row hrow=>(hq i row hrow).1.len) (fun i j hi hj=>?_) (fun i row j c hrow hc=>?_)
       ·grind
       ·grind
       ·have hi:=(Yd.1 hrow).1;have hj:=(Yd.1 hc).1;rw[(hq i row hrow).1.len]at hj
        grind
   grind
  ·rename_i fs hu;obtain⟨xs,n',hn',rfl,hcl,hxl,hx⟩:=DataW.trod_struct hu h;cases hn';rw[←hcl]at ht;have:=ziv (S:=S) (g:=Zhk P m) (cs:=cs) (n:=n) (fun t cs x ty h1 h2 h3=>zgg n m t cs x ty h1 h2 h3) fs.toList 0 ty xs (by omega) (fun i f hf=>hx i f (by grind)) ht hp
   grind
  ·rename_i k e hu;obtain⟨r,hr,ht1⟩:=bind_some ht;split at ht1
   ·rename_i hz;cases ht1;obtain⟨hz,hzt⟩:=hz;obtain⟨xs,n',hn',rfl,hcl,hxl,hx⟩:=DataW.trod_array hu h;cases hn';rw[←hz]at hx;exact zk2 (S:=S) (n:=n) (e:=e) (r:=r) (fun cs x h1 h3=>zgg n m e cs x r h1 hr h3) k cs xs hxl (by omega) hx hp
   grind
  grind
end
end Go.Ab
end
section
namespace Go.Ab
open Go.ChangeShapes Go.WideShapes Go.ChangeAt Go.RowKit
def isAgg(P:Program)(t:TypeId):Bool:=match P.underlying t with | some (.struct _)=>true | some (.array _ _)=>true | _=>false
def Zlx(P:Program)(m:Nat):List TypeId→Option (List (Bool×Ty))
 | []=>some []
 | t::ts=>(Zhk P m t).bind fun a=>(Zlx P m ts).map fun r=>(isAgg P t,a)::r
def Zh5:Bool×Ty→AV→Prop
 | (true,ty),x=>∃cs,x=.agg cs∧Ok ty cs
 | (false,ty),x=>Ok ty [x]
def Zjl:List (Bool×Ty)→List AV→Prop
 | [],xs=>xs=[]
 | a::r,xs=>∃x ys,xs=x::ys∧Zh5 a x∧Zjl r ys
section
variable{H:Type}{enc:TypeId×Value→H}{P:Program}{w:World}{S:Nat→Nat→Prop}
theorem z12{m:Nat}{t:TypeId}{v:Value}{d:DataW H}{p:List MemPlace}{ty:Ty}{base:Nat}(hA:DataW.Trod enc P w 0 (fun _=>true) true t v d p)(hT:Zhk P m t=some ty)
  (hval:Value.okWide P w .any base t v) (hp:Zge S p):∃x,Zh5 (isAgg P t,ty) x∧CP w S v x:=by
 obtain⟨fuel,hf⟩:=hA;obtain⟨xs,ho,hrc⟩:=zgg (S:=S) fuel m t _ _ ty hf hT hp;have hlen:=ho.len;cases hu:P.underlying t with
 | none=>cases m<;>simp[Zhk,hu]at hT
 | some desc=>
  have one:∀(hag:isAgg P t=false) (hz:ty.z=1) (hv:v.cells=#[v]),∃x,Zh5 (isAgg P t,ty) x∧CP w S v x:=by
   intro hag hz hv;rw[hag]
   match xs,hlen with
   | [x],_=>
    refine⟨x,ho,?_⟩;have:=hrc.2 0 v x (by grind) rfl
    grind
   | [],h=>grind
   | _::_::_,h=>grind
  cases m with
  | zero=>simp[Zhk]at hT
  | succ m=>
  cases desc<;>simp only[Zhk,hu]at hT<;>try (cases hT;done)
  case struct fs=>
   have hag:isAgg P t=true:=by simp[isAgg,hu]
   rw[hag];unfold Value.okWide at hval;rw[hu]at hval;obtain⟨cs,rfl,hcs,_⟩:=hval;refine⟨.agg xs,⟨xs,rfl,ho⟩,.agg cs xs ?_ ?_ ?_⟩
   ·have:=hrc.1;simpa[Value.cells]using this.symm
   ·intro j u hu;have hl:=hrc.1;have hj:j<cs.size:=(Ycv.1 hu).1;have hj':j<xs.length:=by rw[hl];simpa[Value.cells]using hj
    exact(hrc.2 j u _ (by simpa[Value.cells]using hu) (Ya hj')).2
   ·intro j u c hu hc;exact(hrc.2 j u c (by simpa[Value.cells]using hu) hc).1
  case array k e=>
   have hag:isAgg P t=true:=by simp[isAgg,hu]
   rw[hag];unfold Value.okWide at hval;rw[hu]at hval;obtain⟨cs,rfl,hcs,_⟩:=hval;refine⟨.agg xs,⟨xs,rfl,ho⟩,.agg cs xs ?_ ?_ ?_⟩
   ·have:=hrc.1;simpa[Value.cells]using this.symm
   ·intro j u hu;have hl:=hrc.1;have hj:j<cs.size:=(Ycv.1 hu).1;have hj':j<xs.length:=by rw[hl];simpa[Value.cells]using hj
    exact(hrc.2 j u _ (by simpa[Value.cells]using hu) (Ya hj')).2
   ·intro j u c hu hc;exact(hrc.2 j u c (by simpa[Value.cells]using hu) hc).1
  case bool=>
   cases hT;unfold Value.okWide Cell.okWide Cell.ok at hval;refine one (by simp[isAgg,hu]) rfl ?_;cases v<;>first | rfl | grind
  case int k=>
   cases hT;unfold Value.okWide Cell.okWide Cell.ok at hval;rw[hu]at hval;refine one (by simp[isAgg,hu]) rfl ?_;cases v<;>first | rfl | grind
  case string=>
   cases hT;unfold Value.okWide Cell.okWide Cell.ok at hval;rw[hu]at hval;refine one (by simp[isAgg,hu]) rfl ?_;cases v<;>first | rfl | grind
  case slice e=>
   obtain⟨r,hr,ht1⟩:=bind_some hT;split at ht1<;>cases ht1;unfold Value.okWide Cell.okWide Cell.ok at hval;rw[hu]at hval;refine one (by simp[isAgg,hu]) rfl ?_;cases v<;>first | rfl | grind
theorem znl{m base:Nat}:∀(ts:List TypeId) (vs:List Value) (ds:List (DataW H)) (p:List MemPlace) (tys:List (Bool×Ty)),DataW.TrodAll enc P w 0 (fun _=>true) true ts vs ds p→Zlx P m ts=some tys →
  (∀(j:Nat) t v,ts[j]? = some t→vs[j]? = some v→Value.okWide P w .any base t v)→Zge S p →
  ∃xs,Zjl tys xs∧vs.length=xs.length∧∀(j:Nat) (v:Value) (c:AV),vs[j]? = some v→xs[j]? = some c→CP w S v c
 | [],vs,ds,p,tys,hA,hT,hval,hp=>by
  obtain⟨rfl,_,_⟩:=trodAll_nil hA;cases hT;exact⟨[],rfl,rfl,fun j v c h=>by grind⟩
 | t::ts,vs,ds,p,tys,hA,hT,hval,hp=>by
  obtain⟨v,vs1,d,ds1,a,b,rfl,rfl,rfl,h1,h2⟩:=trodAll_cons hA;obtain⟨ty,hty,hT1⟩:=bind_some hT;obtain⟨r,hr,rfl⟩:=map_some hT1;obtain⟨x,hx,hC⟩:=z12 (S:=S) h1 hty (hval 0 t v rfl rfl) fun k o h=>hp k o (Ya6 _ h);obtain⟨xs,ho,hl,hc⟩:=znl (m:=m) (base:=base) ts vs1 ds1 b r h2 hr (fun j t v ht hv=>hval (j+1) t v (by grind) (by grind)) fun k o h=>hp k o (Yba _ h);refine⟨x::xs,⟨x,xs,rfl,hx,ho⟩,by grind,fun j u c hu hcc=>?_⟩
  grind
theorem zr6(hl:laidOutB P=true){W W':World}(hb:Below W.heap.size W W'){sp:Nat→Bool}:∀(ts:List TypeId) (vs:List Value) (ds:List (DataW H)) (p:List MemPlace),
  (ts.all fun t=>P.readableRec t&&decide (t<P.types.size))=true→DataW.TrodAll enc P W 0 (fun _=>true) true ts vs ds p→(∀x∈p,x.block<W.heap.size)→(∀x∈p,sp x.block=true)→DataW.TrodAll enc P W' 0 sp true ts vs ds p
 | [],_,_,_,_,hA,_,_=>by
  obtain⟨rfl,rfl,rfl⟩:=trodAll_nil hA;exact rfl
 | t::ts,vs,ds,p,hr,hA,hlt,hsp=>by
  obtain⟨v,vs1,d,ds1,a,b,rfl,rfl,rfl,h1,h2⟩:=trodAll_cons hA;rw[Yam,Yh,Yh,decide_eq_true_eq]at hr;exact⟨a,b,WideElems.Trod_stays hl hr.1.1 hr.1.2 h1 (fun x hx=>hb.same (hlt x (Ya6 _ hx))) (fun x hx=>hsp x (Ya6 _ hx)),
   zr6 hl hb ts vs1 ds1 b hr.2 h2 (fun x hx=>hlt x (Yba _ hx)) (fun x hx=>hsp x (Yba _ hx)),rfl⟩
theorem zw3:∀(ts:List TypeId) (vs:List Value) (ds:List (DataW H)) (p:List MemPlace),DataW.TrodAll enc P w 0 (fun _=>true) true ts vs ds p→ds.length=ts.length
 | [],_,_,_,hA=>by
  obtain⟨rfl,rfl,rfl⟩:=trodAll_nil hA
  rfl
 | t::ts,vs,ds,p,hA=>by
  obtain⟨v,vs1,d,ds1,a,b,rfl,rfl,rfl,h1,h2⟩:=trodAll_cons hA;simp[zw3 ts vs1 ds1 b h2]
theorem z13{f:FuncId}{fn:Func}{s:ChangeSpec}{m tb:Nat}{tys:List (Bool×Ty)}{fresh handsOn again:Bool}(hvars:s.vars=[])(hT:Zlx P m fn.params.toList=some tys)(hl:laidOutB P=true)
  (hread:(fn.params.toList.all fun t=>P.readableRec t&&decide (t<P.types.size))=true) (hr:fn.resultTypes=#[tb]) (hb:P.underlying tb=some .bool)
  (hfn:∀ds:List (DataW H),ds.length=fn.params.toList.length→s.fn H ds={ results:=[.lit (.bool true)],args:=ds })
  (hcall:∀xs,Zjl tys xs→Za8 P f xs (·=.b true)) {W:World} {args:Array Value} {ds gs:List (DataW H)} {before:List MemPlace} {base:Nat}
  (hval:∀(j:Nat) t v,fn.params[j]? = some t→args[j]? = some v→Value.okWide P W .any base t v) (hW:DataW.Whole enc P fn.params.toList s.vars false W args.toList ds gs before) :
  Calls P f args W fun e W'=>∃v,e=.returned v∧s.post enc P fn false fresh handsOn again W args v W':=by
 have hW':=hW;obtain⟨p,q,hA,hV,rfl,hfz,hnd⟩:=hW;rw[hvars]at hV;obtain⟨rfl,rfl⟩:=trodVars_none hV;have hlt:∀x∈p,x.block<W.heap.size:=fun x hx=>hW'.lt x (Ya6 _ hx);obtain⟨xs,ho,hlen,hC⟩:=znl (S:=fun k o=>MemPlace.cell k o∈p) _ _ _ _ _ hA hT (fun j t v ht hv=>hval j t v (by grind) (by grind)) (fun k o h=>h);have hc:=(hcall xs ho).2 W (fun k o=>MemPlace.cell k o∈p) args (by omega) (fun j v c hv hc=>hC j v c (by grind) hc) (fun k o h=>hlt _ h);refine hc.mono fun e W' ⟨v,r,he,hrr,hbel,hCr⟩=>?_;subst he hrr;have hv:v=.bool true:=by cases hCr;rfl
 subst hv;have hlf:=hfn ds (zw3 _ _ _ _ hA);refine⟨_,rfl,zl3 (pa:=p) (pv:=[]) hW' (fun b sp hd=>?_) (fun sp hsp=>?_) (fun sp _=>?_) rfl hbel (ok_one hr rfl (okWide_bool_mk hb _))⟩
 ·rw[Ya8,hlf,hr];exact trodAll_mk1 (shut_bool hb _)
 ·grind[zr6]
 ·rw[Ya8,hlf,hvars];exact rfl
end
end Go.Ab
end
section
namespace Go.Ab
theorem zmf:∀(els:List (List AV)),(∀row∈els,Ok (.int .u32) row)→∃l:List UInt32,els=Zb l
 | [],_=>⟨[],rfl⟩
 | r::els,h=>by
  obtain⟨l,rfl⟩:=zmf els fun row hr=>h row (Yq _ hr);obtain⟨n,rfl,hw⟩:=h r Y8;have h1:0≤n∧n<4294967296:=by
   simp[Lit.wf,IntKind.min,IntKind.max,IntKind.signed,IntKind.bits]at hw;omega
  refine⟨w32 n.toNat::l,?_⟩;have:(w32 n.toNat).toNat=n.toNat:=zah (by omega);simp only[Zb,Yaa,this,u32];rw[Int.toNat_of_nonneg h1.1]
theorem z2f{P:Program}{ν:Nat→FuncId}{T:Tbl}(hT:TOk P ν T)(hm:P.follows .mixedOrders=true){u:Nat}{af:AFx}{xs ys:List AV}{r:AV}(hu:T u=some af)(hl:af.lent=none)(h:Za T u ys=some r)(hx:xs.map wkA=ys):Za8 P (ν u) xs (·=r):=by
 subst hx;have h1:=zja hT hm hu hl h;exact Za8.wk (ex:=false) h1
end Go.Ab
end
section
namespace Go.Ab
abbrev Fz:=Bool×List UInt32×List UInt32
abbrev Z1(x:Fz):List AV:=[.b x.1,.sl (Zb x.2.1) .an,.sl (Zb x.2.2) .an]
abbrev efz(x:Fz):AV:=.agg (Z1 x)
def fv(x:Fz):Rat:=mkRat (wv x.1 x.2.1) (val x.2.2)
def fz(q:Rat):Fz:=(decide (q.num<0),ofN q.num.natAbs,ofN q.den)
@[simp] theorem za7(q:Rat):fv (fz q)=q:=by
 unfold fv fz;rw[zia,zae,Rat.mkRat_self]
def fsz(x:Fz):Nat:=max x.2.1.length x.2.2.length
theorem zcu(x:Fz):x.2.1.length≤fsz x:=Yes ..
theorem zc0(x:Fz):x.2.2.length≤fsz x:=Yei ..
def sz(q:Rat):Nat:=max (ofN q.num.natAbs).length (ofN q.den).length
theorem zg2(q:Rat):(ofN q.num.natAbs).length≤sz q:=Yes ..
theorem zg3(q:Rat):(ofN q.den).length≤sz q:=Yei ..
theorem zkc{n:Nat}(h:n≠0):1≤(ofN n).length:=by
 have:ofN n≠[]:=fun e=>h (zaw.1 e);exact Ybm.2 this
theorem z5m(q:Rat):1≤sz q:=Yc (zkc q.den_nz) (zg3 q)
theorem z5n{z:Int}{d:Nat}(h:d≠0):(mkRat z d).num.natAbs=z.natAbs/Nat.gcd z.natAbs d:=by
 rw[Rat.num_mkRat,if_neg h,Int.natAbs_ediv_of_dvd (Int.ofNat_dvd_left.2 (Nat.gcd_dvd_right ..)),Int.natAbs_natCast,Yb6]
theorem z5o{z:Int}{d:Nat}(h:d≠0):(mkRat z d).den=d/Nat.gcd z.natAbs d:=by
 rw[Rat.den_mkRat,if_neg h,Yb6]
theorem z5p{z:Int}{d:Nat}(h:d≠0):sgI (mkRat z d).num=sgI z:=by
 rw[Rat.num_mkRat,if_neg h];have hg:0<Nat.gcd d z.natAbs:=Nat.gcd_pos_of_pos_left _ (Yaf h);obtain⟨k,hk⟩:((Nat.gcd d z.natAbs:Nat):Int) ∣ z:=Int.ofNat_dvd_left.2 (Nat.gcd_dvd_right ..);generalize Nat.gcd d z.natAbs=g at *
 have hg':(0:Int)<g:=by omega
 subst hk;rw[Int.mul_ediv_cancel_left _ (by omega)];unfold sgI;rcases Int.lt_trichotomy k 0 with h1 | h1 | h1
 ·have:=Int.mul_neg_of_pos_of_neg hg' h1;rw[if_pos h1,if_pos this]
 ·subst h1;simp
 ·have:=Int.mul_pos hg' h1;rw[if_neg (by omega),if_neg (by omega),if_neg (by omega),if_neg (by omega)]
theorem z1a(z:Int):decide (z<0)=decide (sgI z<0):=by
 unfold sgI;split
 ·simp[*]
 ·split<;>simp[*]
theorem zacz{z:Int}{d:Nat}(h:d≠0):decide ((mkRat z d).num<0)=decide (z<0):=by
 rw[z1a,z1a z,z5p h]
theorem zac0(n:Bool)(x:Nat){d:Nat}(h:d≠0):fz (mkRat (sg n x) d)=(n&&decide (x≠0),ofN (x/Nat.gcd x d),ofN (d/Nat.gcd x d)):=by
 unfold fz;rw[zacz h,z5n h,z5o h,zs5,zs6]
theorem zdh:ofN 1=[1]:=by
 rw[zht (by decide),show 1/4294967296=0 from rfl,zm0]
 rfl
theorem zkd:fz 0=(false,[],[1]):=by
 unfold fz;rw[Rat.zero_num,Rat.zero_den,zdh];simp
theorem zeq:sz 0=1:=by
 unfold sz;rw[Rat.zero_num,Rat.zero_den,zdh];simp
theorem zke:sz 1=1:=by
 unfold sz;rw[Rat.one_num,Rat.one_den,show (1:Int).natAbs=1 from rfl,zdh]
 rfl
theorem zar(q:Rat):fsz (fz q)=sz q:=rfl
theorem z8q{z:Int}{d L:Nat}(hz:(ofN z.natAbs).length≤L)(hd:(ofN d).length≤L)(h1:1≤L):sz (mkRat z d)≤L:=by
 unfold sz;by_cases h:d=0
 ·subst h;rw[Yeu,Rat.zero_num,Rat.zero_den,zdh];simp;omega
 ·rw[z5n h,z5o h];exact Yd6.2 ⟨Yc (zat (Yce _ _)) hz,Yc (zat (Yce _ _)) hd⟩
theorem za4{x:Fz}{L:Nat}(h:fsz x≤L)(h1:1≤L):sz (fv x)≤L:=
 z8q (Yc (zbw _ _) (Yc (zcu x) h)) (Yc (zad _) (Yc (zc0 x) h)) h1
theorem za1{x y L M:Nat}(hx:(ofN x).length≤L)(hy:(ofN y).length≤M):(ofN (x*y)).length≤L+M:=by
 have:=za6 (x:=(x:Int)) (y:=(y:Int)) (L:=L) (M:=M) (by simpa using hx) (by simpa using hy);simpa[Yew]using this
theorem zfz(p q:Rat):sz (p+q)≤sz p+sz q+1:=by
 rw[Rat.add_def'];have h1:=zg2 p;have h2:=zg3 p;have h3:=zg2 q;have h4:=zg3 q;have h5:=z5m p;refine z8q ?_ (Yc (za1 h2 h4) (by omega)) (by omega);refine zcg ?_ ?_
 ·exact za6 h1 (by simpa using h4)
 ·rw[Ybi];exact za6 h3 (by simpa using h2)
theorem zct(p q:Rat):sz (p*q)≤sz p+sz q:=by
 rw[Rat.mul_def'];have h1:=zg2 p;have h2:=zg3 p;have h3:=zg2 q;have h4:=zg3 q;have h5:=z5m p;exact z8q (za6 h1 h3) (za1 h2 h4) (by omega)
theorem zh7(p:Rat):sz (-p)=sz p:=by
 unfold sz;rw[Rat.neg_num,Rat.neg_den,Int.natAbs_neg]
theorem zh8(p q:Rat):sz (p-q)≤sz p+sz q+1:=by
 rw[Ycp];have:=zfz p (-q)
 rwa [zh7]at this
theorem z1b(p:Rat):sz p⁻¹≤sz p:=by
 unfold sz;rw[Rat.num_inv,Rat.den_inv];by_cases h:p.num=0
 ·simp[h,zdh];have:=zkc p.den_nz;omega
 ·rw[if_neg h,Yew,Int.natAbs_sign_of_ne_zero h,Ydt,Int.natAbs_natCast,Nat.max_comm];exact Yg _
theorem zs8(p q:Rat):sz (p/q)≤sz p+sz q:=by
 rw[Yds];exact Yc (zct _ _) (Nat.add_le_add_left (z1b q) _)
def sgQ(q:Rat):Int:=sgI q.num
theorem z5q{z:Int}{d:Nat}(h:d≠0):sgQ (mkRat z d)=sgI z:=z5p h
theorem zm2{z:Int}:sgI z=0↔z=0:=by
 unfold sgI;split
 ·constructor<;>intro h<;>omega
 ·split<;>constructor<;>intro h<;>omega
theorem z1c{z:Int}:0<sgI z↔0<z:=by
 unfold sgI;split
 ·constructor<;>intro h<;>omega
 ·split<;>constructor<;>intro h<;>omega
theorem z1d{z:Int}:sgI z<0↔z<0:=by
 unfold sgI;split
 ·constructor<;>intro h<;>omega
 ·split<;>constructor<;>intro h<;>omega
theorem zdp{q:Rat}:sgQ q=0↔q=0:=by
 unfold sgQ;rw[zm2,Rat.num_eq_zero]
theorem zdi{q:Rat}:0<sgQ q↔0<q:=by
 unfold sgQ;rw[z1c,Rat.lt_iff];simp
theorem zrh{q:Rat}:sgQ q<0↔q<0:=by
 unfold sgQ;rw[z1d,Rat.lt_iff];simp
def Zc(l:List Fz):List (List AV):=l.map Z1
@[simp] theorem zri(l:List Fz):(Zc l).length=l.length:=by simp[Zc]
@[simp] theorem zbt(l:List Fz):wkL (Zc l)=Zc l:=by rw[zb9];simp[Zc,wkR,wkA]
@[simp] theorem zafs(l:List Fz)(i:Nat)(h:i<(Zc l).length):(Zc l)[i]=Z1 (l[i]'(by simpa using h)):=by simp[Zc]
theorem ze7(l:List Fz)(x:Fz):Zc l++[Z1 x]=Zc (l++[x]):=by simp[Zc]
theorem z4n(l:List Fz)(i:Nat)(x:Fz):(Zc l).set i (Z1 x)=Zc (l.set i x):=by simp[Zc,Yem]
@[simp] theorem zac1(l:List Fz)(n:Nat):(Zc l).take n=Zc (l.take n):=by simp[Zc]
@[simp] theorem zac2(l:List Fz)(n:Nat):(Zc l).drop n=Zc (l.drop n):=by simp[Zc]
@[simp] theorem zau:Zc []=[]:=rfl
def Zv(m:List (List Fz)):List (List AV):=m.map fun r=>[.sl (Zc r) .an]
@[simp] theorem z8r(l:List (List Fz)):(Zv l).length=l.length:=by simp[Zv]
@[simp] theorem z8s(l:List (List Fz)):wkL (Zv l)=Zv l:=by rw[zb9];simp[Zv,wkR,wkA]
@[simp] theorem zaft(l:List (List Fz))(i:Nat)(h:i<(Zv l).length):(Zv l)[i]=[.sl (Zc (l[i]'(by simpa using h))) .an]:=by simp[Zv]
theorem z1e(l:List (List Fz))(r:List Fz):Zv l++[[.sl (Zc r) .an]]=Zv (l++[r]):=by simp[Zv]
@[simp] theorem zac3(l:List (List Fz))(n:Nat):(Zv l).take n=Zv (l.take n):=by simp[Zv]
@[simp] theorem zm3:Zv []=[]:=rfl
end Go.Ab
end
section
namespace Go.Ab
abbrev tyF:Ty:=.cons .bool (.cons (.sl (.int .u32)) (.cons (.sl (.int .u32)) .nil))
theorem zhz{cs:List AV}(h:Ok tyF cs):∃x:Fz,wkR cs=Z1 x:=by
 obtain⟨c1,c2,rfl,⟨b,rfl⟩,c3,c4,rfl,⟨els,f,rfl,_,_,he⟩,c5,c6,rfl,⟨els2,f2,rfl,_,_,he2⟩,rfl⟩:=h;obtain⟨l,rfl⟩:=zmf els he;obtain⟨l2,rfl⟩:=zmf els2 he2;refine⟨(b,l,l2),?_⟩;simp[wkA,wkR]
theorem z2l{x:AV}(h:Zh5 (true,tyF) x):∃c:Fz,wkA x=efz c:=by
 obtain⟨cs,rfl,h⟩:=h;obtain⟨c,hc⟩:=zhz h;refine⟨c,?_⟩;rw[wkA,hc]
theorem zob:∀(els:List (List AV)),(∀r∈els,Ok tyF r)→∃l:List Fz,wkL els=Zc l
 | [],_=>⟨[],rfl⟩
 | r::els,h=>by
  obtain⟨l,hl⟩:=zob els fun r hr=>h r (Yq _ hr);obtain⟨x,hx⟩:=zhz (h r Y8);refine⟨x::l,?_⟩;simp only[wkL,hx,hl]
  rfl
theorem zdb{cs:List AV}(h:Ok (.sl tyF) cs):∃l:List Fz,wkR cs=[.sl (Zc l) .an]:=by
 obtain⟨els,f,rfl,_,_,he⟩:=h;obtain⟨l,hl⟩:=zob els he;exact⟨l,by simp[wkR,wkA,hl]⟩
theorem zoc:∀(els:List (List AV)),(∀r∈els,Ok (.sl tyF) r)→∃m:List (List Fz),wkL els=Zv m
 | [],_=>⟨[],rfl⟩
 | r::els,h=>by
  obtain⟨m,hm⟩:=zoc els fun r hr=>h r (Yq _ hr);obtain⟨l,hl⟩:=zdb (h r Y8);refine⟨l::m,?_⟩;simp only[wkL,hl,hm]
  rfl
theorem z6v{x:AV}(h:Zh5 (false,.int .i64) x):∃n:Int,x=.i .i64 n∧-9223372036854775808≤n∧n<9223372036854775808:=by
 obtain⟨n,hx,wf⟩:=h;cases hx;refine⟨n,rfl,?_⟩;simp[Lit.wf,IntKind.min,IntKind.max,IntKind.signed,IntKind.bits]at wf;omega
theorem zt4{P:Program}{ν:Nat→FuncId}{l l':List (Nat×AFx)}(hT:TOk P ν fun u=>l'.lookup u)(hp:Part l l')(hm:P.follows .mixedOrders=true){u:Nat}{af:AFx}{xs ys:List AV}{r:AV}
  (hu:l'.lookup u=some af) (hl:af.lent=none) (h:Za (fun u=>l.lookup u) u ys=some r) (hx:xs.map wkA=ys):Za8 P (ν u) xs (·=r):=
 z2f hT hm hu hl (hp.call (by rw[hu];rfl) h) hx
end Go.Ab
end
section
namespace Go.Proofs.YtoaggbmfmgfnpaaGreatDoor
open Go Go.Ab Go.RowKit
def Zc7:ByteArray:=⟨#[43,45,42,47,94,40,41,91,93,44,59,61]⟩
theorem signS_lt:∀(p:Nat) (h:p<Zc7.size),(Zc7[p]'h).toNat<128:=by decide
theorem sign_at(c:Nat)(hc:c<256):Zio.contains (UInt8.ofNat c)=decide (∃p,∃h:p<Zc7.size,(Zc7[p]'h).toNat=c):=by
 rw[Ybr,decide_eq_true_iff];have:∀c,c<256→(Zio.contains (UInt8.ofNat c)=true↔∃p,∃h:p<Zc7.size,(Zc7[p]'h).toNat=c):=by decide +kernel
 exact this c hc
set_option maxHeartbeats 1000000 in
set_option maxRecDepth 100000 in
theorem sign_calls(c:Nat)(hc:c<256)(w:World):Calls Tryz.prog 222 #[.int .u8 (c:Int)] w fun e w'=>e=.returned (.bool (Zio.contains (UInt8.ofNat c)))∧Below w.heap.size w w':=by
 rw[sign_at c hc]
 go_enter Tryz.func222,Tryz.ntmps222
 go_wp2
 go_loopw [] (fun wr=>∃pos:Nat,wr.heap[w.heap.size]? = some (.stringIter Zc7 pos)∧Below w.heap.size w wr∧∀j,j<pos→∀h:j<Zc7.size,(Zc7[j]'h).toNat≠c) (fun wr=>Zc7.size-wr.iterPos w.heap.size)
 case atStart=>
  refine⟨0,World.iter_heap w Zc7 0,?_,fun j hj=>absurd hj (Nat.not_lt_zero _)⟩;exact(Below.refl _ w).alloc (Yg _) _
 case round=>
  obtain⟨pos,hit,hbw,hne⟩:=hrel;by_cases hp:pos<Zc7.size
  ·have hnx:∀ty,(Instr.next (.pointer (some ⟨w.heap.size,0,none⟩)) true ty).run Tryz.prog wr=_:=fun ty=>Lib.run_next_ascii_at wr w.heap.size Zc7 pos ty hit hp (signS_lt pos hp);have hit2:=Lib.iterAt_heap wr w.heap.size Zc7 pos (pos+1) hit;have hbw2:=Lib.below_iterAt hbw (k:=w.heap.size) (Yg _) Zc7 (pos+1);obtain⟨x,hx⟩:∃x:Nat,(Zc7[pos]'hp).toNat=x:=⟨_,rfl⟩;have hx1:=signS_lt pos hp;rw[hx]at hnx hx1;have hwr:IntKind.u8.wrap (x:Int)=(x:Int):=by rw[IntKind.wrap_u8];omega
   by_cases hxc:x=c
   ·subst hxc
    go_wp2
    go_ret
    exact⟨by rw[decide_eq_true ⟨pos,hp,hx⟩];rfl,hbw2⟩
   ·have hxc':¬ (x:Int)=(c:Int):=by omega
    go_wp2
    go_roundw
    case rel=>
     refine⟨pos+1,hit2,hbw2,fun j hj h=>?_⟩;rcases Ys j pos with h1 | h1
     ·exact hne j h1 h
     ·obtain rfl:j=pos:=by omega
      rw[hx];exact hxc
    case measure=>
     simp only[World.iterPos,hit2,hit];omega
  ·have hnx:∀ty,(Instr.next (.pointer (some ⟨w.heap.size,0,none⟩)) true ty).run Tryz.prog wr=_:=fun ty=>Lib.run_next_end_at wr w.heap.size Zc7 pos ty hit hp
   go_wp2
   go_ret
   have hno:¬ ∃p,∃h:p<Zc7.size,(Zc7[p]'h).toNat=c:=by
    rintro⟨p,h,hpc⟩
    exact hne p (by omega) h hpc
   exact⟨by rw[decide_eq_false hno];rfl,hbw⟩
theorem sign_ok:∀xs r,prim187 xs=some r→Za8 Tryz.prog (nu 187) xs (·=r):=by
 have e:nu 187=222:=by kernel_rfl
 rw[e];intro xs r h;unfold prim187 at h;split at h
 ·rename_i n;split at h
  ·rename_i hn;cases h;refine⟨enters_of Tryz.func222 (by kernel_rfl) rfl,fun w S cargs hsz hC hS=>?_⟩;obtain⟨v0,rfl⟩:=one_arg hsz;have c0:v0=.int .u8 n:=by
    have:=hC 0 _ _ rfl rfl;cases this
    rfl
   subst c0;obtain⟨c,rfl⟩:∃c:Nat,n=c:=⟨n.toNat,by omega⟩;refine(sign_calls c (by omega) w).mono ?_
   rintro e w' ⟨rfl,hb⟩
   refine⟨_,_,rfl,?_,hb,.b _⟩;rw[Ycb]
   rfl
  ·cases h
 ·cases h
abbrev tyW:Ty:=.cons (.int .i64) (.cons .str (.cons (.int .i64) .nil))
end Go.Proofs.YtoaggbmfmgfnpaaGreatDoor
end
section
namespace Go.Ab
theorem cop2{X:Nat}(h:X%2=1)(k:Nat):Nat.Coprime (2^k) X:=by
 refine Nat.Coprime.pow_left k ?_;unfold Nat.Coprime;rw[Yex,h]
 rfl
theorem zkf{k m Y:Nat}(hY:Y%2=1):Nat.gcd (2^k*m) Y=Nat.gcd m Y:=Nat.Coprime.gcd_mul_left_cancel m (cop2 hY k)
theorem z8t{m n X Y:Nat}(hX:X%2=1)(hY:Y%2=1):Nat.gcd (2^m*X) (2^n*Y)=2^(min m n)*Nat.gcd X Y:=by
 rcases Nat.le_total m n with h | h
 ·rw[Ybg h,show n=m+(n-m) by omega,Ybh,Y9,Nat.gcd_mul_left,Yb6 X,zkf hX,Yb6 Y]
 ·rw[Nat.min_eq_right h,show m=n+(m-n) by omega,Ybh,Y9,Nat.gcd_mul_left,zkf hY]
theorem zs9{X Y k m:Nat}(hY:Y%2=1)(h:Y≤X)(e:X-Y=2^k*m):Nat.gcd m Y=Nat.gcd X Y:=by
 rw[←zkf hY (k:=k),←e,Nat.gcd_sub_self_left h]
theorem z4o{n:Nat}(h:n≠0):∃k m,n=2^k*m∧m%2=1:=by
 induction n using Nat.strongRecOn with
 | _ n ih=>
  by_cases h2:n%2=1
  ·exact⟨0,n,by simp,h2⟩
  ·obtain⟨k,m,e,hm⟩:=ih (n/2) (by omega) (by omega);refine⟨k+1,m,?_,hm⟩;rw[Y6,Yab (2^k),Y9,←e];omega
end Go.Ab
end
section
namespace Go.Ab
section
variable{T:Tbl}
theorem zkl(G:Nat):∀y:Nat×Nat,(y.1<18446744073709551616∧y.2<18446744073709551616∧Nat.gcd y.1 y.2=G) →
  Ze T 0 0 (.norm false [0]) l198_0 ⟨[(0,u64 y.1),(1,u64 y.2)],[],2⟩=some (.n,⟨[(0,u64 G)],[],2⟩):=by
 refine zav (fun y:Nat×Nat=>⟨[(0,u64 y.1),(1,u64 y.2)],[],2⟩) _ (fun y=>y.2) _ ?_
 rintro⟨x,y⟩ ⟨hx,hy,hG⟩
 simp only at hx hy hG ⊢;by_cases h:y=0
 ·right;subst h;rw[Yd3]at hG;subst hG;constructor<;>simp -implicitDefEqProofs[l198_0]
 ·left;have hm:=Yaz x (Yaf h);refine⟨(y,x%y),⟨hy,by simp only;omega,by simp only;rw[←hG,Yb6 y,←Yex,Yb6]⟩,hm,?_,trivial⟩;simp -implicitDefEqProofs[l198_0,h]
end
section
variable{T:Tbl}[Zl T]
theorem zod(x y:Nat)(hx:x<18446744073709551616)(hy:y<18446744073709551616):Za T 198 [u64 x,u64 y]=some (u64 (Nat.gcd x y)):=by
 have h:=zkl (T:=T) (Nat.gcd x y) (x,y) ⟨hx,hy,rfl⟩;simp only at h;rw[zaa Zl.h198 rfl,b198];simp -implicitDefEqProofs[h]
theorem zt5(a:List UInt32):Za T 200 [.sl (Zb (ofN (val a))) .an]=some (.b (decide (val a=1))):=by
 rw[zaa Zl.h200 rfl,b200];generalize val a=n;by_cases h0:n=0
 ·subst h0;simp -implicitDefEqProofs
 ·rw[zht h0];by_cases h1:n/4294967296=0
  ·have e:ofN (n/4294967296)=[]:=zaw.2 h1;have e2:n%4294967296=n:=Yk (by omega);simp -implicitDefEqProofs[e,Zb,zb7,e2]
  ·have h2:¬ ofN (n/4294967296)=[]:=fun e=>h1 (zaw.1 e);have h3:¬ n=1:=by rintro rfl;simp at h1
   have h4:¬ ((ofN (n/4294967296)).length:Int)+1=1:=by
    have:=Ybm.2 h2;omega
   simp -implicitDefEqProofs[Zb,h3,h4]
end
section
variable{T:Tbl}[Zs T][Z2 T][Z4 T][Zu T][Zw T][Zl T]
theorem z2m(G:Nat):∀y:List UInt32×List UInt32,(y.1.length≤90000∧y.2.length≤90000∧(∃n,y.1=ofN n)∧(∃n,y.2=ofN n)∧Nat.gcd (val y.1) (val y.2)=G) →
  ∃r,(∃a b:List UInt32,r=(Ex.n,(⟨[(0,.sl (Zb a) .an),(1,.sl (Zb b) .an)],[],2⟩:St))∧a.length≤90000∧b.length≤2∧(∃n,a=ofN n)∧(∃n,b=ofN n)∧Nat.gcd (val a) (val b)=G) ∧
   Ze T 0 0 (.norm false [0,1]) l199_0 ⟨[(0,.sl (Zb y.1) .an),(1,.sl (Zb y.2) .an)],[],2⟩=some r:=by
 refine zay (fun y:List UInt32×List UInt32=>⟨[(0,.sl (Zb y.1) .an),(1,.sl (Zb y.2) .an)],[],2⟩) _ (fun y=>val y.2) _ ?_
 rintro⟨a,b⟩ ⟨ha,hb,hk,hn,hG⟩
 simp only at ha hb hk hn hG ⊢;by_cases h:2<b.length
 ·left;have h':(2:Int)<b.length:=by omega
  have hv:val b≠0:=by
   obtain⟨n,rfl⟩:=hn;rw[zae]
   rintro rfl
   simp at h
  have hd:=zgu (T:=T) a b ha hb;rw[if_neg hv]at hd;have hm:=Yaz (val a) (Yaf hv);refine⟨(b,ofN (val a%val b)),⟨hb,?_,hn,⟨_,rfl⟩,?_⟩,?_,?_⟩
  ·have:=zat (Yc5 hm);have:=zad b;simp only;omega
  ·simp only;rw[zae,←hG,Yb6 (val b),←Yex,Yb6]
  ·simp only[zae];exact hm
  ·clear hG hm hn hv hk;simp -implicitDefEqProofs[l199_0,h',hd]
 ·right;have h':¬ (2:Int)<b.length:=by omega
  refine⟨_,⟨a,b,rfl,ha,by omega,hk,hn,hG⟩,?_,?_⟩<;>clear hG<;>simp -implicitDefEqProofs[l199_0,h']
theorem zqm(a b:List UInt32)(ha:a.length≤90000)(hb:b.length≤90000):Za T 199 [.sl (Zb a) .an,.sl (Zb b) .an]=some (.sl (Zb (ofN (Nat.gcd (val a) (val b)))) .an):=by
 have h1:=zbv (T:=T) a (by omega);have h2:=zbv (T:=T) b (by omega);have la:=zad a;have lb:=zad b;obtain⟨G,hG⟩:∃G,G=Nat.gcd (val a) (val b):=⟨_,rfl⟩;obtain⟨_,⟨x,y,rfl,hx,hy,⟨m,rfl⟩,⟨n,rfl⟩,hg⟩,hr⟩:=z2m (T:=T) G (ofN (val a),ofN (val b)) ⟨by simp only;omega,by simp only;omega,⟨_,rfl⟩,⟨_,rfl⟩,by simp only[zae];exact hG.symm⟩;simp only at hr;rw[zae,zae]at hg;rw[zaa Zl.h199 rfl,b199,←hG];clear hG;by_cases h0:n=0
 ·subst h0;rw[Yd3]at hg;subst hg;simp -implicitDefEqProofs[h1,h2,hr]
 ·have hv:val (ofN n)≠0:=by rw[zae];exact h0
  have hd:=zgu (T:=T) (ofN m) (ofN n) hx (by omega);rw[if_neg hv,zae,zae]at hd;have hn64:n<18446744073709551616:=by
   have:=za0 (ofN n);rw[zae]at this;exact Yr this (Yu (by decide) hy)
  have hm:=Yaz m (Yaf h0);have s1:=zoo (T:=T) (ofN n) (by omega);rw[zae,if_pos hn64]at s1;have s2:=zoo (T:=T) (ofN (m%n)) (by have:=zat (Yc5 hm);omega);rw[zae,if_pos (by omega)]at s2;have s3:=zod (T:=T) n (m%n) hn64 (by omega);have e:Nat.gcd n (m%n)=G:=by rw[←hg,Yb6 n,←Yex,Yb6]
  rw[e]at s3;have s4:=zh0 (T:=T) G (by
   rw[←hg];exact Ydb (Nat.gcd_le_right _ (Yaf h0)) hn64)
  have hl:¬ ofN n=[]:=fun e=>h0 (zaw.1 e);simp -implicitDefEqProofs[h1,h2,hr,hd,s1,s2,s3,s4,hl,h0]
theorem zkm(a b:List UInt32)(ha:a.length≤90000)(hb:b.length≤90000):Za T 201 [.sl (Zb a) .an,.sl (Zb b) .an] =
  some (.tup [.sl (Zb (ofN (val a/Nat.gcd (val a) (val b)))) .an,.sl (Zb (ofN (val b/Nat.gcd (val a) (val b)))) .an]):=by
 have hg:=zqm (T:=T) a b ha hb;have ho:=zt5 (T:=T) (ofN (Nat.gcd (val a) (val b)));rw[zae]at ho;have ll:(ofN (Nat.gcd (val a) (val b))).length≤90000:=by
  by_cases h:val a=0
  ·rw[h,Nat.gcd_zero_left];have:=zad b;omega
  ·have:=zat (Nat.gcd_le_left (val b) (Yaf h));have:=zad a;omega
 have d1:=zgu (T:=T) a (ofN (Nat.gcd (val a) (val b))) ha ll;have d2:=zgu (T:=T) b (ofN (Nat.gcd (val a) (val b))) hb ll;have n1:=zbv (T:=T) a (by omega);have n2:=zbv (T:=T) b (by omega);rw[zae]at d1 d2;rw[zaa Zl.h201 rfl,b201];by_cases h0:Nat.gcd (val a) (val b)=0
 ·rw[h0]at hg ⊢;simp only[zm0]at hg;simp -implicitDefEqProofs[hg]
 ·rw[if_neg h0]at d1 d2;have hl:¬ ofN (Nat.gcd (val a) (val b))=[]:=fun e=>h0 (zaw.1 e);by_cases h1:Nat.gcd (val a) (val b)=1
  ·rw[h1]at hg ho hl ⊢;simp -implicitDefEqProofs[hg,ho,n1,n2,hl]
  ·generalize Nat.gcd (val a) (val b)=g at *
   simp -implicitDefEqProofs[hg,ho,d1,d2,hl,h0,h1]
end
end Go.Ab
end
section
namespace Go.Ab
section
variable{T:Tbl}[Zf T]
theorem zbh(n:Bool)(k:Nat):Za T 55 [.b n,.sl (Zb (ofN k)) .an]=some (ez (sg n k)):=by
 rw[zaa Zf.h55 rfl,b55,z09];have h:(0<(ofN k).length)=(k≠0):=by
  rw[eq_iff_iff,Ybm];exact not_congr zaw
 cases n<;>simp -implicitDefEqProofs[h]
end
section
variable{T:Tbl}[Zs T][Zf T]
theorem zhs(n:Bool)(a:List UInt32)(ha:a.length≤1000000):Za T 38 [wh n a]=some (ez (wv n a)):=by
 have h:=zbv (T:=T) a (by omega);have hs:=zbh (T:=T) n (val a);rw[zaa Zf.h38 rfl,b38];simp -implicitDefEqProofs[h,hs,wv]
end
section
variable{T:Tbl}[Zs T][Zf T]
theorem zpi(n:Bool)(a:List UInt32)(ha:a.length≤1000000):Za T 40 [wh n a]=some (ez (-wv n a)):=by
 have h:=zbv (T:=T) a (by omega);have hs:=zbh (T:=T) (!n) (val a);rw[z5k]at hs;rw[zaa Zf.h40 rfl,b40];simp -implicitDefEqProofs[h,hs,wv]
end
section
variable{T:Tbl}[Zs T][Zf T]
theorem zlr(n m:Bool)(a b:List UInt32)(ha:a.length≤90000)(hb:b.length≤90000):Za T 23 [wh n a,wh m b]=some (ez (wv n a+wv m b)):=by
 rw[zaa Zf.h23 rfl,b23];by_cases h:n=m
 ·subst h;have hn:=z3c (T:=T) [a,b] (by simp) (by simp;omega);have hs:=zbh (T:=T) n (val a+val b);rw[zka]at hs;have e:lls [a,b]=[[.sl (Zb a) .an],[.sl (Zb b) .an]]:=rfl;have e2:Zf0 [a,b]=val a+val b:=by simp[Zf0]
  rw[e,e2]at hn;simp -implicitDefEqProofs[hn,hs,wv]
 ·have hg:=z67 (T:=T) a b (by omega) (by omega);by_cases hlt:val a<val b
  ·have hs:=zbh (T:=T) m (val b-val a);rw[zpq h hlt]at hs;simp -implicitDefEqProofs[h,hg,hlt,zdc,hs,wv]
  ·have hs:=zbh (T:=T) n (val a-val b);rw[zpr h hlt]at hs;simp -implicitDefEqProofs[h,hg,hlt,zdc,hs,wv]
end
section
variable{T:Tbl}[Zs T][Zf T]
theorem zls(n m:Bool)(a b:List UInt32)(ha:a.length≤90000)(hb:b.length≤90000):Za T 25 [wh n a,wh m b]=some (ez (wv n a-wv m b)):=by
 obtain⟨z,hz⟩:∃z,z=-wv m b:=⟨_,rfl⟩;have h1:=zpi (T:=T) m b (by omega);have hl:=zbw m b;rw[←zkb,←hz]at hl;have h2:=zlr (T:=T) n (decide (z<0)) a (ofN z.natAbs) (by omega) (by omega);have e:wv n a-wv m b=wv n a+z:=by omega
 rw[zia,←e]at h2;rw[←hz]at h1;rw[zaa Zf.h25 rfl,b25];simp -implicitDefEqProofs[h1,h2]
end
section
variable{T:Tbl}[Z2 T][Zf T]
theorem zpj(n m:Bool)(a b:List UInt32)(ha:a.length≤100000)(hb:b.length≤100000):Za T 27 [wh n a,wh m b]=some (ez (wv n a*wv m b)):=by
 have h1:=zfi (T:=T) a b ha hb;have hs:=zbh (T:=T) (n != m) (val a*val b);rw[zs7]at hs;rw[zaa Zf.h27 rfl,b27];simp -implicitDefEqProofs[h1,hs,wv]
end
section
variable{T:Tbl}[Zs T][Zf T]
theorem zfs(n:Bool)(a:List UInt32)(ha:a.length≤1000000):Za T 37 [wh n a]=some (.i .i64 (sgI (wv n a))):=by
 have h1:=zgt (T:=T) a (by omega);rw[zaa Zf.h37 rfl,b37];unfold wv;rw[z5l];by_cases h:val a=0
 ·simp -implicitDefEqProofs[h1,h]
 ·cases n<;>simp -implicitDefEqProofs[h1,h]
end
section
variable{T:Tbl}[Zs T][Zf T]
theorem zvz(n m:Bool)(a b:List UInt32)(ha:a.length≤90000)(hb:b.length≤90000):Za T 36 [wh n a,wh m b]=some (.i .i64 (sgI (wv n a-wv m b))):=by
 have h1:=zls (T:=T) n m a b ha hb;have hl:=zcg (x:=wv n a) (y:=-wv m b) (L:=90000) (by have:=zbw n a;omega) (by rw[zkb];have:=zbw m b;omega);rw[←Int.sub_eq_add_neg]at hl;have h2:=zfs (T:=T) (decide (wv n a-wv m b<0)) (ofN (wv n a-wv m b).natAbs) (show (ofN (wv n a-wv m b).natAbs).length≤1000000 by omega);rw[zia]at h2;rw[zaa Zf.h36 rfl,b36];simp -implicitDefEqProofs[h1,h2]
end
section
variable{T:Tbl}[Zs T][Zf T]
theorem z4i(k:Int)(h1:-9223372036854775808≤k)(h2:k<9223372036854775808):Za T 41 [.i .i64 k]=some (ez k):=by
 rw[zaa Zf.h41 rfl,b41];by_cases h:k<0
 ·have hn:=zh0 (T:=T) k.natAbs (by omega);have hs:=zbh (T:=T) true k.natAbs;have e:sg true k.natAbs=k:=by simp[sg];omega
  have e2:Zee 0 (k%18446744073709551616).toNat=k.natAbs:=by unfold Zee;omega
  rw[e]at hs;simp -implicitDefEqProofs[h,e2,hn,hs]
 ·have hn:=zh0 (T:=T) k.natAbs (by omega);have hs:=zbh (T:=T) false k.natAbs;have e:sg false k.natAbs=k:=by simp[sg];omega
  have e2:(k%18446744073709551616).toNat=k.natAbs:=by omega
  rw[e]at hs;simp -implicitDefEqProofs[h,e2,hn,hs]
end
section
variable{T:Tbl}[Zs T][Za0 T][Zf T]
theorem zv0(n:Bool)(a:List UInt32)(ha:a.length≤1000):Za T 34 [wh n a]=some (.s (Zgu (wv n a))):=by
 have h1:Za T 68 [.sl (Zb a) .an]=some (.s (Zbb (val a))):=by rw[p68,zpo a ha]
 have h2:=zfs (T:=T) n a (by omega);have h3:=zf9 ha;have h4:1+(Zbb (val a)).length≤9223372036854775807:=by omega
 rw[zaa Zf.h34 rfl,b34];unfold Zgu;rw[z5j];by_cases h:wv n a<0
 ·have h5:sgI (wv n a)=-1:=by unfold sgI;rw[if_pos h]
  simp -implicitDefEqProofs[h1,h2,h,h5,h4]
 ·have h5:¬ sgI (wv n a)<0:=by unfold sgI;rw[if_neg h];split<;>omega
  simp -implicitDefEqProofs[h1,h2,h,h5]
end
end Go.Ab
end
section
namespace Go.Ab
section
variable{T:Tbl}[Zs T][Z2 T][Z4 T][Zu T][Zw T][Zf T][Zl T][Zp T]
theorem zqo(p q:Int)(hp:(ofN p.natAbs).length≤90000)(hq:(ofN q.natAbs).length≤90000):Za T 23 [ez p,ez q]=some (ez (p+q)):=by
 grind[zlr,zia]
theorem zqp(p q:Int)(hp:(ofN p.natAbs).length≤90000)(hq:(ofN q.natAbs).length≤90000):Za T 25 [ez p,ez q]=some (ez (p-q)):=by
 grind[zls,zia]
theorem zqq(p q:Int)(hp:(ofN p.natAbs).length≤90000)(hq:(ofN q.natAbs).length≤90000):Za T 36 [ez p,ez q]=some (.i .i64 (sgI (p-q))):=by
 grind[zvz,zia]
theorem zt6(p:Int)(hp:(ofN p.natAbs).length≤1000000):Za T 40 [ez p]=some (ez (-p)):=by
 grind[zpi,zia]
theorem zt7{x d:Nat}(h:d≠0):decide (x/Nat.gcd x d≠0)=decide (x≠0):=by
 obtain⟨k,hk⟩:=Nat.gcd_dvd_left x d
 grind[Nat.mul_div_cancel_left,Nat.mul_eq_zero]
theorem zcp(n:Bool)(a d:List UInt32)(ha:a.length≤90000)(hd:d.length≤90000)(h:val d≠0) :
  Za T 202 [wh n a,.sl (Zb d) .an]=some (efz (fz (mkRat (wv n a) (val d)))):=by
 have e:=zac0 n (val a) h
 change fz (mkRat (wv n a) (val d))=_ at e
 have hc:=zkm (T:=T) a d ha hd;have hl:(ofN (val a/Nat.gcd (val a) (val d))).length≤1000000:=by
  have:=zat (Yce (val a) (Nat.gcd (val a) (val d)));have:=zad a;omega
 have hn:=zhs (T:=T) n _ hl;have e2:wv n (ofN (val a/Nat.gcd (val a) (val d)))=sg n (val a/Nat.gcd (val a) (val d)):=by unfold wv;rw[zae]
 rw[e2,z09,zt7 h]at hn;rw[e,zaa Zp.h202 rfl,b202];simp -implicitDefEqProofs[hc,hn]
theorem zbb(x:Fz)(hx:fsz x≤100000):∃y:Fz,val y.2.2≠0∧fv y=fv x∧fsz y≤max 1 (fsz x)∧Za T 203 [efz x]=some (.tup [wh y.1 y.2.1,.sl (Zb y.2.2) .an]):=by
 obtain⟨n,a,d⟩:=x;have h1:=zcu (n,a,d);have h2:=zc0 (n,a,d);simp only at h1 h2;have hz:=zgt (T:=T) d (by omega);by_cases h:val d=0
 ·refine⟨(false,[],[1]),by simp,?_,?_,?_⟩
  ·unfold fv;simp only[h,Yeu]
   rfl
  ·show 1≤_;omega
  ·have ho:=zh0 (T:=T) 1 (by decide);rw[zdh]at ho;rw[zaa Zp.h203 rfl,b203];simp -implicitDefEqProofs[hz,h,ho]
 ·refine⟨(n,a,d),h,rfl,by omega,?_⟩;rw[zaa Zp.h203 rfl,b203];simp -implicitDefEqProofs[hz,h]
theorem zdu(k:Int)(h1:-9223372036854775808≤k)(h2:k<9223372036854775808):Za T 205 [.i .i64 k]=some (efz (fz (k:Rat))):=by
 have hw:=z4i (T:=T) k h1 h2;have ho:=zh0 (T:=T) 1 (by decide);have e:fz (k:Rat)=(decide (k<0),ofN k.natAbs,ofN 1):=rfl;rw[e,zaa Zp.h205 rfl,b205];simp -implicitDefEqProofs[hw,ho]
theorem zif:Za T 205 [.i .i64 0]=some (efz (fz 0)):=zdu 0 (by decide) (by decide)
theorem zmg:Za T 205 [.i .i64 1]=some (efz (fz 1)):=zdu 1 (by decide) (by decide)
theorem zk7(x:Fz)(hx:fsz x≤90000):Za T 207 [efz x]=some (efz (fz (fv x))):=by
 obtain⟨⟨n,a,d⟩,h1,h2,h3,hp⟩:=zbb (T:=T) x (by omega);have la:=zcu (n,a,d);have ld:=zc0 (n,a,d);simp only at la ld;have hc:=zcp (T:=T) n a d (by omega) (by omega) h1;rw[←h2]
 change _=some (efz (fz (mkRat (wv n a) (val d))))
 rw[zaa Zp.h207 rfl,b207];simp -implicitDefEqProofs[hp,hc]
theorem zcq(x:Fz)(hx:fsz x≤10000):Za T 207 [efz x]=some (efz (fz (fv x))):=zk7 (T:=T) x (Yc hx (by decide))
theorem zt8(x:Fz)(hx:fsz x≤90000):Za T 209 [efz x]=some (.i .i64 (sgQ (fv x))):=by
 obtain⟨⟨n,a,d⟩,h1,h2,h3,hp⟩:=zbb (T:=T) x (by omega);have la:=zcu (n,a,d);simp only at la;have hc:=zfs (T:=T) n a (by omega);rw[←h2];unfold fv;rw[z5q h1,zaa Zp.h209 rfl,b209];simp -implicitDefEqProofs[hp,hc]
theorem zd0(x:Fz)(hx:fsz x≤10000):Za T 209 [efz x]=some (.i .i64 (sgQ (fv x))):=zt8 (T:=T) x (Yc hx (by decide))
theorem zb0(n:Bool)(a d:List UInt32)(ha:a.length≤90000)(hd:d.length≤90000):Za T 210 [wh n a,.sl (Zb d) .an]=some (ez (wv n a*(val d:Int))):=by
 have hm:=zpj (T:=T) n false a d (by omega) (by omega);rw[show wv false d=(val d:Int) from rfl]at hm;rw[zaa Zp.h210 rfl,b210];simp -implicitDefEqProofs[hm]
theorem zoe(x x':Fz)(hx:fsz x≤30000)(hx':fsz x'≤30000):Za T 211 [efz x,efz x']=some (.i .i64 (sgQ (fv x-fv x'))):=by
 obtain⟨⟨n,a,d⟩,h1,h2,h3,hp⟩:=zbb (T:=T) x (by omega);obtain⟨⟨m,b,e⟩,h1',h2',h3',hp'⟩:=zbb (T:=T) x' (by omega);have la:=zcu (n,a,d);have ld:=zc0 (n,a,d);have lb:=zcu (m,b,e);have le:=zc0 (m,b,e);simp only at la ld lb le;have c1:=zb0 (T:=T) n a e (by omega) (by omega);have c2:=zb0 (T:=T) m b d (by omega) (by omega);have l1:(ofN (wv n a*(val e:Int)).natAbs).length≤60000:=by
  have:=za6 (x:=wv n a) (y:=(val e:Int)) (L:=30000) (M:=30000) (Yc (zbw n a) (by omega)) (Yc (zbw false e) (by omega));omega
 have l2:(ofN (wv m b*(val d:Int)).natAbs).length≤60000:=by
  have:=za6 (x:=wv m b) (y:=(val d:Int)) (L:=30000) (M:=30000) (Yc (zbw m b) (by omega)) (Yc (zbw false d) (by omega));omega
 have e1:sgQ (fv x-fv x')=sgI (wv n a*(val e:Int)-wv m b*(val d:Int)):=by
  rw[←h2,←h2',Ycp];unfold fv;rw[Rat.neg_mkRat,Yc3 _ _ h1 h1',z5q (Yct h1 h1'),Yey]
  rfl
 generalize wv n a*(val e:Int)=z1 at *
 generalize wv m b*(val d:Int)=z2 at *
 have c3:=zqq (T:=T) z1 z2 (by omega) (by omega);rw[e1,zaa Zp.h211 rfl,b211];simp -implicitDefEqProofs[hp,hp',c1,c2,c3]
theorem zmh(x x':Fz)(hx:fsz x≤1000)(hx':fsz x'≤1000):Za T 211 [efz x,efz x']=some (.i .i64 (sgQ (fv x-fv x'))):=zoe (T:=T) x x' (Yc hx (by decide)) (Yc hx' (by decide))
theorem zt9(x x':Fz)(hx:fsz x≤30000)(hx':fsz x'≤30000):Za T 212 [efz x,efz x']=some (.b (decide (fv x=fv x'))):=by
 have hc:=zoe (T:=T) x x' hx hx';have e:(sgQ (fv x-fv x') == 0)=decide (fv x=fv x'):=by
  grind[zdp]
 rw[zaa Zp.h212 rfl,b212];simp -implicitDefEqProofs[hc,e]
theorem zcr(x x':Fz)(hx:fsz x≤1000)(hx':fsz x'≤1000):Za T 212 [efz x,efz x']=some (.b (decide (fv x=fv x'))):=zt9 (T:=T) x x' (Yc hx (by decide)) (Yc hx' (by decide))
theorem zx4(x:Fz)(hx:fsz x≤90000):Za T 213 [efz x]=some (efz (fz (-fv x))):=by
 have h1:=zk7 (T:=T) x hx;have hl:(ofN (fv x).num.natAbs).length≤1000000:=by
  have:=za4 (x:=x) (L:=90000) hx (by decide);have:=zg2 (fv x);omega
 have h2:Za T 40 [.agg [.b (decide ((fv x).num<0)),.sl (Zb (ofN (fv x).num.natAbs)) .an]]=some (.agg [.b (decide (-(fv x).num<0)),.sl (Zb (ofN (-(fv x).num).natAbs)) .an]):=zt6 (T:=T) (fv x).num hl;generalize fv x=q at *
 have e:fz (-q)=(decide (-q.num<0),ofN (-q.num).natAbs,ofN q.den):=rfl;have e':fz q=(decide (q.num<0),ofN q.num.natAbs,ofN q.den):=rfl;rw[e,zaa Zp.h213 rfl,b213];rw[e']at h1;simp -implicitDefEqProofs[h1,h2]
theorem zmi(x:Fz)(hx:fsz x≤10000):Za T 213 [efz x]=some (efz (fz (-fv x))):=zx4 (T:=T) x (Yc hx (by decide))
theorem zx5(x x':Fz)(hx:fsz x≤30000)(hx':fsz x'≤30000):Za T 215 [efz x,efz x']=some (efz (fz (fv x+fv x'))):=by
 obtain⟨⟨n,a,d⟩,h1,h2,h3,hp⟩:=zbb (T:=T) x (by omega);obtain⟨⟨m,b,e⟩,h1',h2',h3',hp'⟩:=zbb (T:=T) x' (by omega);have la:=zcu (n,a,d);have ld:=zc0 (n,a,d);have lb:=zcu (m,b,e);have le:=zc0 (m,b,e);simp only at la ld lb le;have c1:=zb0 (T:=T) n a e (by omega) (by omega);have c2:=zb0 (T:=T) m b d (by omega) (by omega);have c4:=zfi (T:=T) d e (by omega) (by omega);have l1:(ofN (wv n a*(val e:Int)).natAbs).length≤60000:=by
  have:=za6 (x:=wv n a) (y:=(val e:Int)) (L:=30000) (M:=30000) (Yc (zbw n a) (by omega)) (Yc (zbw false e) (by omega));omega
 have l2:(ofN (wv m b*(val d:Int)).natAbs).length≤60000:=by
  have:=za6 (x:=wv m b) (y:=(val d:Int)) (L:=30000) (M:=30000) (Yc (zbw m b) (by omega)) (Yc (zbw false d) (by omega));omega
 have l3:(ofN (val d*val e)).length≤60000:=by
  have:=za1 (x:=val d) (y:=val e) (L:=30000) (M:=30000) (Yc (zad d) (by omega)) (Yc (zad e) (by omega));omega
 have e1:fv x+fv x'=mkRat (wv n a*(val e:Int)+wv m b*(val d:Int)) (val d*val e):=by
  rw[←h2,←h2'];exact Yc3 _ _ h1 h1'
 have hne:=Yct h1 h1';generalize wv n a*(val e:Int)=z1 at *
 generalize wv m b*(val d:Int)=z2 at *
 generalize val d*val e=D at *
 have c3:=zqo (T:=T) z1 z2 (by omega) (by omega);have c5:=zcp (T:=T) (decide (z1+z2<0)) (ofN (z1+z2).natAbs) (ofN D) (by have:=zcg l1 l2;omega) (by omega) (by rw[zae];omega);rw[zia,zae,←e1]at c5;rw[zaa Zp.h215 rfl,b215];simp -implicitDefEqProofs[hp,hp',c1,c2,c3,c4,c5]
theorem zgn(x x':Fz)(hx:fsz x≤1000)(hx':fsz x'≤1000):Za T 215 [efz x,efz x']=some (efz (fz (fv x+fv x'))):=zx5 (T:=T) x x' (Yc hx (by decide)) (Yc hx' (by decide))
theorem zx6(x x':Fz)(hx:fsz x≤30000)(hx':fsz x'≤30000):Za T 216 [efz x,efz x']=some (efz (fz (fv x-fv x'))):=by
 obtain⟨⟨n,a,d⟩,h1,h2,h3,hp⟩:=zbb (T:=T) x (by omega);obtain⟨⟨m,b,e⟩,h1',h2',h3',hp'⟩:=zbb (T:=T) x' (by omega);have la:=zcu (n,a,d);have ld:=zc0 (n,a,d);have lb:=zcu (m,b,e);have le:=zc0 (m,b,e);simp only at la ld lb le;have c1:=zb0 (T:=T) n a e (by omega) (by omega);have c2:=zb0 (T:=T) m b d (by omega) (by omega);have c4:=zfi (T:=T) d e (by omega) (by omega);have l1:(ofN (wv n a*(val e:Int)).natAbs).length≤60000:=by
  have:=za6 (x:=wv n a) (y:=(val e:Int)) (L:=30000) (M:=30000) (Yc (zbw n a) (by omega)) (Yc (zbw false e) (by omega));omega
 have l2:(ofN (wv m b*(val d:Int)).natAbs).length≤60000:=by
  have:=za6 (x:=wv m b) (y:=(val d:Int)) (L:=30000) (M:=30000) (Yc (zbw m b) (by omega)) (Yc (zbw false d) (by omega));omega
 have l3:(ofN (val d*val e)).length≤60000:=by
  have:=za1 (x:=val d) (y:=val e) (L:=30000) (M:=30000) (Yc (zad d) (by omega)) (Yc (zad e) (by omega));omega
 have e1:fv x-fv x'=mkRat (wv n a*(val e:Int)-wv m b*(val d:Int)) (val d*val e):=by
  rw[←h2,←h2',Ycp];unfold fv;rw[Rat.neg_mkRat,Yc3 _ _ h1 h1',Yey]
  rfl
 have hne:=Yct h1 h1';generalize wv n a*(val e:Int)=z1 at *
 generalize wv m b*(val d:Int)=z2 at *
 generalize val d*val e=D at *
 have c3:=zqp (T:=T) z1 z2 (by omega) (by omega);have c5:=zcp (T:=T) (decide (z1-z2<0)) (ofN (z1-z2).natAbs) (ofN D) (by
  have:=zcg (x:=z1) (y:=-z2) (L:=60000) l1 (by grind)
  grind) (by omega) (by rw[zae];omega)
 rw[zia,zae,←e1]at c5;rw[zaa Zp.h216 rfl,b216];simp -implicitDefEqProofs[hp,hp',c1,c2,c3,c4,c5]
theorem zmj(x x':Fz)(hx:fsz x≤1000)(hx':fsz x'≤1000):Za T 216 [efz x,efz x']=some (efz (fz (fv x-fv x'))):=zx6 (T:=T) x x' (Yc hx (by decide)) (Yc hx' (by decide))
theorem zx7(x x':Fz)(hx:fsz x≤30000)(hx':fsz x'≤30000):Za T 217 [efz x,efz x']=some (efz (fz (fv x*fv x'))):=by
 obtain⟨⟨n,a,d⟩,h1,h2,h3,hp⟩:=zbb (T:=T) x (by omega);obtain⟨⟨m,b,e⟩,h1',h2',h3',hp'⟩:=zbb (T:=T) x' (by omega);have la:=zcu (n,a,d);have ld:=zc0 (n,a,d);have lb:=zcu (m,b,e);have le:=zc0 (m,b,e);simp only at la ld lb le;have c3:=zpj (T:=T) n m a b (by omega) (by omega);have c4:=zfi (T:=T) d e (by omega) (by omega);have l1:(ofN (wv n a*wv m b).natAbs).length≤60000:=by
  have:=za6 (x:=wv n a) (y:=wv m b) (L:=30000) (M:=30000) (Yc (zbw n a) (by omega)) (Yc (zbw m b) (by omega));omega
 have l3:(ofN (val d*val e)).length≤60000:=by
  have:=za1 (x:=val d) (y:=val e) (L:=30000) (M:=30000) (Yc (zad d) (by omega)) (Yc (zad e) (by omega));omega
 have e1:fv x*fv x'=mkRat (wv n a*wv m b) (val d*val e):=by
  rw[←h2,←h2'];exact Rat.mkRat_mul_mkRat _ _ _ _
 have hne:=Yct h1 h1';generalize wv n a*wv m b=z at *
 generalize val d*val e=D at *
 have c5:=zcp (T:=T) (decide (z<0)) (ofN z.natAbs) (ofN D) (by omega) (by omega) (by rw[zae];omega);rw[zia,zae,←e1]at c5;rw[zaa Zp.h217 rfl,b217];simp -implicitDefEqProofs[hp,hp',c3,c4,c5]
theorem zgo(x x':Fz)(hx:fsz x≤1000)(hx':fsz x'≤1000):Za T 217 [efz x,efz x']=some (efz (fz (fv x*fv x'))):=zx7 (T:=T) x x' (Yc hx (by decide)) (Yc hx' (by decide))
theorem z6w{n m:Bool}{x y:Nat}{d e:Nat}(hy:y≠0) :
  mkRat (sg n x) d/mkRat (sg m y) e=mkRat (sg (decide (sg n x*(e:Int)<0) != m) (sg n x*(e:Int)).natAbs) (d*y):=by
 have h1:sg (decide (sg n x*(e:Int)<0) != m) (sg n x*(e:Int)).natAbs=sg n x*(e:Int)*sg m 1:=by
  grind[sg]
 rw[h1,Yds,←Ycl,←Ycl,←Ycl,Rat.inv_divInt,Rat.divInt_mul_divInt];cases m
 ·grind[sg]
 ·simp only[sg,if_true,Yen,Int.mul_neg,Int.mul_one,Yc6];rw[←Rat.neg_divInt_neg,Int.neg_neg]
theorem zx8(x x':Fz)(hx:fsz x≤30000)(hx':fsz x'≤30000):Za T 218 [efz x,efz x']=some (.tup [efz (fz (fv x/fv x')),.b (decide (fv x'≠0))]):=by
 obtain⟨⟨n,a,d⟩,h1,h2,h3,hp⟩:=zbb (T:=T) x (by omega);obtain⟨⟨m,b,e⟩,h1',h2',h3',hp'⟩:=zbb (T:=T) x' (by omega);have la:=zcu (n,a,d);have ld:=zc0 (n,a,d);have lb:=zcu (m,b,e);have le:=zc0 (m,b,e);simp only at la ld lb le;have cs:=zfs (T:=T) m b (by omega);rw[show wv m b=sg m (val b) from rfl,z5l]at cs;by_cases hb:val b=0
 ·have e0:fv x'=0:=by
   rw[←h2'];unfold fv;rw[Yd5 h1'];show sg m (val b)=0;rw[hb];cases m<;>rfl
  have ho:=zif (T:=T);rw[if_pos hb]at cs;rw[e0,Yds,Rat.inv_zero,Yeo,zaa Zp.h218 rfl,b218];clear h1 h2 h3 h1' h2' h3' e0;generalize fz 0=R at *
  simp -implicitDefEqProofs[hp,hp',cs,ho]
 ·rw[if_neg hb]at cs;have c1:=zb0 (T:=T) n a e (by omega) (by omega);have c4:=zfi (T:=T) d b (by omega) (by omega);have l1:(ofN (wv n a*(val e:Int)).natAbs).length≤60000:=by
   have:=za6 (x:=wv n a) (y:=(val e:Int)) (L:=30000) (M:=30000) (Yc (zbw n a) (by omega)) (Yc (zbw false e) (by omega));omega
  have l3:(ofN (val d*val b)).length≤60000:=by
   have:=za1 (x:=val d) (y:=val b) (L:=30000) (M:=30000) (Yc (zad d) (by omega)) (Yc (zad b) (by omega));omega
  have hne0:fv x'≠0:=by
   rw[←h2'];unfold fv;rw[Ne,Yd5 h1'];show ¬ sg m (val b)=0;cases m<;>simp[sg,hb]
  have e1:fv x/fv x'=mkRat (sg (decide (wv n a*(val e:Int)<0) != m) (wv n a*(val e:Int)).natAbs) (val d*val b):=by
   rw[←h2,←h2'];exact z6w hb
  have hne:=Yct h1 hb;generalize wv n a*(val e:Int)=z at *
  generalize val d*val b=D at *
  have c5:=zcp (T:=T) (decide (z<0) != m) (ofN z.natAbs) (ofN D) (by omega) (by omega) (by rw[zae];omega);rw[show wv (decide (z<0) != m) (ofN z.natAbs)=sg (decide (z<0) != m) z.natAbs by unfold wv;rw[zae],zae,←e1]at c5;have hdec:decide (fv x'≠0)=true:=by grind
  have hs:((if m=true then (-1:Int) else 1) == 0)=false:=by grind
  rw[hdec];rw[zaa Zp.h218 rfl,b218];simp -implicitDefEqProofs[hp,hp',cs,c1,c4,c5,hs]
theorem zmk(x x':Fz)(hx:fsz x≤1000)(hx':fsz x'≤1000):Za T 218 [efz x,efz x']=some (.tup [efz (fz (fv x/fv x')),.b (decide (fv x'≠0))]):=zx8 (T:=T) x x' (Yc hx (by decide)) (Yc hx' (by decide))
end
end Go.Ab
end
section
namespace Go.Ab
def nrm(l:List Fz):List Fz:=l.map fun x=>fz (fv x)
def fzs(l:List Rat):List Fz:=l.map fz
theorem zba{m:List Fz}{n:Nat}(h:m.length=n)(x:Fz):wkL (Zc (List.take n m)++[Z1 x])=Zc (m++[x]):=by
 rw[Yb (by omega),ze7,zbt]
theorem zcz{α β:Type}(l:List α)(f:α→β){i:Nat}(h:i<l.length):(l.take (i+1)).map f=(l.take i).map f++[f (l[i]'h)]:=by
 grind[List.take_succ_eq_append_getElem]
@[simp] theorem z0a:Zb7 []=[]:=rfl
def Zgt(q:Rat):List UInt8:=if q.den=1 then Zgu q.num else Zgu q.num++47::Zbb q.den
section
variable{T:Tbl}[Zs T][Z2 T][Z4 T][Zu T][Zw T][Za0 T][Zf T][Zl T][Zp T][Zaz T][Zbr T]
theorem zrd(x:Fz)(hx:fsz x≤900):Za T 251 [efz x]=some (.s (Zgt (fv x))):=by
 have h1:=zcq (T:=T) x (by omega);have hs:=za4 (x:=x) (L:=900) hx (by decide);generalize fv x=q at *
 have l1:=zg2 q;have l2:=zg3 q;have e':fz q=(decide (q.num<0),ofN q.num.natAbs,ofN q.den):=rfl;have h2:=zv0 (T:=T) (decide (q.num<0)) (ofN q.num.natAbs) (by omega);rw[zia]at h2;have h3:=zh0 (T:=T) 1 (by decide);have h4:=zhh (T:=T) (ofN q.den) (ofN 1) (by omega) (by rw[zdh];decide);rw[zae,zae]at h4;have h5:Za T 68 [.sl (Zb (ofN q.den)) .an]=some (.s (Zbb q.den)):=by
  rw[p68,zpo _ (by omega),zae]
 have t1:(Zbb q.den).length≤10000:=by
  grind[zf9,zae]
 have t2:(Zgu q.num).length≤20000:=by
  grind[zf9,zae,Zgu]
 rw[zaa Zbr.h251 rfl,b251];rw[e']at h1;unfold Zgt;obtain⟨D,hD⟩:∃D,D=ofN q.den:=⟨_,rfl⟩;obtain⟨A,hA⟩:∃A,A=ofN q.num.natAbs:=⟨_,rfl⟩;obtain⟨O,hO⟩:∃O,O=ofN 1:=⟨_,rfl⟩;by_cases hd:q.den=1
 ·have hc:Zc8 q.den 1=0:=by rw[hd];rfl
  rw[hc]at h4;rw[if_pos hd];simp -implicitDefEqProofs[h1,h2,h3,h4]
 ·have hc:Zc8 q.den 1=1:=by
   unfold Zc8;have:=q.den_pos;omega
  rw[hc]at h4;rw[if_neg hd];have b1:1+(Zbb q.den).length≤9223372036854775807:=by omega
  have b2:(Zgu q.num).length+((Zbb q.den).length+1)≤9223372036854775807:=by omega
  simp -implicitDefEqProofs[h1,h2,h3,h4,h5,b1,b2]
def Zmq(n i:Nat):St:=⟨[(3,.bs (.loc 9) 1 3 0 n),(10,.i .i64 n),(11,.i .i64 i)],[(.loc 9,⟨1,.own,3,Zc (List.replicate i (fz 0))++List.replicate (n-i) [.b false,.sl [] .an,.sl [] .an]⟩)],3⟩
theorem z0b(n:Nat)(hn:n≤300):Ze T 0 0 (.norm false [3]) l263_0 (Zmq n 0)=some (.n,⟨[(3,.bs (.loc 9) 1 3 0 n)],[(.loc 9,⟨1,.own,3,Zc (List.replicate n (fz 0))⟩)],3⟩):=by
 refine zai (Zmq n) n _ (fun i hi=>?_) ?_
 ·have h0:=zif (T:=T);have hw:=zaz hi (by omega);have e:(Zc (List.replicate i (fz 0))++List.replicate (n-i) [AV.b false,.sl [] .an,.sl [] .an]).set i (Z1 (fz 0))=Zc (List.replicate (i+1) (fz 0))++List.replicate (n-(i+1)) [AV.b false,.sl [] .an,.sl [] .an]:=by
   rw[Yad _ _ (by simp),zri,Ya9,Ycg,show n-i=(n-(i+1))+1 by omega,Yck (n:=n-(i+1)),Yb8,Ydp (n:=i),←ze7,Ya3]
   rfl
  have hl:(Zc (List.replicate i (fz 0))++List.replicate (n-i) [AV.b false,.sl [] .an,.sl [] .an]).length=n:=by simp;omega
  have hk:wkL ((Zc (List.replicate i (fz 0))++List.replicate (n-i) [AV.b false,.sl [] .an,.sl [] .an]).set i (Z1 (fz 0)))=(Zc (List.replicate i (fz 0))++List.replicate (n-i) [AV.b false,.sl [] .an,.sl [] .an]).set i (Z1 (fz 0)):=by
   rw[e,zb9,Yda,←zb9,zbt]
   simp_all
  have hg:(Zc (List.replicate i (fz 0))++List.replicate (n-i) [AV.b false,.sl [] .an,.sl [] .an])[i]? = some [AV.b false,.sl [] .an,.sl [] .an]:=by
   grind
  unfold Zmq;rw[←e];generalize Zc (List.replicate i (fz 0))++List.replicate (n-i) [AV.b false,.sl [] .an,.sl [] .an]=B at *
  obtain⟨hb,hgE⟩:=Yd.1 hg;simp -implicitDefEqProofs[l263_0,hi,hw,h0,hl,hk,hgE]
 ·have e:Zc (List.replicate n (fz 0))++List.replicate (n-n) [AV.b false,.sl [] .an,.sl [] .an]=Zc (List.replicate n (fz 0)):=by simp
  unfold Zmq;constructor<;>simp -implicitDefEqProofs[l263_0]
theorem zo8(n:Nat)(hn:n≤300):Zbp T 2263 [.i .i64 n] []=some (.bs (.loc 9) 1 3 0 n,[(.loc 9,⟨1,.own,3,Zc (List.replicate n (fz 0))⟩)]):=by
 have h:=z0b (T:=T) n hn;rw[show l263_0=l2263_0 from rfl]at h;unfold Zmq at h;simp only[Ydu,zau,Yax,Nat.sub_zero,Yl]at h;have m1:¬ (n:Int)<0:=by omega
 have m2:¬ (300:Int)<n:=by omega
 have m3:(n:Int)≤4294967296:=by omega
 have hz:wkL (List.replicate n [AV.b false,.sl [] .nl,.sl [] .nl])=List.replicate n [AV.b false,.sl [] .an,.sl [] .an]:=by rw[zb9,List.map_replicate];simp_all
 rw[za3 Zbr.h2263 rfl,b2263];simp -implicitDefEqProofs[m1,m2,m3,h,mm2,hz]
def Zrc(l:List Fz)(i:Nat):St:=⟨[(3,.bs (.loc 3) 1 3 0 i),(6,.sl (Zc l) .an),(7,.i .i64 l.length),(8,.i .i64 i)],[(.loc 3,⟨1,.own,3,Zc (nrm (l.take i))⟩)],3⟩
def scl(c:Rat)(l:List Fz):List Fz:=l.map fun x=>fz (c*fv x)
def Zmr(c:Fz)(l:List Fz)(i:Nat):St:=⟨[(2,.ptr (.loc 2) 1 3 0 0),(5,.bs (.loc 5) 2 3 0 i),(8,.sl (Zc l) .an),(9,.i .i64 l.length),(10,.i .i64 i)],[(.loc 2,⟨1,.str,3,[Z1 c]⟩),(.loc 5,⟨2,.own,3,Zc (scl (fv c) (l.take i))⟩)],4⟩
theorem zvm(c:Fz)(hc:fsz c≤1000)(l:List Fz)(hl:l.length≤1000)(hw:∀x∈l,fsz x≤1000) :
  Ze T 0 0 (.norm false [5]) l269_0 (Zmr c l 0)=some (.n,⟨[(5,.bs (.loc 5) 1 3 0 l.length)],[(.loc 5,⟨1,.own,3,Zc (scl (fv c) l)⟩)],3⟩):=by
 refine zai (Zmr c l) l.length _ (fun i hi=>?_) ?_
 ·have hws:=zaz hi (by omega);have hn:=zgo (T:=T) c (l[i]'hi) hc (hw _ (Yi hi));have e:scl (fv c) (l.take (i+1))=scl (fv c) (l.take i)++[fz (fv c*fv (l[i]'hi))]:=zcz l _ hi;have hml:(scl (fv c) (l.take i)).length=i:=by simp[scl];omega
  have hp:=zba hml (fz (fv c*fv (l[i]'hi)));unfold Zmr;rw[e];have hb:i≤4294967295:=by omega
  simp -implicitDefEqProofs[l269_0,hi,hws,hn,hp,hml,hb]
 ·unfold Zmr;rw[Yb (Yg _)];constructor<;>simp -implicitDefEqProofs[l269_0]
theorem z0c(c:Fz)(hc:fsz c≤1000)(l:List Fz)(hl:l.length≤1000)(hw:∀x∈l,fsz x≤1000):Za T 269 [efz c,.sl (Zc l) .an]=some (.sl (Zc (scl (fv c) l)) .an):=by
 have h:=zvm (T:=T) c hc l hl hw;unfold Zmr at h;have e:scl (fv c) (l.take 0)=[]:=rfl;rw[e]at h;simp at h;have ht:List.take l.length (scl (fv c) l)=scl (fv c) l:=Yb (by simp[scl]);have hl2:(scl (fv c) l).length=l.length:=by simp[scl]
 rw[zaa Zbr.h269 rfl,b269];simp -implicitDefEqProofs[h,ht,hl2]
def Zks:List Fz→List Fz→Rat
 | x::a,y::b=>fv x*fv y+Zks a b
 | _,_=>0
def Zms(a b:List Fz)(i:Nat):Rat:=Zks (a.take i) (b.take i)
theorem zo9:∀(a b:List Fz) (x y:Fz),a.length=b.length→Zks (a++[x]) (b++[y])=Zks a b+fv x*fv y
 | [],[],x,y,_=>by simp[Zks,Ydk,Rat.zero_add]
 | u::a,v::b,x,y,h=>by
  have ih:=zo9 a b x y (by simpa using h);simp only[Yc1,Zks,ih,Rat.add_assoc]
theorem zacj{a b:List Fz}(hab:a.length=b.length){i:Nat}(hi:i<a.length):Zms a b (i+1)=Zms a b i+fv (a[i]'hi)*fv (b[i]'(by omega)):=by
 grind[Zms,List.take_succ_eq_append_getElem,zo9]
abbrev Zdi:List AV:=[.b false,.sl [] .an,.sl [] .an]
def Zrd(a b:List Fz)(i:Nat):St:=⟨[(1,.sl (Zc b) .an),(4,.ptr (.loc 4) 1 3 0 0),(6,.ptr (.loc 6) 2 3 0 0),(16,.sl (Zc a) .an),(17,.i .i64 a.length),(18,.i .i64 i)],
 [(.loc 4,⟨1,.str,3,[Zdi]⟩),(.loc 6,⟨2,.str,3,[Z1 (fz (Zms a b i))]⟩)],4⟩
def Zlg(a b:List Fz)(i:Nat):St:=⟨[(0,.sl (Zc a) .an),(1,.sl (Zc b) .an),(12,.i .i64 a.length),(13,.i .i64 i)],[],2⟩
theorem z0d(a b:List Fz)(hab:a.length=b.length)(hl:a.length≤1000)(ha:∀x∈a,fsz x≤1000)(hb:∀x∈b,fsz x≤1000) :
  Ze T 0 0 (.norm false []) l265_0 (Zlg a b 0)=if (a.drop 0).map fv=(b.drop 0).map fv then some (.n,⟨[],[],2⟩) else some (.r,⟨[(4,.b false)],[],2⟩):=by
 refine zak (Zlg a b) a.length (fun i=>if (a.drop i).map fv=(b.drop i).map fv then some (.n,⟨[],[],2⟩) else some (.r,⟨[(4,.b false)],[],2⟩)) (fun i hi=>?_) ?_
 ·have hib:i<b.length:=by omega
  have hws:=zaz hi (by omega);have c:=zcr (T:=T) (a[i]'hi) (b[i]'hib) (ha _ (Yi hi)) (hb _ (Yi hib));have hib':(i:Int)<b.length:=by omega
  have key:((a.drop i).map fv=(b.drop i).map fv)↔(fv (a[i]'hi)=fv (b[i]'hib)∧(a.drop (i+1)).map fv=(b.drop (i+1)).map fv):=by
   grind[List.drop_eq_getElem_cons]
  by_cases he:fv (a[i]'hi)=fv (b[i]'hib)
  ·left;refine⟨?_,by grind⟩;unfold Zlg;simp -implicitDefEqProofs[l265_0,hi,hws,c,he,hib,hib']
  ·right;rw[if_neg (fun h=>he (key.1 h).1)];unfold Zlg;constructor<;>simp -implicitDefEqProofs[l265_0,hi,c,he,hib,hib']
 ·rw[Yp,if_pos (by rw[hab,Yp])];unfold Zlg;constructor<;>simp -implicitDefEqProofs[l265_0]
theorem z32(a b:List Fz)(hl:a.length≤1000)(ha:∀x∈a,fsz x≤1000)(hb:∀x∈b,fsz x≤1000) :
  Za T 265 [.sl (Zc a) .an,.sl (Zc b) .an]=some (.b (decide (a.map fv=b.map fv))):=by
 rw[zaa Zbr.h265 rfl,b265];by_cases hab:a.length=b.length
 ·have h:=z0d (T:=T) a b hab hl ha hb;unfold Zlg at h;simp at h;have hab':(b.length:Int)=a.length:=by omega
  by_cases he:a.map fv=b.map fv
  ·simp -implicitDefEqProofs[hab',h,he]
  ·simp -implicitDefEqProofs[hab',h,he]
 ·have he:¬ a.map fv=b.map fv:=fun h=>hab (by simpa using congrArg List.length h);have hab':¬ (a.length:Int)=b.length:=by omega
  simp -implicitDefEqProofs[hab',he]
def Zel(l:List Fz):List (List UInt8):=l.map fun x=>Zgt (fv x)
def Zmt(l:List Fz)(i:Nat):St:=⟨[(3,.bs (.loc 3) 1 1 0 i),(6,.sl (Zc l) .an),(7,.i .i64 l.length),(8,.i .i64 i)],[(.loc 3,⟨1,.own,1,Zb7 (Zel (l.take i))⟩)],3⟩
theorem zpa(l:List Fz)(hl:l.length≤1000)(hw:∀x∈l,fsz x≤400) :
  Ze T 0 0 (.norm false [3]) l274_0 (Zmt l 0)=some (.n,⟨[(3,.bs (.loc 3) 1 1 0 l.length)],[(.loc 3,⟨1,.own,1,Zb7 (Zel l)⟩)],3⟩):=by
 refine zai (Zmt l) l.length _ (fun i hi=>?_) ?_
 ·have hws:=zaz hi (by omega);have hn:=zrd (T:=T) (l[i]'hi) (Yc (hw _ (Yi hi)) (by decide));have e:Zel (l.take (i+1))=Zel (l.take i)++[Zgt (fv (l[i]'hi))]:=zcz l _ hi;have hml:(Zel (l.take i)).length=i:=by simp[Zel];omega
  have hp:=zv6 (Zel (l.take i)) (Zgt (fv (l[i]'hi)));rw[hml]at hp;unfold Zmt;rw[e];have hb:i≤4294967295:=by omega
  simp -implicitDefEqProofs[l274_0,hi,hws,hn,hp,hml,hb]
 ·unfold Zmt;rw[Yb (Yg _)];constructor<;>simp -implicitDefEqProofs[l274_0]
theorem z0e{q:Rat}(h:sz q≤400):(Zgt q).length≤10000:=by
 have key:∀{a:List UInt32},a.length≤400→(Zbb (val a)).length≤4000:=by
  intro a ha;obtain⟨K,hK⟩:∃K,K=3999:=⟨_,rfl⟩;have h1:=za0 a;have h2:4294967296^a.length≤(10^10)^a.length:=Ydx (by decide) _;rw[←Ydh]at h2;have h3:10^(10*a.length)≤10^(K+1):=Yu (by decide) (by omega);have h4:=zps (k:=K) (Yr h1 (Yc h2 h3));omega
 grind[zg2,zg3,zae,Zgu,Zgt]
theorem zsu(l:List Fz)(hl:l.length≤1000)(hw:∀x∈l,fsz x≤400):Za T 274 [.sl (Zc l) .an]=some (.s (List.intercalate [44] (Zel l))):=by
 have h:=zpa (T:=T) l hl hw;unfold Zmt at h;have e:Zel (l.take 0)=[]:=rfl;rw[e]at h;simp only[z0a,Yl]at h;have hj:Za T 183 [.sl (Zb7 (Zel l)) .an,.s [44]]=some (.s (List.intercalate [44] (Zel l))):=by
  grind[p183,zv7,Zel,z0e,za4]
 have ht:List.take l.length (Zb7 (Zel l))=Zb7 (Zel l):=Yb (by simp[Zel]);have hl2:(Zel l).length=l.length:=by simp[Zel]
 rw[zaa Zbr.h274 rfl,b274];simp -implicitDefEqProofs[h,ht,hl2,hj]
end
end Go.Ab
end
section
namespace Go.Ab
theorem z33{α:Type}{L acc:List α}(hl:L.length=acc.length){i:Nat}(h:i<L.length) :
  (L.take i++acc.drop i).set i (L[i]'h)=L.take (i+1)++acc.drop (i+1):=by
 rw[Yad _ _ (by simp;omega),Yaj,Ybg (by omega),Ycg,Ye (show i<acc.length by omega),Yb8,Yz h,Ya3]
 rfl
theorem z74{α:Type}{L acc:List α}(hl:L.length=acc.length){i:Nat}(h:i<L.length):(L.take i++acc.drop i)[i]? = some (acc[i]'(by omega)):=by
 rw[Yo (by simp;omega),Yaj,Ybg (by omega),Ycg,Yaq,Y4,Ya]
theorem zdg{l:List Rat}{i:Nat}{q:Rat}(h:l[i]? = some q):(fzs l)[i]? = some (fz q):=by
 unfold fzs;rw[Yca,h]
 rfl
theorem z77(l:List Rat)(i:Nat)(q:Rat):(fzs l).set i (fz q)=fzs (l.set i q):=by
 unfold fzs;rw[Yem]
@[simp] theorem zal(l:List Rat):(fzs l).length=l.length:=by simp[fzs]
theorem z0f(l:List Fz):nrm l=fzs (l.map fv):=by unfold nrm fzs;rw[Yd2];rfl
@[simp] theorem z5c(l:List Rat):(fzs l).map fv=l:=by unfold fzs;rw[Yd2];simp[Function.comp_def]
def Zdp(c:Rat)(acc:List Rat)(r:List Fz):List Rat:=List.zipWith (fun q x=>q+c*fv x) acc r
def Znj(acc:List Rat)(r:List Fz):List Rat:=List.zipWith (fun q x=>q+fv x) acc r
theorem zjz{c:Rat}{acc:List Rat}{r:List Fz}(h:r.length=acc.length):(Zdp c acc r).length=acc.length:=by simp[Zdp,h]
theorem z0g{acc:List Rat}{r:List Fz}(h:r.length=acc.length):Zdp 0 acc r=acc:=by
 unfold Zdp
 induction acc generalizing r with
 | nil=>simp
 | cons q acc ih=>
  cases r with
  | nil=>simp at h
  | cons x r=>simp[Yer,Ydk];simpa[Yer,Ydk]using ih (by simpa using h)
theorem z78{c:Rat}{acc:List Rat}{r:List Fz}{S B:Nat}(hc:sz c≤B)(ha:∀q∈acc,sz q≤S)(hr:∀x∈r,fsz x≤B)(hB:1≤B):∀q∈Zdp c acc r,sz q≤S+(2*B+1):=by
 intro q hq;obtain⟨i,hi,rfl⟩:=List.getElem_of_mem hq;simp only[Zdp,List.length_zipWith]at hi;simp only[Zdp,List.getElem_zipWith];have h1:=ha _ (Yi (show i<acc.length by omega));have h2:=za4 (hr _ (Yi (show i<r.length by omega))) hB;have h3:=zct c (fv (r[i]'(by omega)));have h4:=zfz (acc[i]'(by omega)) (c*fv (r[i]'(by omega)));omega
section
variable{T:Tbl}[Zs T][Z2 T][Z4 T][Zu T][Zw T][Za0 T][Zf T][Zl T][Zp T][Zaz T][Zbr T]
def Zre(k j n:Nat)(rest:List (List Fz))(r:List Fz)(L acc:List Rat)(i:Nat):St:=
 ⟨[(4,.bs (.fld (.loc 15) 3) 1 3 0 n),(17,.sl (Zv rest) .an),(18,.i .i64 k),(19,.i .i64 j),(28,.sl (Zc r) .an),(29,.i .i64 n),(30,.i .i64 i)],
  [(.fld (.loc 15) 3,⟨1,.own,3,Zc (fzs (L.take i++acc.drop i))⟩)],3⟩
def Zrf(n:Nat)(rest:List (List Fz))(acc:List Rat)(j:Nat):St:=
 ⟨[(4,.bs (.fld (.loc 15) 3) 1 3 0 n),(17,.sl (Zv rest) .an),(18,.i .i64 rest.length),(19,.i .i64 j)],[(.fld (.loc 15) 3,⟨1,.own,3,Zc (fzs ((rest.take j).foldl Znj acc))⟩)],3⟩
end
end Go.Ab
end
section
namespace Go.Ab
def Zey(p:List (Fz×List Fz))(acc:List Rat):List Rat:=p.foldl (fun a q=>Zdp (fv q.1) a q.2) acc
theorem zig:∀(p:List (Fz×List Fz)) (acc:List Rat),(∀q∈p,q.2.length=acc.length)→(Zey p acc).length=acc.length
 | [],_,_=>rfl
 | q::p,acc,h=>by
  have h1:=zjz (c:=fv q.1) (h q Y8);have:=zig p (Zdp (fv q.1) acc q.2) (fun r hr=>by rw[h1];exact h r (Yq _ hr));unfold Zey at this ⊢;rw[List.foldl_cons,this,h1]
theorem zyt{B:Nat}(hB:1≤B):∀(p:List (Fz×List Fz)) (acc:List Rat) (S:Nat),(∀q∈acc,sz q≤S)→(∀q∈p,fsz q.1≤B∧∀x∈q.2,fsz x≤B)→∀q∈Zey p acc,sz q≤S+p.length*(2*B+1)
 | [],acc,S,ha,_=>by simpa[Zey]using ha
 | r::p,acc,S,ha,hw=>by
  intro q hq;have hr:=hw r Y8;have:=zyt hB p (Zdp (fv r.1) acc r.2) (S+(2*B+1)) (z78 (za4 hr.1 hB) ha hr.2 hB) (fun r hr=>hw r (Yq _ hr)) q hq;rw[Yn,Ycf];omega
theorem zyu(p:List (Fz×List Fz))(acc:List Rat){k:Nat}(hk:k<p.length):Zey (p.take (k+1)) acc=Zdp (fv (p[k]'hk).1) (Zey (p.take k) acc) (p[k]'hk).2:=by
 grind[Zey,List.take_succ_eq_append_getElem]
section
variable{T:Tbl}[Zs T][Z2 T][Z4 T][Zu T][Zw T][Za0 T][Zf T][Zl T][Zp T][Zaz T][Zbr T]
theorem z28(C:List Fz)(k j n i:Nat)(l:List (List Fz))(r M:List Fz)(cf x w y z:Fz)(hi:i<n)(hn:n≤1000)(hck:C[k]? = some cf)(hir:i<r.length)(hg:r[i]? = some x)(c0:Za T 217 [efz cf,efz x]=some (efz w))
  (c1:Za T 215 [efz y,efz w]=some (efz z)) (hge:M[i]? = some y) (hml:M.length=n) :
  evX (orc T) T 0 l271_1 ⟨[(0,.sl (Zc C) .an),(10,.bs (.fld (.loc 40) 9) 1 3 0 n),(11,.i .i64 k),(41,.sl (Zv l) .an),(42,.i .i64 j),(43,.i .i64 k),(54,.sl (Zc r) .an),(55,.i .i64 n),(56,.i .i64 i)],[(.fld (.loc 40) 9,⟨1,.own,3,Zc M⟩)],3⟩ =
   some (.n,⟨[(0,.sl (Zc C) .an),(10,.bs (.fld (.loc 40) 9) 1 3 0 n),(11,.i .i64 k),(41,.sl (Zv l) .an),(42,.i .i64 j),(43,.i .i64 k),(54,.sl (Zc r) .an),(55,.i .i64 n),(56,.i .i64 (i+1:Nat))],[(.fld (.loc 40) 9,⟨1,.own,3,Zc (M.set i z)⟩)],3⟩):=by
 have hws:=zaz hi (by omega);have hi':(i:Int)<n:=by omega
 obtain⟨hkl,hgC⟩:=Yd.1 hck;obtain⟨_,hgE⟩:=Yd.1 hge;obtain⟨_,hgR⟩:=Yd.1 hg;have hkl':(k:Int)<C.length:=by omega
 have hset:=z4n M i z;simp -implicitDefEqProofs[l271_1,hi,hi',hir,hgR,hws,hkl,hkl',hgC,c0,c1,hgE,hml,hset]
def Zmb(C:List Fz)(k j n:Nat)(l:List (List Fz))(r:List Fz)(L acc:List Rat)(i:Nat):St:=
 ⟨[(0,.sl (Zc C) .an),(10,.bs (.fld (.loc 40) 9) 1 3 0 n),(11,.i .i64 k),(41,.sl (Zv l) .an),(42,.i .i64 j),(43,.i .i64 k),(54,.sl (Zc r) .an),(55,.i .i64 n),(56,.i .i64 i)],
  [(.fld (.loc 40) 9,⟨1,.own,3,Zc (fzs (L.take i++acc.drop i))⟩)],3⟩
theorem zyv(C:List Fz)(k j:Nat)(l:List (List Fz))(r:List Fz)(cf:Fz)(hck:C[k]? = some cf)(acc:List Rat)(hr:r.length=acc.length)(hn:acc.length≤1000){S B:Nat}
  (ha:∀q∈acc,sz q≤S) (hc:fsz cf≤B) (hw:∀x∈r,fsz x≤B) (hB:1≤B) (hS:S+(2*B+1)≤1000) :
  Ze T 0 4 (.norm false [0,10,41,42,43]) l271_1 (Zmb C k j acc.length l r (Zdp (fv cf) acc r) acc 0) =
   some (.n,⟨[(0,.sl (Zc C) .an),(10,.bs (.fld (.loc 40) 9) 1 3 0 acc.length),(41,.sl (Zv l) .an),(42,.i .i64 j),(43,.i .i64 k)],[(.fld (.loc 40) 9,⟨1,.own,3,Zc (fzs (Zdp (fv cf) acc r))⟩)],3⟩):=by
 have hL:=zjz (c:=fv cf) hr;refine zai (Zmb C k j acc.length l r (Zdp (fv cf) acc r) acc) acc.length _ (fun i hi=>?_) ?_
 ·have hir:i<r.length:=by omega
  have s1:=ha _ (Yi hi);have s2:=hw _ (Yi hir);have c0:=zgo (T:=T) cf (r[i]'hir) (by omega) (by omega);have s3:=zct (fv cf) (fv (r[i]'hir));have s4:=za4 hc hB;have s5:=za4 s2 hB;have c1:=zgn (T:=T) (fz (acc[i]'hi)) (fz (fv cf*fv (r[i]'hir))) (by rw[zar];omega) (by rw[zar];omega);have e1:(Zdp (fv cf) acc r)[i]'(by omega)=acc[i]'hi+fv cf*fv (r[i]'hir):=by simp[Zdp]
  rw[za7,za7,←e1]at c1;have hu:=congrArg fzs (z33 hL (show i<(Zdp (fv cf) acc r).length by omega));rw[←z77]at hu;unfold Zmb;rw[←hu];exact z28 C k j _ i l r _ cf _ _ _ _ hi hn hck hir (Ya hir) c0 c1 (zdg (z74 hL (show i<(Zdp (fv cf) acc r).length by omega))) (by simp;omega)
 ·have e:(Zdp (fv cf) acc r).take acc.length++acc.drop acc.length=Zdp (fv cf) acc r:=by grind
  unfold Zmb;rw[e];constructor<;>simp -implicitDefEqProofs[l271_1]
def Zmc(C:List Fz)(n:Nat)(l:List (List Fz))(acc:List Rat)(k:Nat):St:=
 ⟨[(0,.sl (Zc C) .an),(10,.bs (.fld (.loc 40) 9) 1 3 0 n),(41,.sl (Zv l) .an),(42,.i .i64 l.length),(43,.i .i64 k)],[(.fld (.loc 40) 9,⟨1,.own,3,Zc (fzs (Zey ((C.zip l).take k) acc))⟩)],3⟩
theorem zyw(C:List Fz)(l:List (List Fz))(hcl:C.length=l.length)(acc:List Rat)(hn:acc.length≤1000)(hk:l.length≤1000){S B:Nat}
  (ha:∀q∈acc,sz q≤S) (hc:∀x∈C,fsz x≤B) (hw:∀r∈l,∀x∈r,fsz x≤B) (hB:1≤B) (hS:S+l.length*(2*B+1)≤1000) (hall:∀r∈l,r.length=acc.length) :
  Ze T 0 2 (.norm false [10]) l271_2 (Zmc C acc.length l acc 0)=some (.n,⟨[(10,.bs (.fld (.loc 40) 9) 1 3 0 acc.length)],[(.fld (.loc 40) 9,⟨1,.own,3,Zc (fzs (Zey (C.zip l) acc))⟩)],3⟩):=by
 have hzl:(C.zip l).length=l.length:=by grind
 refine zai (Zmc C acc.length l acc) l.length _ (fun k hk=>?_) ?_
 ·have hkc:k<C.length:=by omega
  have hgc:C[k]? = some (C[k]'hkc):=Ya hkc;have hws:=zaz hk (by omega);have hm:=Yi hk;have hmc:=hc _ (Yi hkc);have hlen:=zig ((C.zip l).take k) acc (fun q hq=>hall _ (Ydc (Ya5 hq)).2);have hr:(l[k]'hk).length=acc.length:=hall _ hm;have hsz:=zyt hB ((C.zip l).take k) acc S ha (fun q hq=>⟨hc _ (Ydc (Ya5 hq)).1,hw _ (Ydc (Ya5 hq)).2⟩);rw[Yaj,Ybg (by omega)]at hsz;have hj2:(k+1)*(2*B+1)≤l.length*(2*B+1):=Yt _ hk;rw[Ycf]at hj2;have hsg:=zd0 (T:=T) (C[k]'hkc) (by omega);have e:Zey ((C.zip l).take (k+1)) acc=Zdp (fv (C[k]'hkc)) (Zey ((C.zip l).take k) acc) (l[k]'hk):=by
   rw[zyu _ _ (by omega)];simp
  have hkc':(k:Int)<C.length:=by omega
  unfold Zmc;rw[e];by_cases hz:fv (C[k]'hkc)=0
  ·rw[hz,z0g (by rw[hlen,hr])];have hq:sgQ (fv (C[k]'hkc))=0:=zdp.2 hz;rw[hq]at hsg;simp -implicitDefEqProofs[l271_2,hk,hkc,hkc',hws,hsg]
  ·have hq:¬ sgQ (fv (C[k]'hkc))=0:=fun h=>hz (zdp.1 h);have hin:=zyv (T:=T) C k l.length l (l[k]'hk) (C[k]'hkc) hgc (Zey ((C.zip l).take k) acc) (by omega) (by omega) hsz hmc (hw _ hm) hB (by omega);unfold Zmb at hin;rw[Ya4,Y3,Yax,hlen]at hin;generalize acc.length=n at *
   simp only[Yl]at hin;simp -implicitDefEqProofs[l271_2,hk,hkc,hkc',hws,hsg,hq,hin,hr]
 ·unfold Zmc;rw[Yb (by omega)];constructor<;>simp -implicitDefEqProofs[l271_2]
def Zmd(C:List Fz)(l:List (List Fz))(n i:Nat):St:=⟨[(0,.sl (Zc C) .an),(1,.sl (Zv l) .an),(2,.i .i64 n),(28,.sl (Zv l) .an),(29,.i .i64 l.length),(30,.i .i64 i)],[],2⟩
theorem zyx(C:List Fz)(l:List (List Fz))(n:Nat)(hk:l.length≤1000)(hall:∀r∈l,r.length=n) :
  Ze T 0 0 (.norm false [0,1,2]) l271_0 (Zmd C l n 0)=some (.n,⟨[(0,.sl (Zc C) .an),(1,.sl (Zv l) .an),(2,.i .i64 n)],[],2⟩):=by
 refine zai (Zmd C l n) l.length _ (fun i hi=>?_) ?_
 ·have hws:=zaz hi (by omega);have hr:(l[i]'hi).length=n:=hall _ (Yi hi);unfold Zmd;simp -implicitDefEqProofs[l271_0,hi,hws,hr]
 ·unfold Zmd;constructor<;>simp -implicitDefEqProofs[l271_0]
theorem zyy(C:List Fz)(l:List (List Fz))(n:Nat)(hcl:C.length=l.length)(hn:n≤300)(hk:l.length≤1000){B:Nat}(hc:∀x∈C,fsz x≤B)(hw:∀r∈l,∀x∈r,fsz x≤B)(hB:1≤B)
  (hS:1+l.length*(2*B+1)≤1000) (hall:∀r∈l,r.length=n) :
  Za T 271 [.sl (Zc C) .an,.sl (Zv l) .an,.i .i64 n]=some (.tup [.sl (Zc (fzs (Zey (C.zip l) (List.replicate n 0)))) .an,.b true]):=by
 have hz:=zo8 (T:=T) n hn;have e0:List.replicate n (fz 0)=fzs (List.replicate n 0):=by simp[fzs]
 rw[e0]at hz;have h0:=zyx (T:=T) C l n hk hall;have h:=zyw (T:=T) C l hcl (List.replicate n 0) (by grind) hk (S:=1) (by
  grind[zeq]) hc hw hB hS (by grind)
 have hfl:=zig (C.zip l) (List.replicate n 0) (fun q hq=>by rw[Ya9];exact hall _ (Ydc hq).2);unfold Zmc at h;unfold Zmd at h0;have e1:Zey ((C.zip l).take 0) (List.replicate n 0)=List.replicate n 0:=by simp[Zey]
 rw[e1]at h;rw[Ya9]at h hfl;have hl2:(fzs (Zey (C.zip l) (List.replicate n 0))).length=n:=by simp_all
 have ht:List.take n (fzs (Zey (C.zip l) (List.replicate n 0)))=fzs (Zey (C.zip l) (List.replicate n 0)):=Yb (by omega);have p2:((C.length:Int)=(l.length:Int))=True:=by grind
 have e3:¬ (n:Int)<0:=by omega
 have e4:¬ (300:Int)<n:=by omega
 rw[zaa Zbr.h271 rfl,b271];simp only[Yl]at h h0;simp -implicitDefEqProofs[hz,h,h0,hl2,ht,p2,e3,e4]
end
end Go.Ab
end
section
namespace Go.Ab
abbrev agS(t h:Fz)(y0 y1 f0 f1:List Fz):AV:=
 .agg [.b t.1,.sl (Zb t.2.1) .an,.sl (Zb t.2.2) .an,.b h.1,.sl (Zb h.2.1) .an,.sl (Zb h.2.2) .an,.sl (Zc y0) .an,.sl (Zc y1) .an,.sl (Zc f0) .an,.sl (Zc f1) .an]
def Zbw(l:List Fz):Rat:=l.foldl (fun p x=>p*fv x) 1
theorem zhp(l:List Fz)(x:Fz):Zbw (l++[x])=Zbw l*fv x:=by simp[Zbw,List.foldl_append]
theorem zdo{B:Nat}(hB:1≤B):∀(l:List Fz),(∀x∈l,fsz x≤B)→∀i,sz (Zbw (l.take i))≤1+l.length*B:=by
 intro l hl i
 induction i with
 | zero=>simp[Zbw,zke]
 | succ i ih=>
  by_cases hi:i<l.length
  ·rw[Yz hi,zhp];have h1:=zct (Zbw (l.take i)) (fv (l[i]'hi));have h2:=za4 (hl _ (Yi hi)) hB;have key:∀j,j≤l.length→sz (Zbw (l.take j))≤1+j*B:=by
    intro j
    induction j with
    | zero=>intro _;simp[Zbw,zke]
    | succ j ihj=>
     intro hj;rw[Yz (show j<l.length by omega),zhp];have h3:=ihj (by omega);have h4:=zct (Zbw (l.take j)) (fv (l[j]'(by omega)));have h5:=za4 (hl _ (Yi (show j<l.length by omega))) hB;rw[Ycf];omega
   have h6:=key i (by omega);have h7:(i+1)*B≤l.length*B:=Yt _ hi;rw[Ycf]at h7;omega
  ·rw[Yb (by omega)];rw[Yb (by omega)]at ih;exact ih
theorem zmy{k:Int}(h1:-100≤k)(h2:k≤100):sz (k:Rat)≤1:=by
 unfold sz;rw[Rat.num_intCast,Rat.den_intCast,zdh];exact Yd6.2 ⟨zan (by omega),Yg _⟩
section
variable{T:Tbl}[Zs T][Z2 T][Z4 T][Zu T][Zw T][Za0 T][Zf T][Zl T][Zp T][Zaz T][Zbr T][Zbg T]
theorem zce(a b:Int)(x:Fz)(hx:fsz x≤900)(ha1:-100≤a)(ha2:a≤100)(hb1:-100≤b)(hb2:b≤100):Za T 336 [.i .i64 a,.i .i64 b,efz x]=some (efz (fz ((a:Rat)+(b:Rat)*fv x))):=by
 have c1:=zdu (T:=T) a (by omega) (by omega);have c2:=zdu (T:=T) b (by omega) (by omega);have small:∀k:Int,-100≤k→k≤100→sz (k:Rat)≤1:=fun k h1 h2=>zmy h1 h2;have s1:=small a ha1 ha2;have s2:=small b hb1 hb2;have c3:=zgo (T:=T) (fz (b:Rat)) x (by rw[zar];omega) (by omega);rw[za7]at c3;have s3:=zct (b:Rat) (fv x);have s4:=za4 (L:=900) hx (by decide);have c4:=zgn (T:=T) (fz (a:Rat)) (fz ((b:Rat)*fv x)) (by rw[zar];omega) (by rw[zar];omega);rw[za7,za7]at c4;rw[zaa Zbg.h336 rfl,b336];generalize fz (a:Rat)=A at *
 generalize fz ((a:Rat)+(b:Rat)*fv x)=R at *
 generalize fz ((b:Rat)*fv x)=M at *
 generalize fz (b:Rat)=B at *
 simp -implicitDefEqProofs[c1,c2,c3,c4]
def Zmw(l:List Fz)(i:Nat):St:=⟨[(2,.ptr (.loc 2) 1 3 0 0),(3,.ptr (.loc 3) 2 3 0 0),(7,.sl (Zc l) .an),(8,.i .i64 l.length),(9,.i .i64 i)],[(.loc 2,⟨1,.str,3,[Zdi]⟩),(.loc 3,⟨2,.str,3,[Z1 (fz (Zbw (l.take i)))]⟩)],4⟩
theorem zvp(l:List Fz){B:Nat}(hl:l.length≤1000)(hB:1≤B)(hw:∀x∈l,fsz x≤B)(hS:1+l.length*B≤1000) :
  Ze T 0 0 (.norm false [2,3]) l337_0 (Zmw l 0)=some (.n,⟨[(2,.ptr (.loc 2) 1 3 0 0),(3,.ptr (.loc 3) 2 3 0 0)],[(.loc 2,⟨1,.str,3,[Zdi]⟩),(.loc 3,⟨2,.str,3,[Z1 (fz (Zbw l))]⟩)],4⟩):=by
 refine zai (Zmw l) l.length _ (fun i hi=>?_) ?_
 ·have hg:l[i]? = some (l[i]'hi):=Ya hi;have hws:=zaz hi (by omega);have h1:1*B≤l.length*B:=Yt _ (by omega);have h2:=hw _ (Yi hi);have c:=zgo (T:=T) (fz (Zbw (l.take i))) (l[i]'hi) (by rw[zar];have:=zdo hB l hw i;omega) (by omega);rw[za7,←zhp,←Yz hi]at c;unfold Zmw;generalize fz (Zbw (l.take i))=A at *
  generalize fz (Zbw (l.take (i+1)))=A' at *
  simp -implicitDefEqProofs[l337_0,hi,hg,hws,c]
 ·unfold Zmw;rw[Yb (Yg _)];generalize fz (Zbw l)=A at *
  constructor<;>simp -implicitDefEqProofs[l337_0]
theorem zcf(l:List Fz){B:Nat}(hl:l.length≤1000)(hB:1≤B)(hw:∀x∈l,fsz x≤B)(hS:1+l.length*B≤1000):Za T 337 [.sl (Zc l) .an]=some (efz (fz (Zbw l))):=by
 have c1:=zmg (T:=T);have h:=zvp (T:=T) l hl hB hw hS;have e:Zbw (l.take 0)=1:=by simp[Zbw]
 unfold Zmw at h;rw[e]at h;rw[zaa Zbg.h337 rfl,b337];generalize fz (Zbw l)=A at *
 generalize fz 1=A1 at *
 simp only[Yl]at h;simp -implicitDefEqProofs[c1,h]
theorem zpe(t h:Fz)(y0 y1 f0 f1:List Fz):Za T 338 [agS t h y0 y1 f0 f1]=some (.sl (Zv [y0,y1,f0,f1]) .an):=by
 have e:Zv [y0,y1,f0,f1]=[[.sl (Zc y0) .an],[.sl (Zc y1) .an],[.sl (Zc f0) .an],[.sl (Zc f1) .an]]:=rfl;rw[zaa Zbg.h338 rfl,b338,e];simp -implicitDefEqProofs
def Zen(h:Fz)(y0 y1 f0 f1:List Fz):Bool:=decide (0<fv h)&&decide (y0.length≤300)&&decide (y1.length=y0.length)&&decide (f0.length=y0.length)&&decide (f1.length=y0.length)
theorem zpf(t h s:Fz)(y0 y1 f0 f1:List Fz)(ht:fsz t≤300)(hh:fsz h≤300)(hs:fsz s≤300):Za T 335 [agS t h y0 y1 f0 f1,efz s]=some (efz (fz ((fv s-fv t)/fv h))):=by
 have c1:=zmj (T:=T) s t (by omega) (by omega);have e1:=zh8 (fv s) (fv t);have e2:=za4 (L:=300) ht (by decide);have e3:=za4 (L:=300) hs (by decide);have c2:=zmk (T:=T) (fz (fv s-fv t)) h (by rw[zar];omega) (by omega);rw[za7]at c2;rw[zaa Zbg.h335 rfl,b335];generalize fz ((fv s-fv t)/fv h)=R at *
 generalize fz (fv s-fv t)=D at *
 generalize decide (fv h≠0)=Z at *
 simp -implicitDefEqProofs[c1,c2]
theorem zln(t h:Fz)(y0 y1 f0 f1:List Fz)(hh:fsz h≤300):Za T 329 [agS t h y0 y1 f0 f1]=some (.b (Zen h y0 y1 f0 f1)):=by
 have c:=zd0 (T:=T) h (by omega);rw[zaa Zbg.h329 rfl,b329];unfold Zen;by_cases h1:0<fv h
 case neg=>
  have e1:¬ 0<sgQ (fv h):=fun x=>h1 (zdi.1 x);rw[decide_eq_false h1];simp -implicitDefEqProofs[c,e1]
 have e1:0<sgQ (fv h):=zdi.2 h1;rw[decide_eq_true h1];by_cases h2:y0.length≤300
 case neg=>
  have e2:¬ (y0.length:Int)≤300:=by omega
  rw[decide_eq_false h2];simp -implicitDefEqProofs[c,e1,e2]
 have e2:(y0.length:Int)≤300:=by omega
 rw[decide_eq_true h2];by_cases h3:y1.length=y0.length
 case neg=>
  have e3:((y1.length:Int) == (y0.length:Int))=false:=by simp;omega
  have p3:((y1.length:Int)=(y0.length:Int))=False:=by simp;omega
  rw[decide_eq_false h3];simp -implicitDefEqProofs[c,e1,e2,e3,p3]
 have e3:((y1.length:Int) == (y0.length:Int))=true:=by simp;omega
 have p3:((y1.length:Int)=(y0.length:Int))=True:=by simp;omega
 rw[decide_eq_true h3];by_cases h4:f0.length=y0.length
 case neg=>
  have e4:((f0.length:Int) == (y0.length:Int))=false:=by simp;omega
  have p4:((f0.length:Int)=(y0.length:Int))=False:=by simp;omega
  rw[decide_eq_false h4];simp -implicitDefEqProofs[c,e1,e2,e3,p3,e4,p4]
 have e4:((f0.length:Int) == (y0.length:Int))=true:=by simp;omega
 have p4:((f0.length:Int)=(y0.length:Int))=True:=by simp;omega
 rw[decide_eq_true h4];have e5:((f1.length:Int) == (y0.length:Int))=decide (f1.length=y0.length):=by
  rw[Ybr];simp only[beq_iff_eq,decide_eq_true_eq];omega
 clear h1 h2 h3 h4;generalize decide (f1.length=y0.length)=Z at *
 simp -implicitDefEqProofs[c,e1,e2,e3,p3,e4,p4,e5]
end
end Go.Ab
end
section
namespace Go.Ab
theorem zdz(a b:List AV):wkR (a++b)=wkR a++wkR b:=by rw[zl9,zl9,zl9,Yda]
abbrev tyS:Ty:=.cons tyF (.cons tyF (.cons (.sl tyF) (.cons (.sl tyF) (.cons (.sl tyF) (.cons (.sl tyF) .nil)))))
end Go.Ab
end
section
namespace Go.Ab
class Zoi (T:Tbl):Prop where
end Go.Ab
end
section
namespace Go.Ab
end Go.Ab
end
section
namespace Go.Ab
section
variable{T:Tbl}
theorem zuy(m:Nat)(hm:m%2=1)(K:Nat)(hK:2^K*m<4294967296)(hK2:K≤32):∀v:Nat,v≤K →
  Ze T 0 0 (.norm false [3]) l224_0 ⟨[(0,u32 (2^v*m)),(3,.i .i64 (K-v:Nat))],[],2⟩=some (.n,⟨[(3,.i .i64 K)],[],2⟩):=by
 refine zav (fun v:Nat=>⟨[(0,u32 (2^v*m)),(3,.i .i64 (K-v:Nat))],[],2⟩) _ (fun v=>v) _ ?_;intro v hv;cases v with
 | zero=>
  right;constructor<;>simp -implicitDefEqProofs[l224_0,hm]
 | succ v=>
  left;have hle:2^(v+1)*m≤2^K*m:=Yt _ (Yu (by decide) hv);have e:2^(v+1)*m=2^v*m*2:=by grind
  have hw:IntKind.wrap .i64 (((K-(v+1):Nat):Int)+1)=((K-v:Nat):Int):=by rw[zac _ (by omega)];omega
  refine⟨v,by omega,Yy v,?_,rfl⟩;rw[e]at hle ⊢;generalize 2^v*m=x at *
  have e1:x*2%2=0:=by omega
  have e3:x<4294967296:=by omega
  simp -implicitDefEqProofs[l224_0,e1,e3,hw]
end
section
variable{T:Tbl}[Zz T]
theorem zqz(m K:Nat)(hm:m%2=1)(hK:2^K*m<4294967296):Za T 224 [u32 (2^K*m)]=some (.i .i64 K):=by
 have hK2:K≤32:=by
  rcases Ys 32 K with h | h
  ·have h1:2^32≤2^K:=Yu (by decide) (by omega);have h2:2^K≤2^K*m:=Ych _ (by omega);omega
  omega
 have h:=zuy (T:=T) m hm K hK hK2 K (Yg _);rw[Ycg]at h;simp only[Yl]at h;have h0:2^K*m≠0:=Yct (by grind) (by omega);rw[zaa Zz.h224 rfl,b224];simp -implicitDefEqProofs[h,h0]
end
theorem zq0{P m a S:List UInt32}{i:Nat}(hm:m.length=i)(hi:i<a.length):(P++(m++(a.drop i++S)))[P.length+i]? = some (a[i]'hi):=by
 grind
theorem zq1{P m a S:List UInt32}{i:Nat}(hm:m.length=i)(hi:i<a.length)(w:UInt32):(P++(m++(a.drop i++S))).set (P.length+i) w=P++((m++[w])++(a.drop (i+1)++S)):=by
 rw[Yad _ _ (by omega),Yby,Yad _ _ (by omega),hm,Ycg,Ye hi,Yc1,Yb8];simp
section
variable{T:Tbl}
def Zis(Q:List UInt32)(o n s i:Nat):St:=⟨[(0,.bs (.bor 0) 0 1 o n),(1,.i .i64 s),(5,.i .i64 i)],[(.bor 0,⟨0,.own,1,Zb Q⟩)],4⟩
theorem z3l(Q:List UInt32)(o n s i:Nat)(x y:UInt32)(hi:i+1<n)(hn:n≤1000000)(hs:s<32)(hx:Q[o+i]? = some x)(hy:Q[o+(i+1)]? = some y) :
  evX (orc T) T 1 l225_0 (Zis Q o n s i)=some (.n,Zis (Q.set (o+i) (w32 ((x.toNat+y.toNat*4294967296)/2^s%4294967296))) o n s (i+1)):=by
 have h1:(i:Int)<n:=by omega
 have h2:(i:Int)+1<n:=by omega
 have hw:IntKind.wrap .i64 ((i:Int)+1)=((i+1:Nat):Int):=zac _ (by omega);have lx:=zam x;have ly:=zam y;have m2:y.toNat*4294967296%18446744073709551616=y.toNat*4294967296:=Yk (by omega);have m3:(y.toNat*4294967296+x.toNat)%18446744073709551616=x.toNat+y.toNat*4294967296:=by grind
 have hmin:min s 64=s:=by omega
 obtain⟨b1,hgx⟩:=Yd.1 hx;unfold Zis;simp -implicitDefEqProofs[l225_0,h1,h2,hw,hy,m2,m3,hmin,b1,hgx,zfr]
theorem z3m(Q:List UInt32)(o n s i:Nat)(x:UInt32)(hi:i+1=n)(hn:n≤1000000)(hs:s<32)(hx:Q[o+i]? = some x) :
  evX (orc T) T 1 l225_0 (Zis Q o n s i)=some (.n,Zis (Q.set (o+i) (w32 (x.toNat/2^s%4294967296))) o n s (i+1)):=by
 have h1:(i:Int)<n:=by omega
 have h2:¬ (i:Int)+1<n:=by omega
 have hw:IntKind.wrap .i64 ((i:Int)+1)=((i+1:Nat):Int):=zac _ (by omega);have hmin:min s 64=s:=by omega
 obtain⟨b1,hgx⟩:=Yd.1 hx;unfold Zis;simp -implicitDefEqProofs[l225_0,h1,h2,hw,hmin,b1,hgx,zfr]
theorem z7l(P a S:List UInt32)(s:Nat)(hs:s<32)(hl:a.length≤1000000):∀y:Nat×List UInt32,
  (y.1≤a.length∧y.2.length=y.1∧val y.2+4294967296^y.1*(val (a.drop y.1)/2^s)=val a/2^s) →
  ∃r,(∃m:List UInt32,r=(Ex.n,(⟨[(0,.bs (.bor 0) 0 1 P.length a.length)],[(.bor 0,⟨0,.own,1,Zb (P++(m++S))⟩)],4⟩:St))∧m.length=a.length∧val m=val a/2^s) ∧
   Ze T 1 0 (.norm false [0]) l225_0 (Zis (P++(y.2++(a.drop y.1++S))) P.length a.length s y.1)=some r:=by
 refine zay (fun y:Nat×List UInt32=>Zis (P++(y.2++(a.drop y.1++S))) P.length a.length s y.1) _ (fun y=>a.length-y.1) _ ?_
 rintro⟨i,m⟩ ⟨hi,hm,hv⟩
 by_cases h0:i<a.length
 ·left;have hx:=zam (a[i]'h0);have hd:=Ye h0;have fin:∀y R:Nat,val (a.drop (i+1))=y+4294967296*R→val (m++[w32 (((a[i]'h0).toNat+y*4294967296)/2^s%4294967296)])+4294967296^(i+1)*(val (a.drop (i+1))/2^s)=val a/2^s:=by
   intro y R hR;have hdw:=zpn (x:=(a[i]'h0).toNat) (y:=y) (R:=R) hs hx
   grind[zap,zaj,zbf,zah]
  by_cases h1:i+1<a.length
  ·have hd1:=Ye h1;refine⟨(i+1,m++[w32 (((a[i]'h0).toNat+(a[i+1]'h1).toNat*4294967296)/2^s%4294967296)]),⟨h0,by grind,fin _ (val (a.drop (i+1+1))) (by rw[hd1,zap])⟩,by omega,?_⟩
   grind[z3l,zq0,zq1]
  ·have f0:=fin 0 0 (by rw[Yas (by omega),zbf,Yal]);rw[Yc4,Y4]at f0;refine⟨(i+1,m++[w32 ((a[i]'h0).toNat/2^s%4294967296)]),⟨h0,by grind,f0⟩,by omega,?_⟩
   grind[z3m,zq0,zq1]
 ·right;have:i=a.length:=by omega
  subst this;rw[Yp,zbf,Nat.zero_div,Yal,Y4]at hv;refine⟨_,⟨m,rfl,hm,hv⟩,?_,?_⟩<;>simp -implicitDefEqProofs[l225_0,Zis]
theorem zuz(P a S:List UInt32)(hl:a.length≤1000000){n:Nat}(hn:n≤a.length)(h0:∀(i:Nat) (x:UInt32),n≤i→a[i]? = some x→x.toNat=0)(h1:∀x:UInt32,0<n→a[n-1]? = some x→x.toNat≠0) :
  ∀k:Nat,(n≤k∧k≤a.length)→Ze T 1 2 (.norm false [0]) l225_1 ⟨[(0,.bs (.bor 0) 0 1 P.length k)],[(.bor 0,⟨0,.own,1,Zb (P++(a++S))⟩)],4⟩ =
   some (.n,⟨[(0,.bs (.bor 0) 0 1 P.length n)],[(.bor 0,⟨0,.own,1,Zb (P++(a++S))⟩)],4⟩):=by
 refine zav (fun k:Nat=>⟨[(0,.bs (.bor 0) 0 1 P.length k)],[(.bor 0,⟨0,.own,1,Zb (P++(a++S))⟩)],4⟩) _ (fun k=>k) _ ?_
 rintro k ⟨hk,hka⟩
 have hget:∀j,j<a.length→(P++(a++S))[P.length+j]? = a[j]? := by
  grind
 by_cases h2:k=0
 ·right;have:n=0:=by omega
  subst this;subst h2;constructor<;>simp -implicitDefEqProofs[l225_1]
 ·have hw:IntKind.wrap .i64 ((k:Int)-1)=((k-1:Nat):Int):=by rw[zac _ (by omega)];omega
  have hg:a[k-1]? = some (a[k-1]'(by omega)):=Ya _;have hq:=hget (k-1) (by omega);rw[hg]at hq;have hpos:0<k:=by omega
  have hlt:k-1<k:=by omega
  by_cases h3:k=n
  ·right;subst h3;have hx:=h1 _ hpos hg;constructor<;>simp -implicitDefEqProofs[l225_1,hpos,hw,hq,hx,hlt]
  ·left;have hx:=h0 (k-1) _ (by omega) hg;refine⟨k-1,⟨by omega,by omega⟩,hlt,?_,rfl⟩;simp -implicitDefEqProofs[l225_1,hpos,hw,hq,hx,hlt]
end
section
variable{T:Tbl}[Zz T]
theorem zu0(P a S:List UInt32)(s:Nat)(hs:s<32)(hl:a.length≤1000000) :
  ∃S',S'.length+(ofN (val a/2^s)).length=a.length+S.length ∧
   Zbp T 225 [.bs (.bor 0) 0 1 P.length a.length,.i .i64 s] [(.bor 0,⟨0,.own,1,Zb (P++(a++S))⟩)] =
    some (.bs (.bor 0) 0 1 P.length (ofN (val a/2^s)).length,[(.bor 0,⟨0,.own,1,Zb (P++(ofN (val a/2^s)++S'))⟩)]):=by
 obtain⟨_,⟨m,rfl,hm,hv⟩,hr⟩:=z7l (T:=T) P a S s hs hl (0,[]) ⟨Yv _,rfl,by simp⟩;obtain⟨n,h1,h2,h3,h4⟩:=zg1 m;have ht:=zuz (T:=T) P m S (by omega) h1 h3 h4 m.length ⟨h1,Yg _⟩;have hlen:(ofN (val a/2^s)).length=n:=by grind
 have e:P++(m++S)=P++(ofN (val a/2^s)++(m.drop n++S)):=by grind[List.take_append_drop]
 refine⟨m.drop n++S,by grind,?_⟩;rw[hlen,←e];rw[hm]at ht;unfold Zis at hr;simp only[Yax,Y3,Yl]at hr;rw[za3 Zz.h225 rfl,b225];simp -implicitDefEqProofs[hr,ht]
theorem zu1(Q:List UInt32)(o n j0:Nat)(hn:n≤1000000)(hj:j0<n)(hz:∀j,j<j0→∃x:UInt32,Q[o+j]? = some x∧x.toNat=0)(h1:∃x:UInt32,Q[o+j0]? = some x∧x.toNat≠0) :
  ∀j:Nat,j≤j0→Ze T 1 0 (.norm false [0,4]) l226_0 ⟨[(0,.bs (.bor 0) 0 1 (o+j) (n-j)),(4,.i .i64 (32*j:Nat))],[(.bor 0,⟨0,.own,1,Zb Q⟩)],4⟩ =
   some (.n,⟨[(0,.bs (.bor 0) 0 1 (o+j0) (n-j0)),(4,.i .i64 (32*j0:Nat))],[(.bor 0,⟨0,.own,1,Zb Q⟩)],4⟩):=by
 refine zav (fun j:Nat=>⟨[(0,.bs (.bor 0) 0 1 (o+j) (n-j)),(4,.i .i64 (32*j:Nat))],[(.bor 0,⟨0,.own,1,Zb Q⟩)],4⟩) _ (fun j=>j0-j) _ ?_;intro j hj2;have hpos:0<n-j:=by omega
 by_cases h:j=j0
 ·right;subst h;obtain⟨x,hx,hx0⟩:=h1;constructor<;>simp -implicitDefEqProofs[l226_0,hpos,hx,hx0]
 ·left;obtain⟨x,hx,hx0⟩:=hz j (by omega);have hw:IntKind.wrap .i64 (((32*j:Nat):Int)+32)=((32*(j+1):Nat):Int):=by rw[zac _ (by omega)];omega
  have e1:1<n-j:=by omega
  have e2:n-j-1=n-(j+1):=by omega
  have e3:(1:Int)≤((n-j:Nat):Int):=by omega
  refine⟨j+1,by omega,by omega,?_,rfl⟩;generalize 32*j=c at *
  rw[←Ya0,←e2];generalize n-j=k at *
  simp -implicitDefEqProofs[l226_0,hpos,hx,hx0,hw,e1,e3]
theorem zo0:∀(a:List UInt32),val a≠0→∃j,∃h:j<a.length,(∀i (hi:i<j),(a[i]'(by omega)).toNat=0)∧(a[j]'h).toNat≠0∧val a=4294967296^j*val (a.drop j)
 | [],h=>by simp at h
 | x::a,h=>by
  by_cases hx:x.toNat=0
  ·have h2:val a≠0:=by
    intro e;apply h;rw[zap,hx,e]
   obtain⟨j,hj,h3,h4,h5⟩:=zo0 a h2;refine⟨j+1,by simpa using hj,?_,by simpa using h4,?_⟩
   ·intro i hi;cases i with
    | zero=>simpa using hx
    | succ i=>simpa using h3 i (by omega)
   ·rw[zap,hx,h5,Ydw,Y6,Yan,Yab (4294967296^j) 4294967296,Y9]
  ·exact⟨0,by simp,fun i hi=>by omega,by simpa using hx,by simp⟩
theorem zgv(P a S:List UInt32)(hl:a.length≤100000)(h:val a≠0):∃(P' S':List UInt32) (m k:Nat),val a=2^k*m∧m%2=1∧k≤32*a.length∧(ofN m).length≤a.length∧P'.length+(ofN m).length+S'.length=P.length+a.length+S.length ∧
  Zbp T 226 [.bs (.bor 0) 0 1 P.length a.length] [(.bor 0,⟨0,.own,1,Zb (P++(a++S))⟩)] =
   some (.tup [.bs (.bor 0) 0 1 P'.length (ofN m).length,.i .i64 k],[(.bor 0,⟨0,.own,1,Zb (P'++(ofN m++S'))⟩)]):=by
 obtain⟨j,hj,hz,hne,hv⟩:=zo0 a h;obtain⟨s,c,hsc,hc⟩:=z4o hne;have hx:=zam (a[j]'hj);have hs:s<32:=by
  rcases Ys s 32 with h1 | h1
  ·omega
  ·have h2:2^32≤2^s:=Yu (by decide) h1;have h3:2^s≤2^s*c:=Ych _ (by omega);omega
 have hd:=Ye hj
 -- the rest is odd
 have hm:∃m,val (a.drop j)=2^s*m∧m%2=1:=by
  refine⟨c+2^(32-s)*val (a.drop (j+1)),?_,?_⟩
  ·rw[hd,zap,hsc,Yae,←Y9,←Ybh,show s+(32-s)=32 by omega]
  ·have:2^(32-s)=2*2^(31-s):=by rw[←Nat.pow_succ'];grind
   rw[this,Y9];omega
 obtain⟨m,hm1,hm2⟩:=hm;have hdiv:val (a.drop j)/2^s=m:=by grind[Nat.mul_div_cancel_left]
 have hlen:(a.drop j).length=a.length-j:=by simp
 obtain⟨S',hS',hdown⟩:=zu0 (T:=T) (P++a.take j) (a.drop j) S s hs (by omega);rw[hdiv]at hS' hdown;have hPl:(P++a.take j).length=P.length+j:=by grind
 have hbox:(P++a.take j)++(a.drop j++S)=P++(a++S):=by
  grind[List.take_append_drop]
 rw[hPl,hlen,hbox]at hdown;have hml:(ofN m).length≤a.length:=by
  have h1:m≤val (a.drop j):=by rw[hm1];exact Yb1 _ (Ya2 (by decide))
  have h2:=zat h1;have h3:=zad (a.drop j);omega
 refine⟨P++a.take j,S',m,32*j+s,?_,hm2,by omega,hml,by omega,?_⟩
 ·rw[hv,hm1,zpk,Ybh,Y9]
 ·have hst:=zu1 (T:=T) (P++(a++S)) P.length a.length j (by omega) hj (fun i hi=>⟨_,by grind,hz i hi⟩) ⟨_,by grind,hne⟩ 0 (Yv _);have hzr:=zqz (T:=T) c s hc (by omega);rw[←hsc]at hzr;have hg:(P++(a++S))[P.length+j]? = some (a[j]'hj):=by grind
  have hpos:0<a.length-j:=by omega
  have hw:IntKind.wrap .i64 (((32*j:Nat):Int)+s)=((32*j+s:Nat):Int):=by rw[zac _ (by omega)];omega
  simp only[Yal,Y4,Nat.sub_zero,Yl]at hst;rw[hPl,za3 Zz.h226 rfl,b226];generalize 32*j=c1 at *
  simp -implicitDefEqProofs[hst,hzr,hg,hpos,hw,hdown]
end
theorem z49{P m a S b:List UInt32}{i c s d:Nat}(hm:m.length=i)(h0:i<a.length)(hv:val m+val (b.take i)=val (a.take i)+4294967296^i*c)(hs:s<4294967296)(h:s+(atW b i+c)=(a[i]'h0).toNat+4294967296*d) :
  val (m++[w32 s])+val (b.take (i+1))=val (a.take (i+1))+4294967296^(i+1)*d:=by
 grind[zbg,zaj,zap,zah,atW]
section
variable{T:Tbl}[Z0 T][Z7 T][Zy T][Zaa T][Zz T]
def Zkq(Q R:List UInt32)(o n o2 n2 c i:Nat):St:=⟨[(0,.bs (.bor 0) 0 1 o n),(1,.bs (.bor 1) 1 1 o2 n2),(4,u64 c),(5,.i .i64 i)],[(.bor 0,⟨0,.own,1,Zb Q⟩),(.bor 1,⟨1,.own,1,Zb R⟩)],6⟩
theorem z7m(Q R b:List UInt32)(o n o2 n2 c i:Nat)(x:UInt32)(hi:i<n)(hn:n≤1000000)(hb:b.length≤1000000)(hc:c≤1)(hx:Q[o+i]? = some x)(hR:List.take n2 (List.drop o2 R)=b)(hR2:o2+n2≤R.length) :
  evX (orc T) T 2 l2097_0 (Zkq Q R o n o2 n2 c i)=some (.n,Zkq (Q.set (o+i) (w32 (if x.toNat<atW b i+c then x.toNat+4294967296-(atW b i+c) else x.toNat-(atW b i+c)))) R o n o2 n2 (if x.toNat<atW b i+c then 1 else 0) (i+1)):=by
 have h1:(i:Int)<n:=by omega
 have hw:IntKind.wrap .i64 ((i:Int)+1)=((i+1:Nat):Int):=zac _ (by omega);have cb:=zdn (T:=T) b i hb;have lx:=zam x;have lb:=zjn b i;generalize atW b i=y at *
 have m2:y%18446744073709551616=y:=Yk (by omega);have m3:(y+c)%18446744073709551616=y+c:=Yk (by omega);have m4:(x.toNat+4294967296)%18446744073709551616=x.toNat+4294967296:=Yk (by omega);obtain⟨b1,hgx⟩:=Yd.1 hx;unfold Zkq;by_cases hlt:x.toNat<y+c
 ·have hs:Zee (x.toNat+4294967296) (y+c)=x.toNat+4294967296-(y+c):=zfh (by omega) (by omega);simp -implicitDefEqProofs[l2097_0,h1,hw,cb,m2,m3,m4,b1,hgx,hR,hR2,hlt,hs]
 ·have hs:Zee x.toNat (y+c)=x.toNat-(y+c):=zfh (by omega) (by omega);simp -implicitDefEqProofs[l2097_0,h1,hw,cb,m2,m3,b1,hgx,hR,hR2,hlt,hs]
theorem z7n(P a S R b:List UInt32)(o2 n2:Nat)(hl:a.length≤1000000)(hb:b.length≤1000000)(hR:List.take n2 (List.drop o2 R)=b)(hR2:o2+n2≤R.length):∀y:Nat×Nat×List UInt32,
  (y.1≤a.length∧y.2.1≤1∧y.2.2.length=y.1∧val y.2.2+val (b.take y.1)=val (a.take y.1)+4294967296^y.1*y.2.1) →
  ∃r,(∃(c:Nat) (m:List UInt32),r=(Ex.n,(⟨[],[(.bor 0,⟨0,.own,1,Zb (P++(m++S))⟩),(.bor 1,⟨1,.own,1,Zb R⟩)],6⟩:St)) ∧
   m.length=a.length∧c≤1∧val m+val (b.take a.length)=val a+4294967296^a.length*c) ∧
   Ze T 2 0 (.norm false []) l2097_0 (Zkq (P++(y.2.2++(a.drop y.1++S))) R P.length a.length o2 n2 y.2.1 y.1)=some r:=by
 refine zay (fun y:Nat×Nat×List UInt32=>Zkq (P++(y.2.2++(a.drop y.1++S))) R P.length a.length o2 n2 y.2.1 y.1) _ (fun y=>a.length-y.1) _ ?_
 rintro⟨i,c,m⟩ ⟨hi,hc,hm,hv⟩
 simp only at hi hc hm hv;by_cases h0:i<a.length
 ·left;have lx:=zam (a[i]'h0);have lb:=zjn b i;have hstep:=z7m (T:=T) (P++(m++(a.drop i++S))) R b P.length a.length o2 n2 c i (a[i]'h0) h0 hl hb hc (zq0 hm h0) hR hR2;rw[zq1 hm h0]at hstep;by_cases hlt:(a[i]'h0).toNat<atW b i+c
  ·rw[if_pos hlt,if_pos hlt]at hstep;exact⟨(i+1,1,m++[w32 ((a[i]'h0).toNat+4294967296-(atW b i+c))]),⟨h0,Yg _,by grind,by simp only;exact z49 (P:=P) (S:=S) hm h0 hv (by omega) (by omega)⟩,by omega,hstep⟩
  ·rw[if_neg hlt,if_neg hlt]at hstep;exact⟨(i+1,0,m++[w32 ((a[i]'h0).toNat-(atW b i+c))]),⟨h0,Yv _,by grind,by simp only;exact z49 (P:=P) (S:=S) hm h0 hv (by omega) (by omega)⟩,by omega,hstep⟩
 ·right;have:i=a.length:=by omega
  subst this;rw[Yb (Yg a.length)]at hv;refine⟨_,⟨c,m,rfl,hm,hc,hv⟩,?_,?_⟩<;>simp -implicitDefEqProofs[l2097_0,Zkq]
theorem zjp(P a S P2 b S2:List UInt32)(hl:a.length≤1000000)(hb:b.length≤a.length)(hab:val b≤val a) :
  ∃m:List UInt32,m.length=a.length∧val m=val a-val b ∧
   Zbp T 2097 [.bs (.bor 0) 0 1 P.length a.length,.bs (.bor 1) 1 1 P2.length b.length] [(.bor 0,⟨0,.own,1,Zb (P++(a++S))⟩),(.bor 1,⟨1,.own,1,Zb (P2++(b++S2))⟩)] =
    some (.tup [],[(.bor 0,⟨0,.own,1,Zb (P++(m++S))⟩),(.bor 1,⟨1,.own,1,Zb (P2++(b++S2))⟩)]):=by
 obtain⟨_,⟨c,m,rfl,hm,hc,hv⟩,hr⟩:=z7n (T:=T) P a S (P2++(b++S2)) b P2.length b.length hl (by omega) (by simp) (by simp) (0,0,[]) ⟨Yv _,Yv _,rfl,by simp⟩;rw[Yb hb]at hv;have hlo:=za0 m;have hval:val m=val a-val b:=by
  rcases Yar c with h1 | h1
  all_goals grind
 refine⟨m,hm,hval,?_⟩;unfold Zkq at hr;simp only[Yax,Y3,Yl]at hr;rw[za3 Zz.h2097 rfl,b2097];simp -implicitDefEqProofs[hr]
theorem zo1(a:List UInt32):Za T 229 [.sl (Zb (ofN (val a))) .an]=some (.b (decide (val a=1))):=by
 rw[zaa Zz.h229 rfl,b229];generalize val a=n;by_cases h0:n=0
 ·subst h0;simp -implicitDefEqProofs
 ·rw[zht h0];by_cases h1:n/4294967296=0
  ·have e:ofN (n/4294967296)=[]:=zaw.2 h1;have e2:n%4294967296=n:=Yk (by omega);simp -implicitDefEqProofs[e,Zb,zb7,e2]
  ·have h2:¬ ofN (n/4294967296)=[]:=fun e=>h1 (zaw.1 e);have h3:¬ n=1:=by omega
   have h4:¬ ((ofN (n/4294967296)).length:Int)+1=1:=by
    have:=Ybm.2 h2;omega
   simp -implicitDefEqProofs[Zb,h3,h4]
theorem zlf(a g:List UInt32)(ha:a.length≤10000)(hg:g.length≤10000)(h0:val g≠0):Za T 230 [.sl (Zb a) .an,.sl (Zb (ofN (val g))) .an]=some (.sl (Zb (ofN (val a/val g))) .an):=by
 have ho:=zo1 (T:=T) g;have hn:=zbm (T:=T) a (by omega);have hd:=zzf (T:=T) a (ofN (val g)) (by omega) (by have:=zad g;omega) (by rw[zae];omega);rw[zae]at hd;rw[zaa Zz.h230 rfl,b230];by_cases h1:val g=1
 ·rw[h1]at ho hd ⊢;simp -implicitDefEqProofs[ho,hn]
 ·simp -implicitDefEqProofs[ho,h1,hd]
theorem zo2(a:List UInt32)(k:Nat)(ha:a.length≤10000)(hk:k≤1000000):Za T 227 [.sl (Zb a) .an,.i .i64 k]=some (.sl (Zb (ofN (2^k*val a))) .an):=by
 have hq:(k:Int).tdiv 32=(k:Int)/32:=Ycx (by omega);have hm2:(k:Int).tmod 32=(k:Int)%32:=Ycy (by omega);have s0:¬ (k:Int)%32<0:=by omega
 have s1:((k:Int)%32).toNat=k%32:=by omega
 have s2:min (k%32) 32=k%32:=by omega
 have w1:IntKind.wrap .i64 ((k:Int)/32)=((k/32:Nat):Int):=by rw[zac (k/32) (by omega)];omega
 have h2:2^(k%32)<4294967296:=by
  have:=Nat.pow_lt_pow_right (show 1<2 by decide) (Yaz k (show 0<32 by decide));omega
 have s3:2^(k%32)%4294967296=2^(k%32):=Yk h2;have hmul:=zcs (T:=T) (List.replicate (k/32) 0++a) [w32 (2^(k%32))] (by grind) (by simp);have hv:val (List.replicate (k/32) 0++a)*val [w32 (2^(k%32))]=2^k*val a:=by
  rw[zaj,zbk,Ya9,zap,zbf,zah h2,Yal,Y4,Yan,zpk,Yab,←Y9,←Ybh,show k%32+32*(k/32)=k by omega]
 rw[hv]at hmul;have b2:k/32+a.length≤4294967296:=by omega
 have b3:((k/32:Nat):Int)≤4294967296:=by omega
 have hu:Zb [w32 (2^(k%32))]=[[u32 (2^(k%32))]]:=by simp[Zb,zah h2]
 rw[hu]at hmul;have ht:List.take (k/32+a.length) (List.replicate (k/32) 0++a)=List.replicate (k/32) 0++a:=Yb (by simp);rw[zaa Zz.h227 rfl,b227];generalize k/32=q at *
 simp -implicitDefEqProofs[hq,hm2,w1,s0,s1,s2,s3,hmul,b2,b3,ht]
def nmX:BId:=.fld (.loc 12) 22
def nmY:BId:=.fld (.loc 14) 22
def nm2(f:Bool):BId×BId:=if f then (nmX,nmY) else (nmY,nmX)
def Zhm(f:Bool)(P a S P2 b S2:List UInt32)(m n:Nat):St:=
 ⟨[(5,.bs (nm2 f).1 1 1 P.length a.length),(6,.bs (nm2 f).2 2 1 P2.length b.length),(7,.i .i64 m),(8,.i .i64 n)],[((nm2 f).1,⟨1,.own,1,Zb (P++(a++S))⟩),((nm2 f).2,⟨2,.own,1,Zb (P2++(b++S2))⟩)],4⟩
theorem zaje(f:Bool)(P S P2 S2:List UInt32)(X Y m n:Nat)(hX:(ofN X).length≤10000)(hY:(ofN Y).length≤10000)(h:Y<X) :
  ∃(P' S':List UInt32) (k x:Nat),X-Y=2^k*x∧x%2=1 ∧
   evX (orc T) T 0 l228_0 (Zhm f P (ofN X) S P2 (ofN Y) S2 m n)=some (.n,Zhm f P' (ofN x) S' P2 (ofN Y) S2 m n):=by
 have hc:=ze4 (T:=T) (ofN X) (ofN Y) (by omega) (by omega);rw[zae,zae,show Zc8 X Y=1 by unfold Zc8;omega]at hc;obtain⟨d,hd,hv,hless⟩:=zjp (T:=T) P (ofN X) S P2 (ofN Y) S2 (by omega) (zat (Yc5 h)) (by rw[zae,zae];omega);rw[zae,zae]at hv;obtain⟨P',S',x,k,e1,e2,e3,e4,e5,hodd⟩:=zgv (T:=T) P d S (by omega) (by omega);refine⟨P',S',k,x,by omega,e2,?_⟩;have t1:List.take (ofN X).length (List.drop P.length (P++(ofN X++S)))=ofN X:=by simp
 have t2:List.take (ofN Y).length (List.drop P2.length (P2++(ofN Y++S2)))=ofN Y:=by simp
 have b1:P.length+(ofN X).length≤(P++(ofN X++S)).length:=by simp
 have b2:P2.length+(ofN Y).length≤(P2++(ofN Y++S2)).length:=by simp
 rw[hd]at hodd;unfold Zhm;cases f<;>simp -implicitDefEqProofs[l228_0,nm2,nmX,nmY,hc,hless,hodd]
theorem zajf(f:Bool)(P S P2 S2:List UInt32)(X Y m n:Nat)(hX:(ofN X).length≤10000)(hY:(ofN Y).length≤10000)(h:X<Y) :
  ∃(P' S':List UInt32) (k x:Nat),Y-X=2^k*x∧x%2=1 ∧
   evX (orc T) T 0 l228_0 (Zhm f P (ofN X) S P2 (ofN Y) S2 m n)=some (.n,Zhm (!f) P' (ofN x) S' P (ofN X) S m n):=by
 have hc:=ze4 (T:=T) (ofN X) (ofN Y) (by omega) (by omega);rw[zae,zae,show Zc8 X Y=-1 by unfold Zc8;omega]at hc;obtain⟨d,hd,hv,hless⟩:=zjp (T:=T) P2 (ofN Y) S2 P (ofN X) S (by omega) (zat (Yc5 h)) (by rw[zae,zae];omega);rw[zae,zae]at hv;obtain⟨P',S',x,k,e1,e2,e3,e4,e5,hodd⟩:=zgv (T:=T) P2 d S2 (by omega) (by omega);refine⟨P',S',k,x,by omega,e2,?_⟩;have t1:List.take (ofN X).length (List.drop P.length (P++(ofN X++S)))=ofN X:=by simp
 have t2:List.take (ofN Y).length (List.drop P2.length (P2++(ofN Y++S2)))=ofN Y:=by simp
 have b1:P.length+(ofN X).length≤(P++(ofN X++S)).length:=by simp
 have b2:P2.length+(ofN Y).length≤(P2++(ofN Y++S2)).length:=by simp
 rw[hd]at hodd;unfold Zhm;cases f<;>simp -implicitDefEqProofs[l228_0,nm2,nmX,nmY,hc,hless,hodd]
theorem zajg(f:Bool)(P S P2 S2:List UInt32)(X m n:Nat)(hX:(ofN X).length≤10000){G:Option (Ex×St)}
  (hG:G=some (.n,⟨[(5,.bs (nm2 f).1 1 1 P.length (ofN X).length),(7,.i .i64 m),(8,.i .i64 n)],[((nm2 f).1,⟨1,.own,1,Zb (P++(ofN X++S))⟩)],3⟩)) :
  Zd4 (evX (orc T) T 0 l228_0 (Zhm f P (ofN X) S P2 (ofN X) S2 m n))=true∧Zdg 0 0 (Gh.norm false [5,7,8]) (evX (orc T) T 0 l228_0 (Zhm f P (ofN X) S P2 (ofN X) S2 m n))=G:=by
 subst hG;have hc:=ze4 (T:=T) (ofN X) (ofN X) (by omega) (by omega);rw[zae,show Zc8 X X=0 by grind[Zc8]]at hc;have t1:List.take (ofN X).length (List.drop P.length (P++(ofN X++S)))=ofN X:=by simp
 have t2:List.take (ofN X).length (List.drop P2.length (P2++(ofN X++S2)))=ofN X:=by simp
 have b1:P.length+(ofN X).length≤(P++(ofN X++S)).length:=by simp
 have b2:P2.length+(ofN X).length≤(P2++(ofN X++S2)).length:=by simp
 unfold Zhm;generalize P++(ofN X++S)=Q at *
 generalize P2++(ofN X++S2)=R at *
 generalize ofN X=A at *
 cases f<;>constructor<;>simp -implicitDefEqProofs[l228_0,nm2,nmX,nmY,hc,t1,t2,b1,b2]
structure Gc where
 f:Bool
 P:List UInt32
 S:List UInt32
 P2:List UInt32
 S2:List UInt32
 X:Nat
 Y:Nat
theorem z7o(G m n:Nat):∀y:Gc,((ofN y.X).length≤10000∧(ofN y.Y).length≤10000∧y.X%2=1∧y.Y%2=1∧Nat.gcd y.X y.Y=G) →
  ∃r,(∃(f:Bool) (P S:List UInt32),r=(Ex.n,(⟨[(5,.bs (nm2 f).1 1 1 P.length (ofN G).length),(7,.i .i64 m),(8,.i .i64 n)],[((nm2 f).1,⟨1,.own,1,Zb (P++(ofN G++S))⟩)],3⟩:St))) ∧
   Ze T 0 0 (.norm false [5,7,8]) l228_0 (Zhm y.f y.P (ofN y.X) y.S y.P2 (ofN y.Y) y.S2 m n)=some r:=by
 refine zay (fun y:Gc=>Zhm y.f y.P (ofN y.X) y.S y.P2 (ofN y.Y) y.S2 m n) _ (fun y=>y.X+y.Y) _ ?_
 rintro⟨f,P,S,P2,S2,X,Y⟩ ⟨hX,hY,oX,oY,hG⟩
 rcases Ycd X Y with h | h | h
 ·left;obtain⟨P',S',k,x,e1,e2,he⟩:=zajf (T:=T) f P S P2 S2 X Y m n hX hY h;have hle:x≤Y-X:=by rw[e1];exact Yb1 _ (Ya2 (by decide))
  refine⟨⟨!f,P',S',P,S,x,X⟩,⟨?_,hX,e2,oX,?_⟩,by grind,he⟩
  ·have:=zat (show x≤Y by omega)
   grind
  grind[zs9,Nat.gcd_comm]
 ·subst h;obtain⟨h1,h2⟩:=zajg (T:=T) f P S P2 S2 X m n hX rfl
  grind
 ·left;obtain⟨P',S',k,x,e1,e2,he⟩:=zaje (T:=T) f P S P2 S2 X Y m n hX hY h;have hle:x≤X-Y:=by rw[e1];exact Yb1 _ (Ya2 (by decide))
  refine⟨⟨f,P',S',P2,S2,x,Y⟩,⟨?_,hY,e2,oY,?_⟩,by grind,he⟩
  ·have:=zat (show x≤X by omega)
   grind
  grind[zs9]
theorem zzg(a b:List UInt32)(ha:a.length≤10000)(hb:b.length≤10000):Za T 228 [.sl (Zb a) .an,.sl (Zb b) .an]=some (.sl (Zb (ofN (Nat.gcd (val a) (val b)))) .an):=by
 have n1:=zfx (T:=T) a (by omega);have n2:=zfx (T:=T) b (by omega);have la:=zad a;have lb:=zad b;rw[zaa Zz.h228 rfl,b228];generalize val a=X at *
 generalize val b=Y at *
 have tY:List.take (ofN Y).length (ofN Y)=ofN Y:=Yb (Yg _);by_cases hX:X=0
 ·subst hX;rw[Nat.gcd_zero_left];simp -implicitDefEqProofs[n1,n2,tY]
 ·have eX:¬ ofN X=[]:=fun e=>hX (zaw.1 e);by_cases hY:Y=0
  ·subst hY;rw[Yd3];simp -implicitDefEqProofs[n1,n2,eX]
  ·have eY:¬ ofN Y=[]:=fun e=>hY (zaw.1 e);obtain⟨P1,S1,x,m,e1,e2,e3,e4,e5,o1⟩:=zgv (T:=T) [] (ofN X) [] (by omega) (by rw[zae];omega);obtain⟨P2,S2,y,n,g1,g2,g3,g4,g5,o2⟩:=zgv (T:=T) [] (ofN Y) [] (by omega) (by rw[zae];omega);rw[zae]at e1 g1;obtain⟨_,⟨f,P,S,rfl⟩,hl⟩:=z7o (T:=T) (Nat.gcd x y) m n ⟨true,P1,S1,P2,S2,x,y⟩ ⟨by grind,by grind,e2,g2,rfl⟩;have hG:Nat.gcd X Y=2^(min m n)*Nat.gcd x y:=by rw[e1,g1];exact z8t e2 g2
   have hgl:(ofN (Nat.gcd x y)).length≤10000:=by
    have:=zat (Nat.gcd_le_left y (show 0<x by omega));omega
   have hdb:=zo2 (T:=T) (ofN (Nat.gcd x y)) (min m n) hgl (by omega);rw[zae,←hG]at hdb;simp only[Yax,Ya8,Yav]at o1 o2;unfold Zhm at hl;have t1:List.take (ofN (Nat.gcd x y)).length (List.drop P.length (P++(ofN (Nat.gcd x y)++S)))=ofN (Nat.gcd x y):=by simp
   have b1:P.length+(ofN (Nat.gcd x y)).length≤(P++(ofN (Nat.gcd x y)++S)).length:=by simp
   have hmin:(if n<m then (n:Int) else (m:Int))=((min m n:Nat):Int):=by omega
   simp only[nm2,nmX,nmY,if_true]at hl;cases f<;>simp only[Y2,if_false,if_true]at hl<;>simp -implicitDefEqProofs[n1,n2,eX,eY,o1,o2,hl,hdb,hmin,mm2]
end
end Go.Ab
end
section
namespace Go.Ab
section
variable{T:Tbl}[Zab T]
theorem zu2(n:Bool)(a:List UInt32)(ha:a.length≤1000000):Za T 39 [wh n a]=some (ez (wv n a)):=by
 have h:=zbm (T:=T) a ha;have hl:(0<(ofN (val a)).length)=(val a≠0):=by
  rw[eq_iff_iff,Ybm];exact not_congr zaw
 rw[zaa Zab.h39 rfl,b39];unfold wv;rw[z09];cases n<;>simp -implicitDefEqProofs[h,hl]
theorem zzh(n m:Bool)(a b:List UInt32)(ha:a.length≤10000)(hb:b.length≤10000):Za T 24 [wh n a,wh m b]=some (ez (wv n a+wv m b)):=by
 have hc:=ze4 (T:=T) a b (by omega) (by omega);rw[zaa Zab.h24 rfl,b24];have fin:∀(s:Bool) (k:Nat),sg s k=wv n a+wv m b→(ofN k).length≤1000000→Za T 39 [wh s (ofN k)]=some (ez (wv n a+wv m b)):=by
  intro s k h1 h2;rw[zu2 (T:=T) s (ofN k) h2];have:wv s (ofN k)=sg s k:=by unfold wv;rw[zae]
  rw[this,h1]
 have hla:=zad a;have hlb:=zad b;obtain⟨z,hz⟩:∃z,z=wv n a+wv m b:=⟨_,rfl⟩;by_cases h:n=m
 ·subst h;have h1:=zox (T:=T) a b (by omega) (by omega);have h2:=fin n (val a+val b) (zka _ _ _) (by
   have:=zcg (x:=(val a:Int)) (y:=val b) (L:=10000) (by simpa using Yc hla ha) (by simpa using Yc hlb hb);have e:((val a:Int)+val b).natAbs=val a+val b:=by omega
   rw[e]at this;omega)
  rw[←hz]at h2 ⊢;simp -implicitDefEqProofs[h1,h2]
 ·by_cases hlt:val a<val b
  ·have h1:=zoy (T:=T) b a (by omega) (by omega) (by omega);have h2:=fin m (val b-val a) (zpq h hlt) (by have:=zat (Nat.sub_le (val b) (val a));omega);rw[←hz]at h2 ⊢;simp -implicitDefEqProofs[h,hc,zdc,hlt,h1,h2]
  ·have h1:=zoy (T:=T) a b (by omega) (by omega) (by omega);have h2:=fin n (val a-val b) (zpr h hlt) (by have:=zat (Nat.sub_le (val a) (val b));omega);rw[←hz]at h2 ⊢;simp -implicitDefEqProofs[h,hc,zdc,hlt,h1,h2]
end
end Go.Ab
end
section
namespace Go.Ab
theorem z7p(n:Bool)(x y:Nat):sg n (x*y)=sg n x*(y:Int):=by cases n<;>simp[sg,Yey]
theorem z5a(q:Rat):val (fz q).2.2≠0:=by
 unfold fz;rw[zae];exact q.den_nz
theorem z3n(n m:Bool)(x y d e:Nat):mkRat (sg n x) d/mkRat (sg m y) e=mkRat (sg (n != m) (x*e)) (d*y):=by
 rw[zs7,Yds,←Ycl,←Ycl,←Ycl,Rat.inv_divInt,Rat.divInt_mul_divInt];cases m
 ·grind[sg]
 ·simp only[sg,if_true,Yc6,Int.mul_neg];rw[←Rat.neg_divInt_neg,Int.neg_neg]
section
variable{T:Tbl}[Z0 T][Z7 T][Zy T][Zaa T][Zz T][Zab T][Zk T]
theorem zbn(x:Fz)(hx:fsz x≤10000):Za T 231 [efz x]=some (efz (fz (fv x))):=by
 obtain⟨n,a,d⟩:=x;have la:=zcu (n,a,d);have ld:=zc0 (n,a,d);simp only at la ld;have n1:=zbm (T:=T) a (by omega);have n2:=zbm (T:=T) d (by omega);have la2:=zad a;have ld2:=zad d;have ho:=zo1 (T:=T) d;have hg:=zzg (T:=T) (ofN (val a)) (ofN (val d)) (by omega) (by omega);rw[zae,zae]at hg;show _=some (efz (fz (mkRat (sg n (val a)) (val d))));by_cases hd:val d=0
 ·rw[hd,Yeu,zkd,zaa Zk.h231 rfl,b231];rw[hd]at n2;simp -implicitDefEqProofs[n1,n2,show Zb [1]=[[u32 1]] from rfl]
 ·by_cases ha:val a=0
  ·have e0:mkRat (sg n (val a)) (val d)=0:=by rw[Yd5 hd,ha];cases n<;>rfl
   have ed:¬ ofN (val d)=[]:=fun e=>hd (zaw.1 e);rw[e0,zkd,zaa Zk.h231 rfl,b231];rw[ha]at n1;simp -implicitDefEqProofs[n1,n2,ed,show Zb [1]=[[u32 1]] from rfl]
  ·have ea:¬ ofN (val a)=[]:=fun e=>ha (zaw.1 e);have ed:¬ ofN (val d)=[]:=fun e=>hd (zaw.1 e);rw[zac0 n (val a) hd,show decide (val a≠0)=true by grind,Ye1];have gpos:Nat.gcd (val a) (val d)≠0:=by
    grind
   have glen:(ofN (Nat.gcd (val a) (val d))).length≤10000:=by
    have:=zat (Nat.gcd_le_right (val a) (Yaf hd));omega
   have o1:=zlf (T:=T) (ofN (val a)) (ofN (Nat.gcd (val a) (val d))) (by omega) glen (by rw[zae];omega);have o2:=zlf (T:=T) (ofN (val d)) (ofN (Nat.gcd (val a) (val d))) (by omega) glen (by rw[zae];omega);rw[zae,zae]at o1 o2;rw[zaa Zk.h231 rfl,b231];by_cases h1:val d=1
   ·rw[h1]at n2 ho ed ⊢;rw[Nat.gcd_one_right,Nat.div_one,Nat.div_one];simp -implicitDefEqProofs[n1,n2,ho,ea,ed]
   ·generalize ofN (val d/Nat.gcd (val a) (val d))=D' at *
    simp -implicitDefEqProofs[n1,n2,ho,ea,ed,h1,hg,o1,o2]
theorem zsq(n:Nat)(h:n<18446744073709551616):Za T 353 [u64 n]=some (.sl (Zb (ofN n)) .an):=by
 have e2:val [w32 n,w32 (n/4294967296)]=n:=by simp[zb7];omega
 have h2:=zbm (T:=T) [w32 n,w32 (n/4294967296)] (by simp);rw[e2]at h2;have h3:n/4294967296%4294967296=n/4294967296:=Yk (by omega);have h4:n/4294967296%18446744073709551616=n/4294967296:=Yk (by omega);rw[zaa Zk.h353 rfl,b353];simp -implicitDefEqProofs[h3,h4,zbj _ _ _ (show n/4294967296<4294967296 by omega),h2]
theorem zjq(k:Int)(h1:-9223372036854775808≤k)(h2:k<9223372036854775808):Za T 232 [.i .i64 k]=some (efz (fz (k:Rat))):=by
 have hu:Zb [1]=[[u32 1]]:=rfl;rw[zaa Zk.h232 rfl,b232];by_cases hk:k<0
 ·have w1:IntKind.wrap .i64 (k+1)=k+1:=zac _ (by omega);have w2:IntKind.wrap .i64 (-(k+1))=-(k+1):=zac _ (by omega);have w3:(-(k+1)%18446744073709551616).toNat=k.natAbs-1:=by omega
  have c1:=zsq (T:=T) (k.natAbs-1) (by omega);have c2:=zox (T:=T) (ofN (k.natAbs-1)) [1] (by have:=zan (n:=k.natAbs-1) (k:=2) (by omega);omega) (by decide);have e1:val (ofN (k.natAbs-1))+val [1]=k.natAbs:=by rw[zae];show _+(1+4294967296*0)=_;omega
  rw[e1,hu]at c2;have c3:=zbn (T:=T) (true,ofN k.natAbs,[1]) (by
   have:=zan (n:=k.natAbs) (k:=2) (by omega)
   grind[fsz])
  have e2:fv (true,ofN k.natAbs,[1])=(k:Rat):=by
   unfold fv wv;simp only[zae];rw[show val [1]=1 from rfl,show sg true k.natAbs=k by unfold sg;grind];exact Rat.num_divInt_den (k:Rat)
  rw[e2]at c3
  change Za T 231 [.agg [.b true,.sl (Zb (ofN k.natAbs)) .an,.sl (Zb [1]) .an]]=_ at c3
  rw[hu]at c3;simp -implicitDefEqProofs[hk,w1,w2,w3,c1,c2,c3]
 ·have w3:(k%18446744073709551616).toNat=k.natAbs:=by omega
  have c1:=zsq (T:=T) k.natAbs (by omega);have c3:=zbn (T:=T) (false,ofN k.natAbs,[1]) (by
   have:=zan (n:=k.natAbs) (k:=2) (by omega)
   grind[fsz])
  have e2:fv (false,ofN k.natAbs,[1])=(k:Rat):=by
   unfold fv wv;simp only[zae];rw[show val [1]=1 from rfl,show sg false k.natAbs=k by unfold sg;grind];exact Rat.num_divInt_den (k:Rat)
  rw[e2]at c3
  change Za T 231 [.agg [.b false,.sl (Zb (ofN k.natAbs)) .an,.sl (Zb [1]) .an]]=_ at c3
  rw[hu]at c3;simp -implicitDefEqProofs[hk,w3,c1,c3]
theorem zc3:Za T 232 [.i .i64 0]=some (efz (fz 0)):=zjq 0 (by decide) (by decide)
theorem zfj:Za T 232 [.i .i64 1]=some (efz (fz 1)):=zjq 1 (by decide) (by decide)
theorem za8(x y:Fz)(hx:fsz x≤10000):Za T 233 [efz x,efz y]=some (.b (decide (x=y))):=by
 obtain⟨n,a,d⟩:=x;obtain⟨m,b,e⟩:=y;have la:=zcu (n,a,d);have ld:=zc0 (n,a,d);simp only at la ld;have c1:=zle (T:=T) a b (by omega);have c2:=zle (T:=T) d e (by omega);rw[zaa Zk.h233 rfl,b233];by_cases h1:n=m
 ·subst h1;by_cases h2:a=b
  ·subst h2;by_cases h3:d=e
   ·simp -implicitDefEqProofs[c1,c2]
   ·simp -implicitDefEqProofs[c1,c2,h3]
  ·simp -implicitDefEqProofs[c1,h2]
 ·simp -implicitDefEqProofs[h1]
theorem zd1(x:Fz)(k:Nat):Za T 247 [efz x,.i .i64 k]=some (.b (decide (k<fsz x))):=by
 obtain⟨n,a,d⟩:=x;unfold fsz;rw[zaa Zk.h247 rfl,b247];by_cases h1:k<a.length
 ·have h3:k<max a.length d.length:=by omega
  simp -implicitDefEqProofs[h1,h3]
 ·by_cases h2:k<d.length
  ·have h3:k<max a.length d.length:=by omega
   simp -implicitDefEqProofs[h1,h2,h3]
  ·have h3:¬ k<max a.length d.length:=by omega
   simp -implicitDefEqProofs[h1,h2,h3]
theorem zo3(x y:Fz)(hx:fsz x≤1000)(hy:fsz y≤1000):Za T 241 [efz x,efz y]=some (efz (fz (fv x*fv y))):=by
 obtain⟨n,a,d⟩:=x;obtain⟨m,b,e⟩:=y;have la:=zcu (n,a,d);have ld:=zc0 (n,a,d);have lb:=zcu (m,b,e);have le:=zc0 (m,b,e);simp only at la ld lb le;have c1:=zcs (T:=T) a b (by omega) (by omega);have c2:=zcs (T:=T) d e (by omega) (by omega);have l1:(ofN (val a*val b)).length≤2000:=by
  have:=za1 (x:=val a) (y:=val b) (L:=1000) (M:=1000) (Yc (zad a) (by omega)) (Yc (zad b) (by omega));omega
 have l2:(ofN (val d*val e)).length≤2000:=by
  have:=za1 (x:=val d) (y:=val e) (L:=1000) (M:=1000) (Yc (zad d) (by omega)) (Yc (zad e) (by omega));omega
 have c3:=zbn (T:=T) (n != m,ofN (val a*val b),ofN (val d*val e)) (by unfold fsz;grind);have e1:fv (n != m,ofN (val a*val b),ofN (val d*val e))=fv (n,a,d)*fv (m,b,e):=by
  grind[fv,wv,zae,zs7,Rat.mkRat_mul_mkRat]
 rw[e1]at c3;rw[f241 _ rfl,b241];simp -implicitDefEqProofs[c1,c2,c3]
theorem zjr(x y:Fz)(hx:fsz x≤1000)(hy:fsz y≤1000):Za T 242 [efz x,efz y]=some (efz (fz (fv x/fv y))):=by
 obtain⟨n,a,d⟩:=x;obtain⟨m,b,e⟩:=y;have la:=zcu (n,a,d);have ld:=zc0 (n,a,d);have lb:=zcu (m,b,e);have le:=zc0 (m,b,e);simp only at la ld lb le;have c1:=zcs (T:=T) a e (by omega) (by omega);have c2:=zcs (T:=T) d b (by omega) (by omega);have l1:(ofN (val a*val e)).length≤2000:=by
  have:=za1 (x:=val a) (y:=val e) (L:=1000) (M:=1000) (Yc (zad a) (by omega)) (Yc (zad e) (by omega));omega
 have l2:(ofN (val d*val b)).length≤2000:=by
  have:=za1 (x:=val d) (y:=val b) (L:=1000) (M:=1000) (Yc (zad d) (by omega)) (Yc (zad b) (by omega));omega
 have c3:=zbn (T:=T) (n != m,ofN (val a*val e),ofN (val d*val b)) (by unfold fsz;grind);have e1:fv (n != m,ofN (val a*val e),ofN (val d*val b))=fv (n,a,d)/fv (m,b,e):=by
  grind[fv,wv,zae,z3n]
 rw[e1]at c3;rw[zaa Zk.h242 rfl,b242];simp -implicitDefEqProofs[c1,c2,c3]
theorem zgw(x:Fz)(hx:fsz x≤10000):Za T 237 [efz x]=some (efz (fz (-fv x))):=by
 obtain⟨n,a,d⟩:=x;have c3:=zbn (T:=T) (!n,a,d) hx;have e1:fv (!n,a,d)=-fv (n,a,d):=by
  grind[fv,wv,z5k,Rat.neg_mkRat]
 rw[e1]at c3;rw[zaa Zk.h237 rfl,b237];simp -implicitDefEqProofs[c3]
theorem zzi(x y:Fz)(hx:fsz x≤1000)(hy:fsz y≤1000)(h1:val x.2.2≠0)(h2:val y.2.2≠0):Za T 239 [efz x,efz y]=some (efz (fz (fv x+fv y))):=by
 obtain⟨n,a,d⟩:=x;obtain⟨m,b,e⟩:=y;have la:=zcu (n,a,d);have ld:=zc0 (n,a,d);have lb:=zcu (m,b,e);have le:=zc0 (m,b,e);simp only at la ld lb le h1 h2;have c1:=zcs (T:=T) a e (by omega) (by omega);have c2:=zcs (T:=T) b d (by omega) (by omega);have c4:=zcs (T:=T) d e (by omega) (by omega);have l1:(ofN (val a*val e)).length≤2000:=by
  have:=za1 (x:=val a) (y:=val e) (L:=1000) (M:=1000) (Yc (zad a) (by omega)) (Yc (zad e) (by omega));omega
 have l2:(ofN (val b*val d)).length≤2000:=by
  have:=za1 (x:=val b) (y:=val d) (L:=1000) (M:=1000) (Yc (zad b) (by omega)) (Yc (zad d) (by omega));omega
 have l4:(ofN (val d*val e)).length≤2000:=by
  have:=za1 (x:=val d) (y:=val e) (L:=1000) (M:=1000) (Yc (zad d) (by omega)) (Yc (zad e) (by omega));omega
 have c3:=zzh (T:=T) n m (ofN (val a*val e)) (ofN (val b*val d)) (by omega) (by omega);have e3:wv n (ofN (val a*val e))+wv m (ofN (val b*val d))=sg n (val a)*(val e:Int)+sg m (val b)*(val d:Int):=by
  grind[wv,zae,z7p]
 have l3:(ofN (sg n (val a)*(val e:Int)+sg m (val b)*(val d:Int)).natAbs).length≤3000:=by
  rw[←e3];have:=zcg (x:=wv n (ofN (val a*val e))) (y:=wv m (ofN (val b*val d))) (L:=2000) (Yc (zbw _ _) l1) (Yc (zbw _ _) l2);omega
 rw[e3]at c3;obtain⟨z,hz⟩:∃z,z=sg n (val a)*(val e:Int)+sg m (val b)*(val d:Int):=⟨_,rfl⟩;rw[←hz]at c3 l3;have c5:=zbn (T:=T) (decide (z<0),ofN z.natAbs,ofN (val d*val e)) (by unfold fsz;grind);have e1:fv (decide (z<0),ofN z.natAbs,ofN (val d*val e))=fv (n,a,d)+fv (m,b,e):=by
  unfold fv;simp only[zae,zia];rw[hz];exact(Yc3 _ _ h1 h2).symm
 rw[e1]at c5;rw[zaa Zk.h239 rfl,b239];simp -implicitDefEqProofs[c1,c2,c3,c4,c5,zql]
theorem zb2(p q:Rat)(hp:sz p≤1000)(hq:sz q≤1000):Za T 239 [efz (fz p),efz (fz q)]=some (efz (fz (p+q))):=by
 have:=zzi (T:=T) (fz p) (fz q) hp hq (z5a p) (z5a q)
 simp_all
theorem zd2(p q:Rat)(hp:sz p≤1000)(hq:sz q≤1000):Za T 241 [efz (fz p),efz (fz q)]=some (efz (fz (p*q))):=by
 have:=zo3 (T:=T) (fz p) (fz q) hp hq
 simp_all
end
end Go.Ab
end
section
namespace Go.Ab
section
variable{T:Tbl}[Z0 T][Z7 T][Zy T][Zaa T][Zz T][Zab T][Zk T][Zac T]
def Zq9(n i:Nat):St:=⟨[(0,.i .i64 n),(3,.bs (.loc 3) 1 3 0 i),(4,.i .i64 i)],[(.loc 3,⟨1,.own,3,Zc (List.replicate i (fz 0))⟩)],3⟩
def Zmi(l:List Fz)(i:Nat):St:=⟨[(0,.sl (Zc l) .an),(3,.bs (.loc 3) 1 3 0 i),(4,.i .i64 i)],[(.loc 3,⟨1,.own,3,Zc (nrm (l.take i))⟩)],3⟩
theorem zu3(l:List Fz)(hl:l.length≤1000)(hw:∀x∈l,fsz x≤1000) :
  Ze T 0 0 (.norm false [3]) l278_0 (Zmi l 0)=some (.n,⟨[(3,.bs (.loc 3) 1 3 0 l.length)],[(.loc 3,⟨1,.own,3,Zc (nrm l)⟩)],3⟩):=by
 refine zai (Zmi l) l.length _ (fun i hi=>?_) ?_
 ·have hg:l[i]? = some (l[i]'hi):=Ya hi;have hws:=zaz hi (by omega);have hn:=zbn (T:=T) (l[i]'hi) (Yc (hw _ (Yi hi)) (by decide));have e:nrm (l.take (i+1))=nrm (l.take i)++[fz (fv (l[i]'hi))]:=zcz l _ hi;have hml:(nrm (l.take i)).length=i:=by simp[nrm];omega
  have hp:=zba hml (fz (fv (l[i]'hi)));unfold Zmi;rw[e];clear e;generalize nrm (l.take i)=M at *
  generalize fz (fv (l[i]'hi))=z at *
  have hb:i≤4294967295:=by omega
  simp -implicitDefEqProofs[l278_0,hi,hws,hn,hp,hml,hb]
 ·unfold Zmi;rw[Yb (Yg _)];generalize nrm l=M;constructor<;>simp -implicitDefEqProofs[l278_0]
theorem zjs(l:List Fz)(hl:l.length≤1000)(hw:∀x∈l,fsz x≤1000):Za T 278 [.sl (Zc l) .an]=some (.sl (Zc (nrm l)) .an):=by
 have h:=zu3 (T:=T) l hl hw;unfold Zmi at h;have e:nrm (l.take 0)=[]:=rfl;rw[e]at h;simp only[zau,Yl]at h;have hl2:(nrm l).length=l.length:=by simp[nrm]
 have ht:List.take l.length (nrm l)=nrm l:=Yb (by omega);rw[zaa Zac.h278 rfl,b278];simp -implicitDefEqProofs[h,ht,hl2]
def Zld(a b:List Fz)(i:Nat):St:=⟨[(0,.sl (Zc a) .an),(1,.sl (Zc b) .an),(5,.i .i64 i)],[],2⟩
theorem zu4(a b:List Fz)(hab:a.length=b.length)(hl:a.length≤1000)(ha:∀x∈a,fsz x≤10000) :
  Ze T 0 0 (.norm false []) l279_0 (Zld a b 0)=if a.drop 0=b.drop 0 then some (.n,⟨[],[],2⟩) else some (.r,⟨[(4,.b false)],[],2⟩):=by
 refine zak (Zld a b) a.length (fun i=>if a.drop i=b.drop i then some (.n,⟨[],[],2⟩) else some (.r,⟨[(4,.b false)],[],2⟩)) (fun i hi=>?_) ?_
 ·have hga:a[i]? = some (a[i]'hi):=Ya hi;have hib:i<b.length:=by omega
  have hgb:b[i]? = some (b[i]'hib):=Ya hib;have hws:=zaz hi (by omega);have c:=za8 (T:=T) (a[i]'hi) (b[i]'hib) (ha _ (Yi hi));have hib':(i:Int)<b.length:=by omega
  have key:(a.drop i=b.drop i)↔((a[i]'hi)=(b[i]'hib)∧a.drop (i+1)=b.drop (i+1)):=by
   grind[List.drop_eq_getElem_cons]
  by_cases he:(a[i]'hi)=(b[i]'hib)
  ·left;refine⟨?_,by grind⟩;unfold Zld;rw[decide_eq_true he]at c;clear he;simp -implicitDefEqProofs[l279_0,hi,hws,c,hib,hib']
  ·right;rw[if_neg (fun h=>he (key.1 h).1)];unfold Zld;rw[decide_eq_false he]at c;clear he;constructor<;>simp -implicitDefEqProofs[l279_0,hi,c,hib,hib']
 ·rw[Yp,if_pos (by rw[hab,Yp])];unfold Zld;constructor<;>simp -implicitDefEqProofs[l279_0]
theorem zcc(a b:List Fz)(hl:a.length≤1000)(ha:∀x∈a,fsz x≤10000):Za T 279 [.sl (Zc a) .an,.sl (Zc b) .an]=some (.b (decide (a=b))):=by
 rw[zaa Zac.h279 rfl,b279];by_cases hab:a.length=b.length
 ·have h:=zu4 (T:=T) a b hab hl ha;rw[Y3,Y3]at h;unfold Zld at h;simp only[Yl]at h;have hab':(b.length:Int)=a.length:=by omega
  by_cases he:a=b
  ·subst he;rw[if_pos rfl]at h;simp -implicitDefEqProofs[h]
  ·rw[if_neg he]at h;simp -implicitDefEqProofs[hab',h,he]
 ·have he:¬ a=b:=fun h=>hab (by rw[h]);have hab':¬ (a.length:Int)=b.length:=by omega
  simp -implicitDefEqProofs[hab',he]
def Zra(p q:List Rat)(i:Nat):St:=⟨[(0,.sl (Zc (fzs p)) .an),(1,.sl (Zc (fzs q)) .an),(5,.bs (.loc 5) 1 3 0 i),(6,.i .i64 i)],[(.loc 5,⟨1,.own,3,Zc (fzs ((Znj p (fzs q)).take i))⟩)],3⟩
def Zrb(p q:List Rat)(i:Nat):St:=⟨[(0,.sl (Zc (fzs p)) .an),(1,.sl (Zc (fzs q)) .an),(4,.ptr (.loc 4) 1 3 0 0),(5,.ptr (.loc 5) 2 3 0 0),(6,.i .i64 i)],
 [(.loc 4,⟨1,.str,3,[Zdi]⟩),(.loc 5,⟨2,.str,3,[Z1 (fz (Zms (fzs p) (fzs q) i))]⟩)],4⟩
def Zan(l:List Fz)(many words:Nat):Bool:=decide (many<l.length) || l.any fun x=>decide (words<fsz x)
def Zhn(l:List Fz)(many words:Nat)(i:Nat):St:=⟨[(0,.sl (Zc l) .an),(1,.i .i64 many),(2,.i .i64 words),(7,.i .i64 i)],[],2⟩
theorem zu5(l:List Fz)(many words:Nat)(hl:l.length≤many)(hm:many≤1000) :
  Ze T 0 0 (.norm false [0,1]) l286_0 (Zhn l many words 0)=if (l.drop 0).any (fun x=>decide (words<fsz x))=true then some (.r,⟨[(6,.b true)],[],2⟩) else some (.n,⟨[(0,.sl (Zc l) .an),(1,.i .i64 many)],[],2⟩):=by
 refine zak (Zhn l many words) l.length (fun i=>if (l.drop i).any (fun x=>decide (words<fsz x))=true then some (.r,⟨[(6,.b true)],[],2⟩) else some (.n,⟨[(0,.sl (Zc l) .an),(1,.i .i64 many)],[],2⟩)) (fun i hi=>?_) ?_
 ·have hga:l[i]? = some (l[i]'hi):=Ya hi;have hws:=zaz hi (by omega);have c:=zd1 (T:=T) (l[i]'hi) words;have h3:(i:Int)<many:=by omega
  have h4:i<many:=by omega
  have key:(l.drop i).any (fun x=>decide (words<fsz x))=(decide (words<fsz (l[i]'hi)) || (l.drop (i+1)).any fun x=>decide (words<fsz x)):=by
   rw[Ye hi,Yeb]
  by_cases he:words<fsz (l[i]'hi)
  ·right;rw[if_pos (by rw[key,decide_eq_true he,Yeq])];rw[decide_eq_true he]at c;unfold Zhn;clear key he;constructor<;>simp -implicitDefEqProofs[l286_0,hi,h3,c]
  ·left;refine⟨?_,by grind⟩;rw[decide_eq_false he]at c;unfold Zhn;clear key he;simp -implicitDefEqProofs[l286_0,hi,h3,hws,c]
 ·rw[Yp,if_neg (by simp)];unfold Zhn;constructor<;>simp -implicitDefEqProofs[l286_0]
theorem zu6(l:List Fz)(many words:Nat)(hl:l.length≤many)(hm:many≤1000):Za T 286 [.sl (Zc l) .an,.i .i64 many,.i .i64 words]=some (.b (Zan l many words)):=by
 have h:=zu5 (T:=T) l many words hl hm;rw[Y3]at h;unfold Zhn at h;simp only[Yl]at h;have h1:¬ (many:Int)<l.length:=by omega
 have h2:¬ many<l.length:=by omega
 unfold Zan;rw[zaa Zac.h286 rfl,b286];cases hc:l.any fun x=>decide (words<fsz x) with
 | true=>
  rw[hc,if_pos rfl]at h;simp -implicitDefEqProofs[h,h2]
 | false=>
  rw[hc,if_neg (by decide)]at h;simp -implicitDefEqProofs[h,h1,h2]
theorem zu7(l:List Fz)(many words:Nat)(hl:many<l.length)(hm:many≤1000) :
  ∃r,(r=some (.r,(⟨[(6,.b true)],[],2⟩:St))∨r=some (.n,⟨[(0,.sl (Zc l) .an),(1,.i .i64 many)],[],2⟩))∧Ze T 0 0 (.norm false [0,1]) l286_0 (Zhn l many words 0)=r:=by
 obtain⟨G,hG⟩:∃G:Nat→Option (Ex×St),G=fun i=>if ((l.take many).drop i).any (fun x=>decide (words<fsz x))=true then some (.r,⟨[(6,.b true)],[],2⟩) else some (.n,⟨[(0,.sl (Zc l) .an),(1,.i .i64 many)],[],2⟩):=⟨_,rfl⟩
 refine⟨G 0,?_,zak (Zhn l many words) many G (fun i hi=>?_) ?_⟩
 ·grind
 ·have hil:i<l.length:=by omega
  have hil':(i:Int)<l.length:=by omega
  have hga:l[i]? = some (l[i]'hil):=Ya hil;have hws:=zaz hi (by omega);have c:=zd1 (T:=T) (l[i]'hil) words;have key:((l.take many).drop i).any (fun x=>decide (words<fsz x))=(decide (words<fsz (l[i]'hil)) || ((l.take many).drop (i+1)).any fun x=>decide (words<fsz x)):=by
   grind[List.drop_eq_getElem_cons]
  by_cases he:words<fsz (l[i]'hil)
  ·right;rw[hG];simp only;rw[if_pos (by rw[key,decide_eq_true he,Yeq])];rw[decide_eq_true he]at c;unfold Zhn;clear key he hG;constructor<;>simp -implicitDefEqProofs[l286_0,hi,hil,hil',c]
  ·left;refine⟨?_,by grind⟩;rw[decide_eq_false he]at c;unfold Zhn;clear key he hG;simp -implicitDefEqProofs[l286_0,hi,hil,hil',hws,c]
 ·rw[hG];simp only;rw[Yas (by grind),if_neg (by simp)];have h1:(many:Int)<l.length:=by omega
  unfold Zhn;constructor<;>simp -implicitDefEqProofs[l286_0,h1]
theorem zq2(l:List Fz)(many words:Nat)(hl:many<l.length)(hm:many≤1000):Za T 286 [.sl (Zc l) .an,.i .i64 many,.i .i64 words]=some (.b true):=by
 obtain⟨r,hr,h⟩:=zu7 (T:=T) l many words hl hm;unfold Zhn at h;simp only[Yl]at h;have h1:(many:Int)<l.length:=by omega
 rw[zaa Zac.h286 rfl,b286];rcases hr with rfl | rfl
 ·simp -implicitDefEqProofs[h]
 ·simp -implicitDefEqProofs[h,hl]
theorem zbr(l:List Fz)(many words:Nat)(hm:many≤1000):Za T 286 [.sl (Zc l) .an,.i .i64 many,.i .i64 words]=some (.b (Zan l many words)):=by
 grind[zq2,Zan,zu6]
theorem zbe{l:List Fz}{many words:Nat}(h:Zan l many words=false):l.length≤many∧∀x∈l,fsz x≤words:=by
 grind[Zan]
end
end Go.Ab
end
section
namespace Go.Ab
theorem z79{x j:Nat}(h1:2^j≤x)(h2:x<2^(j+1)):Za2 x=j+1:=by
 have hx:x≠0:=by
  have:=Ya2 (n:=j) (show 0<2 by decide);omega
 unfold Za2;rw[if_neg hx,(Nat.log2_eq_iff hx).2 ⟨h1,h2⟩]
def Zkt(n:Int):Nat:=(min (max n 0) 300).toNat
section
variable{T:Tbl}[Zy T]
theorem z34(a:List UInt32)(hl:a.length≤1000000):∀y:Nat,(y≤32*a.length∧val a<2^y)→Ze T 0 0 (.norm false [3]) l95_0 (Zih a y)=some (.n,⟨[(3,.i .i64 (Za2 (val a)))],[],2⟩):=by
 refine zav (Zih a) (fun y=>y≤32*a.length∧val a<2^y) (fun y=>y) (fun _=>_) ?_
 rintro k ⟨hk,hv⟩
 by_cases h0:k=0
 ·right;subst h0;have hz:val a=0:=by
   rw[Ydi]at hv;omega
  have hb:Za2 (val a)=0:=by rw[hz];rfl
  rw[hb];constructor<;>simp -implicitDefEqProofs[l95_0,Zih]
 ·obtain⟨j,rfl⟩:∃j,k=j+1:=⟨k-1,by omega⟩;have hw:IntKind.wrap .i64 (j:Int)=(j:Int):=zac _ (by omega);have hh:=zoz (T:=T) a j hl (by omega);have hp:(0:Int)<(j:Int)+1:=by omega
  by_cases h1:val a/2^j%2=1
  ·right;have hge:2^j≤val a:=by
    rcases Ys (val a) (2^j) with h | h
    ·rw[Ybb h]at h1;omega
    ·exact h
   rw[z79 hge hv];clear hge hv;constructor<;>simp -implicitDefEqProofs[l95_0,Zih,hw,hh,hp,h1]
  ·left;refine⟨j,⟨by omega,zpm hv (by generalize val a/2^j=q at *;omega)⟩,by omega,?_,rfl⟩;clear hv;simp -implicitDefEqProofs[l95_0,Zih,hw,hh,hp,h1]
theorem zll(a:List UInt32)(hl:a.length≤1000000):Za T 95 [.sl (Zb a) .an]=some (.i .i64 (Za2 (val a))):=by
 have hr:=z34 (T:=T) a hl (32*a.length) ⟨Yg _,by rw[←zpk];exact za0 a⟩;unfold Zih at hr;simp at hr;have hw:IntKind.wrap .i64 (32*(a.length:Int))=32*(a.length:Int):=by
  have:=zac (32*a.length) (by omega);simpa using this
 rw[zaa Zy.h95 rfl,b95];simp -implicitDefEqProofs[hr,hw]
end
section
variable{T:Tbl}[Zs T][Z2 T][Z4 T][Zu T][Zw T][Za0 T][Zf T][Zl T][Zp T][Zaz T][Zbr T]
def Zqs(n i:Int):List Rat:=if 0≤i∧i<Zkt n then (List.replicate (Zkt n) 0).set i.toNat 1 else List.replicate (Zkt n) 0
end
section
variable{T:Tbl}[Z0 T][Z7 T][Zy T][Zaa T][Zz T][Zab T][Zk T][Zac T]
def Zqt(n:Int)(i:Nat):St:=⟨[(0,.i .i64 n),(3,.bs (.loc 3) 1 3 0 i),(4,.i .i64 i)],[(.loc 3,⟨1,.own,3,Zc (List.replicate i (fz 0))⟩)],3⟩
end
end Go.Ab
end
section
namespace Go.Ab
theorem zez{m:List (List Fz)}{n:Nat}(h:m.length=n)(r:List Fz):wkL (Zv (List.take n m)++[[.sl (Zc r) .an]])=Zv (m++[r]):=by
 rw[Yb (by omega),z1e,z8s]
theorem ze0{α:Type}(l:List α){i:Nat}(h:i<l.length):l.take (i+1)=l.take i++[l[i]'h]:=Yz h
section
variable{T:Tbl}[Z0 T][Z7 T][Zy T][Zaa T][Zz T][Zab T][Zk T][Zac T][Zb1 T][Zbq T]
theorem zdm(x:Fz):Za T 248 [efz x]=some (efz x):=by
 rw[zaa Zb1.h248 rfl,b248];simp -implicitDefEqProofs
theorem zmm(x:Fz):Za T 249 [efz x]=some (efz x):=by
 rw[zaa Zb1.h249 rfl,b249];simp -implicitDefEqProofs
def Zia(l:List Fz)(i:Nat):St:=⟨[(0,.sl (Zc l) .an),(3,.bs (.loc 3) 1 3 0 i),(4,.i .i64 i)],[((.loc 3),⟨1,.own,3,Zc (l.take i)⟩)],3⟩
theorem zye(l:List Fz)(hl:l.length≤4294967296) :
  Ze T 0 0 (.norm false [3]) l287_0 (Zia l 0)=some (.n,⟨[(3,.bs (.loc 3) 1 3 0 (l.length))],[((.loc 3),⟨1,.own,3,Zc (l.take (l.length))⟩)],3⟩):=by
 refine zai (Zia l) (l.length) _ (fun i hi=>?_) ?_
 ·have hws:=zaz hi (by omega);have hb:i≤4294967295:=by omega
  have hg:l[i]? = some (l[i]'hi):=Ya hi;have hn:=zdm (T:=T) (l[i]'hi);have e:=ze0 l hi;have hml:(l.take i).length=i:=by simp;omega
  have hp:=zba hml (l[i]'hi);unfold Zia;rw[e];clear e;generalize l.take i=M at *
  simp -implicitDefEqProofs[l287_0,hi,hws,hb,hp,hml,hg,hn]
 ·unfold Zia;rw[Yb (Yg _)];constructor<;>simp -implicitDefEqProofs[l287_0]
theorem zel(l:List Fz)(hl:l.length≤4294967296):Za T 287 [.sl (Zc l) .an]=some (.sl (Zc l) .an):=by
 have h:=zye (T:=T) l hl;unfold Zia at h;rw[Ya4,Yb (Yg _)]at h;simp only[zau,Yl]at h;have ht:List.take l.length l=l:=Yb (Yg _);rw[zaa Zbq.h287 rfl,b287];simp -implicitDefEqProofs[h,ht]
def Zib(l:List Fz)(i:Nat):St:=⟨[(0,.sl (Zc l) .an),(3,.bs (.loc 3) 1 3 0 i),(4,.i .i64 i)],[((.loc 3),⟨1,.own,3,Zc (l.take i)⟩)],3⟩
theorem zyf(l:List Fz)(hl:l.length≤4294967296) :
  Ze T 0 0 (.norm false [3]) l288_0 (Zib l 0)=some (.n,⟨[(3,.bs (.loc 3) 1 3 0 (l.length))],[((.loc 3),⟨1,.own,3,Zc (l.take (l.length))⟩)],3⟩):=by
 refine zai (Zib l) (l.length) _ (fun i hi=>?_) ?_
 ·have hws:=zaz hi (by omega);have hb:i≤4294967295:=by omega
  have hg:l[i]? = some (l[i]'hi):=Ya hi;have hn:=zmm (T:=T) (l[i]'hi);have e:=ze0 l hi;have hml:(l.take i).length=i:=by simp;omega
  have hp:=zba hml (l[i]'hi);unfold Zib;rw[e];clear e;generalize l.take i=M at *
  simp -implicitDefEqProofs[l288_0,hi,hws,hb,hp,hml,hg,hn]
 ·unfold Zib;rw[Yb (Yg _)];constructor<;>simp -implicitDefEqProofs[l288_0]
theorem zgq(l:List Fz)(hl:l.length≤4294967296):Za T 288 [.sl (Zc l) .an]=some (.sl (Zc l) .an):=by
 have h:=zyf (T:=T) l hl;unfold Zib at h;rw[Ya4,Yb (Yg _)]at h;simp only[zau,Yl]at h;have ht:List.take l.length l=l:=Yb (Yg _);rw[zaa Zbq.h288 rfl,b288];simp -implicitDefEqProofs[h,ht]
theorem zsh(a b:List Fz)(hl:a.length≤1000)(ha:∀x∈a,fsz x≤10000):Za T 289 [.sl (Zc a) .an,.sl (Zc b) .an]=some (.b (decide (a=b))):=by
 have h1:=zgq (T:=T) a (by omega);have h2:=zcc (T:=T) a b hl ha;rw[zaa Zbq.h289 rfl,b289];simp -implicitDefEqProofs[h1,h2]
end
end Go.Ab
end
section
namespace Go.Ab
def Zn9:List (List Fz)→Nat
 | []=>0
 | r::_=>r.length
def Zpj(m:List (List Fz)):Bool:=m.all fun r=>decide (r.length=Zn9 m)
def Zoo(m:List (List Fz))(j:Nat):List Fz:=m.map fun r=>r.getD j (false,[],[])
def Zop(m:List (List Fz))(k:Nat):List (List Fz):=(List.range k).map fun j=>nrm (Zoo m j)
def scM(r:List Fz)(m:List (List Fz)):List (List Fz):=List.zipWith (fun x row=>scl (fv x) row) r m
def Zpk:List (List Fz)→List Rat
 | []=>[]
 | r::m=>m.foldl Znj (r.map fv)
def Zoq(r:List Fz)(m:List (List Fz)):List Rat:=Zpk (scM r m)
def Zoa(m:List (List Fz))(c:List Fz):List Rat:=m.map fun r=>Zks r c
section
variable{T:Tbl}[Zs T][Z2 T][Z4 T][Zu T][Zw T][Za0 T][Zf T][Zl T][Zp T][Zaz T][Zbr T][Zgp T]
def Zp6(m:List (List Fz))(i:Nat):St:=⟨[(0,.sl (Zv m) .an),(5,.sl (Zv m) .an),(6,.i .i64 m.length),(7,.i .i64 i)],[],2⟩
def Zp7(a b:List (List Fz))(i:Nat):St:=⟨[(1,.sl (Zv b) .an),(12,.sl (Zv a) .an),(13,.i .i64 a.length),(14,.i .i64 i)],[],2⟩
def idQ(k:Nat)(i:Nat):List (List Fz):=(List.range i).map fun j=>fzs ((List.replicate k 0).set j 1)
def Zp8(k:Nat)(i:Nat):St:=⟨[(0,.i .i64 k),(3,.bs (.loc 3) 1 1 0 i),(8,.i .i64 k),(9,.i .i64 i)],[((.loc 3),⟨1,.own,1,Zv (idQ k i)⟩)],3⟩
def Zp9(m R:List (List Fz))(k j:Nat)(i:Nat):St:=⟨[(0,.sl (Zv m) .an),(3,.bs (.loc 3) 1 1 0 j),(4,.i .i64 j),(5,.bs (.loc 5) 2 3 0 i),(12,.i .i64 k),(13,.i .i64 j),(16,.sl (Zv m) .an),(17,.i .i64 m.length),(18,.i .i64 i)],[(.loc 3,⟨1,.own,1,Zv R⟩),((.loc 5),⟨2,.own,3,Zc (nrm (Zoo (m.take i) j))⟩)],4⟩
def Zpa(m:List (List Fz))(k:Nat)(i:Nat):St:=⟨[(0,.sl (Zv m) .an),(3,.bs (.loc 3) 1 1 0 i),(12,.i .i64 k),(13,.i .i64 i)],[((.loc 3),⟨1,.own,1,Zv (Zop m i)⟩)],3⟩
end
end Go.Ab
end
section
namespace Go.Ab
section
variable{T:Tbl}[Zs T][Z2 T][Z4 T][Zu T][Zw T][Za0 T][Zf T][Zl T][Zp T][Zaz T][Zbr T][Zgp T]
def Zqa(r:List Fz)(m:List (List Fz))(i:Nat):St:=⟨[(0,.sl (Zc r) .an),(6,.bs (.loc 6) 1 1 0 i),(19,.sl (Zv m) .an),(20,.i .i64 m.length),(21,.i .i64 i)],[((.loc 6),⟨1,.own,1,Zv (scM (r.take i) (m.take i))⟩)],3⟩
def Zqb(m:List (List Fz))(c:List Fz)(i:Nat):St:=⟨[(1,.sl (Zc c) .an),(6,.bs (.loc 6) 1 3 0 i),(21,.sl (Zv m) .an),(22,.i .i64 m.length),(23,.i .i64 i)],[((.loc 6),⟨1,.own,3,Zc (fzs (Zoa (m.take i) c))⟩)],3⟩
def Zpl(a b:List (List Fz)):List (List Fz):=a.map fun r=>fzs (Zoq r b)
def Zqc(a m:List (List Fz))(i:Nat):St:=⟨[(1,.sl (Zv m) .an),(6,.bs (.loc 6) 1 1 0 i),(26,.sl (Zv a) .an),(27,.i .i64 a.length),(28,.i .i64 i)],[((.loc 6),⟨1,.own,1,Zv (Zpl (a.take i) m)⟩)],3⟩
def Zpm(a b:List (List Fz)):List (List Fz):=List.zipWith (fun r s=>fzs (Znj (r.map fv) s)) a b
def Zqd(a m:List (List Fz))(i:Nat):St:=⟨[(1,.sl (Zv m) .an),(6,.bs (.loc 6) 1 1 0 i),(33,.sl (Zv a) .an),(34,.i .i64 a.length),(35,.i .i64 i)],[((.loc 6),⟨1,.own,1,Zv (Zpm (a.take i) (m.take i))⟩)],3⟩
end
end Go.Ab
end
section
namespace Go.Ab
def Zo2:List Rat→List Rat→Rat
 | x::a,y::b=>x*y+Zo2 a b
 | _,_=>0
def Zpx(m:List (List Fz)):List (List Rat):=m.map fun r=>r.map fv
def fzM(L:List (List Rat)):List (List Fz):=L.map fzs
def Zm2:List (List Rat)→Nat
 | []=>0
 | r::_=>r.length
def Zpy(L:List (List Rat)):Bool:=L.all fun r=>decide (r.length=Zm2 L)
def Zob(L:List (List Rat))(j:Nat):List Rat:=L.map fun p=>p.getD j 0
def Zo3(L:List (List Rat)):List (List Rat):=(List.range (Zm2 L)).map (Zob L)
def Zm3(L:List (List Rat))(c:List Rat):List Rat:=L.map fun p=>Zo2 p c
def Zqw(r:List Rat)(L:List (List Rat)):List Rat:=Zm3 (Zo3 L) r
end Go.Ab
end
section
namespace Go.Ab
def Zon(q:Rat):Rat:=if q<0 then -q else q
end Go.Ab
end
section
namespace Go.Ab
def Zo5(c:Rat)(l:List Rat):List Rat:=l.map fun x=>c*x
def Zpz(a b:List Rat):List Rat:=List.zipWith (· + ·) a b
def Znn(b x:Rat):Rat:=if b<Zon x then Zon x else b
def Zn1(l:List Rat):Rat:=l.foldl Znn 0
def Zp0:List (Rat×List Rat)→List Rat→List Rat
 | [],acc=>acc
 | p::l,acc=>Zp0 l (Zpz acc (Zo5 p.1 p.2))
end Go.Ab
end
section
namespace Go.Ab
def sqC:List UInt32→Nat
 | []=>0
 | x::r=>4294967296*(x.toNat*val r)+4294967296*4294967296*sqC r
def sqD:List UInt32→Nat
 | []=>0
 | x::r=>x.toNat*x.toNat+4294967296*4294967296*sqD r
section
variable{T:Tbl}[Zaj T][Zs T][Z2 T][Z4 T][Zdh T]
theorem zso(a:List UInt32)(ha:a.length≤1000000):Za T 356 [.sl (Zb a) .an]=some (.i .i64 (Za2 (val a))):=by
 have h1:=zbv (T:=T) a (by omega);have hl:=zad a;have hv:val (ofN (val a))=val a:=zae _;rw[zaa Zdh.h356 rfl,b356];by_cases h0:val a=0
 ·have e:ofN (val a)=[]:=zaw.2 h0;have eb:Za2 (val a)=0:=by rw[h0];rfl
  rw[e]at h1;rw[eb];simp -implicitDefEqProofs[h1]
 ·have hne:ofN (val a)≠[]:=fun h=>h0 (zaw.1 h);obtain⟨B,x,hB⟩:∃B x,ofN (val a)=B++[x]:=⟨_,_,(List.dropLast_concat_getLast hne).symm⟩;have hx0:x.toNat≠0:=by
   intro hx;have e1:val (ofN (val a))=val B:=by
    rw[hB,zaj];simp[hx]
   have e2:ofN (val B)=ofN (val a):=by rw[←e1,zae]
   have e3:=zad B;rw[e2,hB]at e3;simp at e3;omega
  have hlog:Za2 (val a)=32*B.length+Za2 x.toNat:=by
   have hdiv:val a/2^(32*B.length)=x.toNat:=by
    have e1:val a=val B+4294967296^B.length*x.toNat:=by
     rw[←hv,hB,zaj];simp
    have e2:2^(32*B.length)=4294967296^B.length:=by
     rw[Ydh]
    have e3:=za0 B;rw[e2,e1,Ybx _ _ (by omega),Ybb e3,Yan]
   have:=zld (n:=val a) (s:=32*B.length) (by rw[hdiv];exact hx0);rw[hdiv]at this;exact this
  have hbl:B.length+1≤1000000:=by
   have:=congrArg List.length hB;simp at this;omega
  have hL:=zsm (T:=T) x;have hb32:Za2 x.toNat≤32:=by
   have hx:=zam x;unfold Za2;split
   ·omega
   ·have:=(Yec (n:=x.toNat) (k:=32) (by assumption)).2 (by omega);omega
  rw[hB]at h1;rw[hlog];have w2:IntKind.wrap .i64 (32*(B.length:Int))=32*(B.length:Int):=zac _ (by omega);have w3:IntKind.wrap .i64 (32*(B.length:Int)+(Za2 x.toNat:Int))=32*(B.length:Int)+(Za2 x.toNat:Int):=zac _ (by omega);have w4:IntKind.wrap .i64 (B.length:Int)=B.length:=zac _ (by omega);have n1:¬ (B.length:Int)+1=0:=by omega
  have n2:(B.length:Int)<(B.length:Int)+1:=by omega
  simp -implicitDefEqProofs[h1,hL,w2,w3,w4,n1,n2]
def Zqi(a X:List UInt32)(i:Nat):St:=
 ⟨[(0,.sl (Zb a) .an),(3,.bs (.loc 14) 1 1 0 (2*a.length+1)),(15,.sl (Zb a) .an),(16,.i .i64 a.length),(17,.i .i64 i)],[(.loc 14,⟨1,.own,1,Zb (X++List.replicate (a.length+1-i) 0)⟩)],3⟩
def Zqj(a X:List UInt32)(U:List (List AV))(i:Nat):St:=
 ⟨[(6,.sl U .an),(7,.bs (.loc 38) 1 1 0 (2*a.length)),(39,.sl (Zb a) .an),(40,.i .i64 a.length),(41,.i .i64 i)],[(.loc 38,⟨1,.own,1,Zb (X++List.replicate (2*a.length-2*i) 0)⟩)],3⟩
end
end Go.Ab
end
section
namespace Go.Ab
section
variable{T:Tbl}[Z0 T][Z7 T][Zy T][Zaa T][Zz T][Zab T][Zk T][Zac T][Zfq T]
def Zql(m:List (List Fz))(i:Nat):St:=⟨[(0,.sl (Zv m) .an),(3,.i .i64 i)],[],2⟩
def Zqm(m:List (List Fz))(i:Nat):St:=⟨[(0,.sl (Zv m) .an),(3,.bs (.loc 3) 1 1 0 i),(4,.i .i64 i)],[((.loc 3),⟨1,.own,1,Zv (fzM (Zpx (m.take i)))⟩)],3⟩
def Zqn(a b:List (List Fz))(i:Nat):St:=⟨[(0,.sl (Zv a) .an),(1,.sl (Zv b) .an),(5,.i .i64 i)],[],2⟩
def Zqo(n:Int)(k:Nat)(i:Nat):St:=⟨[(0,.i .i64 n),(3,.bs (.loc 3) 1 1 0 i),(4,.i .i64 i)],[((.loc 3),⟨1,.own,1,Zv (idQ k i)⟩)],3⟩
def Zpo(L:List (List Rat))(R:List (List Fz))(j:Nat)(i:Nat):St:=⟨[(0,.sl (Zv (fzM L)) .an),(3,.bs (.loc 3) 1 1 0 j),(4,.i .i64 j),(5,.bs (.loc 5) 2 3 0 i),(6,.i .i64 i)],[(.loc 3,⟨1,.own,1,Zv R⟩),((.loc 5),⟨2,.own,3,Zc (fzs (Zob (L.take i) j))⟩)],4⟩
def Zpp(L:List (List Rat))(i:Nat):St:=⟨[(0,.sl (Zv (fzM L)) .an),(3,.bs (.loc 3) 1 1 0 i),(4,.i .i64 i)],[((.loc 3),⟨1,.own,1,Zv (fzM ((List.range i).map (Zob L)))⟩)],3⟩
def Zqp(L:List (List Rat))(c:List Rat)(i:Nat):St:=⟨[(0,.sl (Zv (fzM L)) .an),(1,.sl (Zc (fzs c)) .an),(5,.bs (.loc 5) 1 3 0 i),(6,.i .i64 i)],[((.loc 5),⟨1,.own,3,Zc (fzs (Zm3 (L.take i) c))⟩)],3⟩
def Zqq(m:List (List Fz))(many words:Nat):Bool:=decide (many<m.length) || m.any fun r=>Zan r many words
def Zqr(m:List (List Fz))(many words:Nat)(i:Nat):St:=⟨[(0,.sl (Zv m) .an),(1,.i .i64 many),(2,.i .i64 words),(7,.i .i64 i)],[],2⟩
end
end Go.Ab
end
section
namespace Go.Ab
theorem zje{l:List Rat}{B:Nat}(h:∀q∈l,sz q≤B):∀x∈fzs l,fsz x≤B:=by
 intro x hx;obtain⟨q,hq,rfl⟩:=Yx.1 hx;exact h q hq
section
variable{T:Tbl}[Zs T][Z2 T][Z4 T][Zu T][Zw T][Za0 T][Zf T][Zl T][Zp T][Zaz T][Zbr T][Zgp T][Z0 T][Z7 T][Zy T][Zaa T][Zz T][Zab T][Zk T][Zac T][Zfq T][Zb1 T][Zbq T][Zei T]
def Zic(m:List (List Fz))(i:Nat):St:=⟨[(0,.sl (Zv m) .an),(3,.bs (.loc 3) 1 1 0 i),(4,.i .i64 i)],[((.loc 3),⟨1,.own,1,Zv (m.take i)⟩)],3⟩
theorem zyg(m:List (List Fz))(hl:m.length≤1000000)(hw:∀r∈m,r.length≤1000000) :
  Ze T 0 0 (.norm false [3]) l308_0 (Zic m 0)=some (.n,⟨[(3,.bs (.loc 3) 1 1 0 (m.length))],[((.loc 3),⟨1,.own,1,Zv (m.take (m.length))⟩)],3⟩):=by
 refine zai (Zic m) (m.length) _ (fun i hi=>?_) ?_
 ·have hws:=zaz hi (by omega);have hb:i≤4294967295:=by omega
  have hn:=zel (T:=T) (m[i]'hi) (Yc (hw _ (Yi hi)) (by decide));have e:=ze0 m hi;have hml:(m.take i).length=i:=by grind
  have hp:=zez hml (m[i]'hi);unfold Zic;simp -implicitDefEqProofs[l308_0,hi,hws,hb,hp,hml,hn]
 ·unfold Zic;rw[Yb (Yg _)];constructor<;>simp -implicitDefEqProofs[l308_0]
theorem z2q(m:List (List Fz))(hl:m.length≤1000000)(hw:∀r∈m,r.length≤1000000):Za T 308 [.sl (Zv m) .an]=some (.sl (Zv m) .an):=by
 have h:=zyg (T:=T) m hl hw;unfold Zic at h;rw[Ya4,Yb (Yg _)]at h;simp only[zm3,Yl]at h;have ht:List.take m.length m=m:=Yb (Yg _);rw[zaa Zei.h308 rfl,b308];simp -implicitDefEqProofs[h,ht]
def Zpn(a b:List (List Fz))(i:Nat):St:=⟨[(0,.sl (Zv a) .an),(1,.sl (Zv b) .an),(5,.i .i64 i)],[],2⟩
theorem sz3:sz 3≤1:=by
 unfold sz;rw[show (3:Rat).num=3 from rfl,show (3:Rat).den=1 from rfl,zdh,show (3:Int).natAbs=3 from rfl]
 grind[zan]
theorem z60{q:Rat}(h1:q.num.natAbs<4294967296)(h2:q.den<4294967296):sz q≤1:=Yd6.2 ⟨zan (by omega),zan (by omega)⟩
theorem zof(n:Nat)(h:n<10):Zgt (n:Rat)=[UInt8.ofNat (48+n)]:=by
 grind[Zgt,Rat.den_natCast,Rat.num_natCast,Zgu,zep]
end
end Go.Ab
end
section
namespace Go.Ab
class Zog (T:Tbl):Prop where
end Go.Ab
end
section
namespace Go.Ab
def Zgh(l:List Rat):Nat→Nat
 | 0=>0
 | n+1=>if l.getD n 0=0 then Zgh l n else n+1
theorem zy6(l:List Rat):∀n,Zgh l n≤n
 | 0=>Yg _
 | n+1=>by
  unfold Zgh;split
  ·exact Nat.le_succ_of_le (zy6 l n)
  ·exact Yg _
def Zbh(l:List Rat):List Rat:=l.take (Zgh l l.length)
theorem zor(M:List Fz):Option.all (fun r:List AV=>decide (r.length=3)) (Zc M).head? = true:=by cases M<;>rfl
theorem zos{k:Int}(h1:-100≤k)(h2:k≤100):sz (k:Rat)≤1:=by
 unfold sz;rw[Rat.num_intCast,Rat.den_intCast,zdh];exact Yd6.2 ⟨zan (by omega),Yg _⟩
section
variable{T:Tbl}[Zs T][Z2 T][Z4 T][Zu T][Zw T][Za0 T][Zf T][Zl T][Zp T][Zaz T][Zbr T][Zog T]
def Zir:List Rat→Rat→Rat
 | [],_=>0
 | a::l,x=>Zir l x*x+a
def dif(l:List Rat):List Rat:=(List.range (l.length-1)).map fun(i:Nat)=>(((i:Int)+1:Int):Rat)*l.getD (i+1) 0
def Zq7(l:List Fz)(i:Nat):St:=⟨[(0,.sl (Zc l) .an),(3,.bs (.loc 3) 1 3 0 i),(4,.i .i64 ((i:Int)+1))],[((.loc 3),⟨1,.own,3,Zc (fzs ((dif (l.map fv)).take i))⟩)],3⟩
theorem zhi(l:List Rat):(dif l).length=l.length-1:=by simp[dif]
theorem zacb{l:List Rat}{B:Nat}(hl:l.length≤90)(hB:1≤B)(h:∀q∈l,sz q≤B):∀q∈dif l,sz q≤1+B:=by
 intro q hq;obtain⟨i,hi,rfl⟩:=Yx.1 hq;have hi:=List.mem_range.1 hi;have hd:l.getD (i+1) 0=l[i+1]'(by omega):=by simp[Ybc,Ya (show i+1<l.length by omega)]
 have h1:=h _ (Yi (show i+1<l.length by omega));have h2:=zos (k:=(i:Int)+1) (by omega) (by omega);have h3:=zct (((i:Int)+1:Int):Rat) (l.getD (i+1) 0);rw[hd]at h3 ⊢;omega
end
end Go.Ab
end
section
namespace Go.Ab
def Zci(x:Fz):Nat:=Za2 (val x.2.1)+Za2 (val x.2.2)
def Zpr(l:List Fz):Nat:=l.foldl (fun n x=>max n (Zci x)) 0
theorem zih{x k:Nat}(h:(ofN x).length≤k):Za2 x≤32*k:=by
 unfold Za2;split
 ·omega
 ·next h0=>
  have h1:=za0 (ofN x);rw[zae]at h1;have h2:4294967296^(ofN x).length≤4294967296^k:=Yu (by decide) h;have h3:(4294967296:Nat)^k=2^(32*k):=by rw[Ydh]
  have:=(Yec (n:=x) (k:=32*k) h0).2 (by omega);omega
section
variable{T:Tbl}[Zaj T][Zs T][Z2 T][Z4 T][Zu T][Zw T][Za0 T][Zf T][Zl T][Zp T][Ze6 T][Za4 T][Zdh T][Zaz T][Zbr T][Zoi T]
def Zos(b c:Rat)(i:Nat):Rat:=if i=0 then 0 else if i=1 then b else (if b<c then c else b)
def Zrg(b c:Rat)(i:Nat):St:=⟨[(2,.ptr (.loc 2) 1 3 0 0),(3,.ptr (.loc 3) 2 3 0 0),(7,.sl [Z1 (fz b),Z1 (fz c)] .an),(8,.i .i64 2),(9,.i .i64 i)],
 [(.loc 2,⟨1,.str,3,[Zdi]⟩),(.loc 3,⟨2,.str,3,[Z1 (fz (Zos b c i))]⟩)],4⟩
def Zrh(l:List Fz)(i:Nat):St:=⟨[(2,.ptr (.loc 2) 1 3 0 0),(3,.ptr (.loc 3) 2 3 0 0),(7,.sl (Zc l) .an),(8,.i .i64 l.length),(9,.i .i64 i)],
 [(.loc 2,⟨1,.str,3,[Zdi]⟩),(.loc 3,⟨2,.str,3,[Z1 (fz (Zn1 ((l.map fv).take i)))]⟩)],4⟩
def Zri(l:List Fz)(i:Nat):St:=⟨[(3,.i .i64 (Zpr (l.take i))),(6,.sl (Zc l) .an),(7,.i .i64 l.length),(8,.i .i64 i)],[],2⟩
end
section
variable{T:Tbl}[Z0 T][Z7 T][Zy T][Zaa T][Zz T][Zab T][Zk T][Zac T][Zcw T]
theorem z8a(p q:Rat)(hp:sz p≤1000)(hq:sz q≤1000):Za T 240 [efz (fz p),efz (fz q)]=some (efz (fz (p-q))):=by
 have c1:=zgw (T:=T) (fz q) (by rw[zar];omega);rw[za7]at c1;have c2:=zb2 (T:=T) p (-q) hp (by rw[zh7];omega);rw[←Ycp]at c2;rw[zaa Zk.h240 rfl,b240];simp -implicitDefEqProofs[c1,c2]
theorem zsv(q:Rat):Za T 236 [efz (fz q)]=some (.i .i64 (sgQ q)):=by
 have h:((fz q).2.1.length=0)↔q=0:=by
  constructor
  ·intro h;have h1:(ofN q.num.natAbs).length=0:=h;have h2:val (ofN q.num.natAbs)=0:=by simp_all
   rw[zae]at h2
   simp_all
  ·intro h;rw[h,zkd]
   rfl
 have hs:(fz q).1=decide (q.num<0):=rfl;rw[zaa Zk.h236 rfl,b236];by_cases hz:q=0
 ·have h1:=h.2 hz;have h3:sgQ q=0:=zdp.2 hz;rw[h3];simp -implicitDefEqProofs[h1]
 ·have h1:¬ (fz q).2.1.length=0:=fun x=>hz (h.1 x);have h4:q.num≠0:=fun x=>hz (zdp.1 (zm2.2 x));by_cases hn:q.num<0
  ·have h3:sgQ q=-1:=by
    have a1:=z1d.2 hn;have a2:sgI q.num=-1∨sgI q.num=0∨sgI q.num=1:=by unfold sgI;omega
    show sgI q.num=-1;omega
   rw[decide_eq_true hn]at hs;rw[h3];simp -implicitDefEqProofs[h1,hs]
  ·have h3:sgQ q=1:=by
    have a1:=z1c.2 (show 0<q.num by omega);have a2:sgI q.num=-1∨sgI q.num=0∨sgI q.num=1:=by unfold sgI;omega
    show sgI q.num=1;omega
   rw[decide_eq_false hn]at hs;rw[h3];simp -implicitDefEqProofs[h1,hs]
theorem zhm(p q:Rat)(hp:sz p≤1000)(hq:sz q≤1000):Za T 243 [efz (fz p),efz (fz q)]=some (.i .i64 (sgQ (p-q))):=by
 have c1:=z8a (T:=T) p q hp hq;have c2:=zsv (T:=T) (p-q);rw[zaa Zcw.h243 rfl,b243];simp -implicitDefEqProofs[c1,c2]
theorem zlm(x:Fz)(hx:fsz x≤10000):Za T 245 [efz x]=some (.i .i64 (Zci x)):=by
 have h1:=zcu x;have h2:=zc0 x;have c1:=zll (T:=T) x.2.1 (by omega);have c2:=zll (T:=T) x.2.2 (by omega);have b1:=zih (x:=val x.2.1) (k:=10000) (Yc (zad x.2.1) (by omega));have b2:=zih (x:=val x.2.2) (k:=10000) (Yc (zad x.2.2) (by omega));have w:IntKind.wrap .i64 ((Za2 (val x.2.1):Int)+(Za2 (val x.2.2):Int))=((Zci x:Nat):Int):=by
  grind[Zci,zac]
 rw[zaa Zcw.h245 rfl,b245];simp -implicitDefEqProofs[c1,c2,w]
def Zrj(c:Rat)(p:List Rat)(i:Nat):St:=⟨[(1,.sl (Zc (fzs p)) .an),(2,.ptr (.loc 2) 1 3 0 0),(5,.bs (.loc 5) 2 3 0 i),(6,.i .i64 i)],
 [(.loc 2,⟨1,.str,3,[Z1 (fz c)]⟩),(.loc 5,⟨2,.own,3,Zc (fzs ((Zo5 c p).take i))⟩)],4⟩
def Zrk(p:List Rat)(i:Nat):St:=⟨[(0,.sl (Zc (fzs p)) .an),(2,.ptr (.loc 2) 1 3 0 0),(3,.ptr (.loc 3) 2 3 0 0),(4,.i .i64 i)],
 [(.loc 2,⟨1,.str,3,[Zdi]⟩),(.loc 3,⟨2,.str,3,[Z1 (fz (Zn1 (p.take i)))]⟩)],4⟩
end
end Go.Ab
end
section
namespace Go.Ab
structure Ins where
 op:Int
 a:Int
 b:Int
 n:Fz
abbrev Zfa(i:Ins):List AV:=[.i .i64 i.op,.i .i64 i.a,.i .i64 i.b,.b i.n.1,.sl (Zb i.n.2.1) .an,.sl (Zb i.n.2.2) .an]
def Zc9(l:List Ins):List (List AV):=l.map Zfa
@[simp] theorem z8u(l:List Ins):(Zc9 l).length=l.length:=by simp[Zc9]
@[simp] theorem z8v(l:List Ins):wkL (Zc9 l)=Zc9 l:=by rw[zb9];simp[Zc9,wkR,wkA]
@[simp] theorem zafu(l:List Ins)(i:Nat)(h:i<(Zc9 l).length):(Zc9 l)[i]=Zfa (l[i]'(by simpa using h)):=by simp[Zc9]
theorem z1j(l:List Ins)(x:Ins):Zc9 l++[Zfa x]=Zc9 (l++[x]):=by simp[Zc9]
@[simp] theorem zac6(l:List Ins)(n:Nat):(Zc9 l).take n=Zc9 (l.take n):=by simp[Zc9]
@[simp] theorem z4r:Zc9 []=[]:=rfl
theorem z1k{m:List Ins}{n:Nat}(h:m.length=n)(x:Ins):wkL (Zc9 (List.take n m)++[Zfa x])=Zc9 (m++[x]):=by
 rw[Yb (by omega),z1j,z8v]
structure Tp where
 code:List Ins
 outs:List Int
 dim:Int
 par:Int
abbrev etp(t:Tp):AV:=.agg [.sl (Zc9 t.code) .an,.sl (ints t.outs) .an,.i .i64 t.dim,.i .i64 t.par]
def Zae(x:Fz):Bool:=decide (x=fz (fv x))
def Zhb(x:Fz):Bool:=!x.1&&x.2.1.isEmpty&&x.2.2.isEmpty
def Zaf(i:Ins):List Int:=if i.op=6∨i.op=11 then [i.a] else if 7≤i.op∧i.op≤10 then [i.a,i.b] else []
def Zn(i m:Int):Bool:=decide (0≤i)&&decide (i<m)
def Zcg(dim par p:Int)(i:Ins):Bool:=
 if i.op=1 then decide (i.a=0)&&decide (i.b=0)&&Zae i.n
 else Zhb i.n&&(Zaf i).all (fun r=>Zn r p) &&
  (if i.op=2 then decide (i.a=0)&&decide (i.b=0)
   else if i.op=3 then Zn i.a dim&&decide (i.b=0)
   else if i.op=4 then Zn i.a par&&decide (i.b=0)
   else if i.op=6 then decide (i.b=0)
   else if i.op=11 then decide (-8≤i.b)&&decide (i.b≤8)
   else decide ((Zaf i).length=2))
def Za6(dim par:Int):Nat→List Ins→Int
 | _,[]=>-1
 | p,i::r=>if Zcg dim par p i then Za6 dim par (p+1) r else p
def Zeo(t:Tp):Bool:=Zn (t.dim-1) 6&&Zn t.par 7&&decide ((t.outs.length:Int)=t.dim)&&decide (t.code.length≤300)
def Zfb(t:Tp):Int:=
 if Zeo t=false then -2 else if Za6 t.dim t.par 0 t.code≠-1 then Za6 t.dim t.par 0 t.code
 else if (t.outs.all fun o=>Zn o t.code.length)=false then t.code.length else -1
def okT(t:Tp):Bool:=decide (Zfb t=-1)
theorem zlx(dim par:Int):∀(l:List Ins) (p:Nat),Za6 dim par p l=-1↔∀(k:Nat) (i:Ins),l[k]? = some i→Zcg dim par (p+k:Nat) i=true
 | [],p=>by simp[Za6]
 | x::l,p=>by
  have ih:=zlx dim par l (p+1);unfold Za6;by_cases h:Zcg dim par p x=true
  ·rw[if_pos h,ih];constructor
   ·intro H k i hk;cases k with
    | zero=>simp only[Yea,Option.some.injEq]at hk;subst hk;simpa using h
    | succ k=>have:=H k i (by simpa using hk);rwa [show p+1+k=p+(k+1) by omega]at this
   ·intro H k i hk;have:=H (k+1) i (by simpa using hk)
    rwa [show p+(k+1)=p+1+k by omega]at this
  ·rw[if_neg h];constructor
   ·intro H;omega
   ·intro H;exact absurd (by simpa using H 0 x rfl) h
structure OkTp (t:Tp):Prop where
 d1:1≤t.dim
 d2:t.dim≤6
 p1:0≤t.par
 p2:t.par≤6
 ol:(t.outs.length:Int)=t.dim
 cl:t.code.length≤300
 may:∀(k:Nat) (i:Ins),t.code[k]? = some i→Zcg t.dim t.par k i=true
 outs:∀o∈t.outs,0≤o∧o<t.code.length
theorem zga(t:Tp):okT t=true↔OkTp t:=by
 unfold okT Zfb;rw[decide_eq_true_eq];by_cases h1:Zeo t=false
 ·rw[if_pos h1];constructor
  ·intro h;omega
  ·intro h;exfalso;have:Zeo t=true:=by
    have:=h.d1;have:=h.d2;have:=h.p1;have:=h.p2;simp only[Zeo,Zn,Yh,decide_eq_true_eq];exact⟨⟨⟨⟨by omega,by omega⟩,by omega,by omega⟩,h.ol⟩,h.cl⟩
   rw[this]at h1;cases h1
 ·have hw:Zeo t=true:=by simpa using h1
  rw[if_neg h1];simp only[Zeo,Zn,Yh,decide_eq_true_eq]at hw;obtain⟨⟨⟨⟨a1,a2⟩,a3,a4⟩,a5⟩,a6⟩:=hw;have hf:=zlx t.dim t.par t.code 0;by_cases h2:Za6 t.dim t.par 0 t.code≠-1
  ·rw[if_pos h2];constructor
   ·intro h;exact absurd h h2
   ·intro h;exact absurd (hf.2 fun k i hk=>by rw[Yan];exact h.may k i hk) h2
  ·have h2':Za6 t.dim t.par 0 t.code=-1:=by simpa using h2
   rw[if_neg h2];by_cases h3:(t.outs.all fun o=>Zn o t.code.length)=false
   ·rw[if_pos h3];constructor
    ·intro h;omega
    ·intro h;exfalso;have:(t.outs.all fun o=>Zn o t.code.length)=true:=Ym.2 fun o ho=>by
      have:=h.outs o ho;simp only[Zn,Yh,decide_eq_true_eq];exact this
     rw[this]at h3;cases h3
   ·rw[if_neg h3];have h3':(t.outs.all fun o=>Zn o t.code.length)=true:=by simpa using h3
    refine⟨fun _=>⟨by omega,by omega,a3,by omega,a5,a6,fun k i hk=>by have:=hf.1 h2' k i hk;rwa [Yan]at this,fun o ho=>?_⟩,fun _=>rfl⟩;have:=Ym.1 h3' o ho;simpa only[Zn,Yh,decide_eq_true_eq]using this
theorem zac7{dim par:Int}{p:Nat}{i:Ins}(h:Zcg dim par p i=true)(ho:i.op=6∨i.op=11∨(7≤i.op∧i.op≤10)):0≤i.a∧i.a<p:=by
 unfold Zcg at h;rw[if_neg (by omega)]at h;simp only[Yh,Ym]at h;have:=h.1.2 i.a (by
  unfold Zaf;by_cases h1:i.op=6∨i.op=11
  ·rw[if_pos h1];simp
  ·rw[if_neg h1,if_pos (by omega)];simp)
 simpa only[Zn,Yh,decide_eq_true_eq]using this
theorem zac8{dim par:Int}{p:Nat}{i:Ins}(h:Zcg dim par p i=true)(ho:7≤i.op∧i.op≤10):0≤i.b∧i.b<p:=by
 unfold Zcg at h;rw[if_neg (by omega)]at h;simp only[Yh,Ym]at h;have:=h.1.2 i.b (by
  unfold Zaf;rw[if_neg (by omega),if_pos ho];simp)
 simpa only[Zn,Yh,decide_eq_true_eq]using this
theorem z1l{dim par:Int}{p:Nat}{i:Ins}(h:Zcg dim par p i=true):i.op=1∨i.op=2∨i.op=3∨i.op=4∨i.op=6∨i.op=7∨i.op=8∨i.op=9∨i.op=10∨i.op=11:=by
 unfold Zcg at h;by_cases h1:i.op=1
 ·exact .inl h1
 rw[if_neg h1]at h;by_cases h2:i.op=2
 ·omega
 by_cases h3:i.op=3
 ·omega
 by_cases h4:i.op=4
 ·omega
 by_cases h6:i.op=6
 ·omega
 by_cases h11:i.op=11
 ·omega
 rw[if_neg h2,if_neg h3,if_neg h4,if_neg h6,if_neg h11]at h;simp only[Yh,decide_eq_true_eq]at h;have h2':=h.2;by_cases hr:7≤i.op∧i.op≤10
 ·omega
 ·have e:Zaf i=[]:=by
   unfold Zaf;rw[if_neg (by omega),if_neg hr]
  rw[e]at h2';simp at h2'
theorem zac9{dim par:Int}{p:Nat}{i:Ins}(h:Zcg dim par p i=true)(ho:i.op=3):0≤i.a∧i.a<dim:=by
 unfold Zcg at h;rw[if_neg (by omega),if_neg (by omega),if_pos ho]at h;simp only[Yh,decide_eq_true_eq,Zn]at h;exact h.2.1
theorem zada{dim par:Int}{p:Nat}{i:Ins}(h:Zcg dim par p i=true)(ho:i.op=4):0≤i.a∧i.a<par:=by
 unfold Zcg at h;rw[if_neg (by omega),if_neg (by omega),if_neg (by omega),if_pos ho]at h;simp only[Yh,decide_eq_true_eq,Zn]at h;exact h.2.1
theorem z8w{dim par:Int}{p:Nat}{i:Ins}(h:Zcg dim par p i=true)(ho:i.op=11):-8≤i.b∧i.b≤8:=by
 unfold Zcg at h;rw[if_neg (by omega),if_neg (by omega),if_neg (by omega),if_neg (by omega),if_neg (by omega),if_pos ho]at h;simp only[Yh,decide_eq_true_eq]at h;exact h.2
structure Po where
 t:Rat
 y:List Rat
 p:List Rat
structure PoF where
 t:Fz
 y:List Fz
 p:List Fz
def PoF.v(x:PoF):Po:=⟨fv x.t,x.y.map fv,x.p.map fv⟩
def Po.f(x:Po):PoF:=⟨fz x.t,fzs x.y,fzs x.p⟩
abbrev ept(x:PoF):AV:=.agg [.b x.t.1,.sl (Zb x.t.2.1) .an,.sl (Zb x.t.2.2) .an,.sl (Zc x.y) .an,.sl (Zc x.p) .an]
def gI(l:List Rat)(i:Int):Rat:=l.getD i.toNat 0
def Zip(x:Rat)(e:Int):Rat:=x^e
def Z6(P:Po)(D:List Rat)(i:Ins):Rat×Bool:=
 if i.op=1 then (fv i.n,true)
 else if i.op=3 then (gI P.y i.a,true)
 else if i.op=4 then (gI P.p i.a,true)
 else if i.op=6 then (-gI D i.a,true)
 else if i.op=7 then (gI D i.a+gI D i.b,true)
 else if i.op=8 then (gI D i.a-gI D i.b,true)
 else if i.op=9 then (gI D i.a*gI D i.b,true)
 else if i.op=10 then (gI D i.a/gI D i.b,decide (gI D i.b≠0))
 else if i.op=11 then (if i.b<0∧gI D i.a=0 then (0,false) else (Zip (gI D i.a) i.b,true))
 else (P.t,true)
def Zf3(q:Rat):Nat:=Zci (fz q)
def Za3(lim:Nat)(P:Po):List Ins→List Rat→List Rat×Nat×Nat
 | [],D=>(D,0,0)
 | i::r,D=>if (Z6 P D i).2=false then ([],3,D.length) else if lim<Zf3 (Z6 P D i).1 then ([],6,D.length) else Za3 lim P r (D++[(Z6 P D i).1])
theorem zbz(lim:Nat)(P:Po)(i:Ins)(r:List Ins)(D:List Rat):Za3 lim P (i::r) D=if (Z6 P D i).2=false then ([],3,D.length) else if lim<Zf3 (Z6 P D i).1 then ([],6,D.length) else Za3 lim P r (D++[(Z6 P D i).1]):=rfl
theorem ze9(lim:Nat)(P:Po):∀(l:List Ins) (D:List Rat),(Za3 lim P l D).2.1=0→(Za3 lim P l D).2.2=0∧∃E,(Za3 lim P l D).1=D++E∧E.length=l.length
 | [],D,_=>⟨rfl,[],by simp[Za3],rfl⟩
 | i::r,D,h=>by
  have ih:=ze9 lim P r (D++[(Z6 P D i).1]);rw[zbz]at h ⊢;by_cases h1:(Z6 P D i).2=false
  ·simp[h1]at h
  ·rw[if_neg h1]at h ⊢;by_cases h2:lim<Zf3 (Z6 P D i).1
   ·simp[h2]at h
   ·rw[if_neg h2]at h ⊢;obtain⟨e1,E,e2,e3⟩:=ih h;exact⟨e1,(Z6 P D i).1::E,by rw[e2];simp,by simp[e3]⟩
theorem zrk(lim:Nat)(P:Po):∀(l:List Ins) (D:List Rat),(Za3 lim P l D).2.1≠0→(Za3 lim P l D).1=[]∧D.length≤(Za3 lim P l D).2.2∧(Za3 lim P l D).2.2<D.length+l.length
 | [],D,h=>by simp[Za3]at h
 | i::r,D,h=>by
  have ih:=zrk lim P r (D++[(Z6 P D i).1]);rw[zbz]at h ⊢;by_cases h1:(Z6 P D i).2=false
  ·simp[h1]
  ·rw[if_neg h1]at h ⊢;by_cases h2:lim<Zf3 (Z6 P D i).1
   ·simp[h2]
   ·rw[if_neg h2]at h ⊢;have:=ih h;simp only[Ya7,Yn,Yav]at this ⊢;exact⟨this.1,by omega,by omega⟩
end Go.Ab
end