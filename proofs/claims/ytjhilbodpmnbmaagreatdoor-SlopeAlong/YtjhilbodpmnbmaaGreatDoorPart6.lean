/-
  A calculus of values, boxes and code, and what functions of the program compute, proved in it.
  Conditions: none beyond those that the theorems state. (Part 6.)
-/
import Derived.Test.YtjhilbodpmnbmaaGreatDoorPart5
import Derived.Test.YtjhilbodpmnbmaaGreatDoorProg
import Derived.KernelRfl
import Derived.Shelf.RegionOpenPlain
import Derived.Lib.Strings
import Derived.Lib.Slices
import Derived.Lib.Walk
import Derived.Lib.Builder
import Derived.Lib.AppendStr
import Derived.Lib.UnsafeStr
import Derived.Lib.MakeNoZero
import Derived.WalkKit
import Derived.Laws.Externs
import Derived.Laws.IdiomCopy
import Derived.Laws.BitsLemmas
import GoSem.Claims
import Derived.Deep.LoopGhost
import Derived.Shelf.Strings.Builder1
import Derived.Shelf.Strings.Builder2
import Derived.Shelf.Strings.OnBuilder
import Derived.ProofKit
import Derived.OpenShut

set_option linter.unusedSectionVars false
set_option linter.unusedVariables false
set_option linter.unusedSimpArgs false
set_option linter.unnecessarySimpa false

section
namespace Go.Proofs.YtjhilbodpmnbmaaGreatDoor
open Go Go.Ab
set_option maxRecDepth 100000
def nus:List (Nat×Nat):=[(23,98),(24,62),(25,172),(27,101),(34,143),(36,162),(37,173),(38,150),(39,103),(40,169),(41,71),(43,64),(52,105),(54,102),(55,113),(56,151),(57,152),(58,104),(59,106),(60,100),(61,61),(62,195),(63,111),(68,144),(70,148),(71,154),(72,72),(73,223),(84,155),(85,196),(86,112),(87,70),(88,197),(89,153),(90,188),(91,207),(93,226),(94,227),(95,158),(96,159),(97,109),(101,189),(103,190),(106,199),(115,228),(116,229),(117,198),(118,216),(119,236),(120,237),(121,238),(122,200),(125,217),(126,218),(127,219),(128,220),(183,95),(198,224),(199,193),(200,194),(201,149),(202,97),(203,96),(205,34),(207,69),(208,33),(209,170),(210,99),(211,116),(212,75),(213,123),(215,57),(216,125),(217,58),(218,126),(219,171),(220,124),(223,127),(224,156),(225,157),(226,108),(227,110),(228,66),(229,65),(230,67),(231,31),(232,63),(233,59),(239,28),(241,30),(247,36),(248,45),(249,68),(250,32),(251,94),(263,37),(264,139),(265,39),(270,56),(274,55),(278,24),(279,23),(282,29),(286,17),(287,20),(290,187),(291,186),(293,60),(294,142),(301,26),(302,25),(307,18),(308,21),(353,107),(356,174),(377,4),(380,6),(383,10),(384,180),(388,141),(397,138),(399,19),(400,22),(401,27),(402,14),(403,53),(404,54),(405,41),(406,42),(407,210),(408,185),(410,181),(411,81),(412,182),(413,183),(414,184),(415,89),(416,90),(417,91),(418,92),(419,93),(420,74),(421,230),(422,231),(423,213),(424,214),(425,215),(426,128),(427,211),(428,212),(429,140),(430,239),(431,240),(432,232),(433,244),(434,245),(435,246),(436,241),(437,251),(438,252),(439,253),(441,273),(442,274),(443,275),(444,276),(445,277),(446,278),(447,279),(448,280),(449,281),(450,282),(451,283),(452,284),(453,285),(454,286),(455,287),(456,288),(2043,64),(2071,154),(2092,225),(2097,109),(2106,199),(2263,37),(2395,179)]
def nu(u:Nat):FuncId:=(nus.lookup u).getD 0
def row1000001:AFx:=⟨282,0,meths1,.bad,none,false⟩
def row1000002:AFx:=⟨291,0,meths2,.bad,none,false⟩
def row1500424:AFx:=⟨214,424,[],.bad,none,false⟩
def row1500416:AFx:=⟨90,416,[],.bad,none,false⟩
def row1500418:AFx:=⟨92,418,[],.bad,none,false⟩
def Zds(P:Program)(ν:Nat→FuncId)(τ:Nat→Nat)(u:Nat)(af:AFx):Prop:=
 match af.body.isPrim with
 | some f=>∀xs r,f xs=some r→Zbb P (ν u) xs (·=r)
 | none=>if af.body.isBad=true then (∀m∈Zep af,Zcw P af.np m.1=some (ν m.2))∧(af.res.isEmpty=true→af.np=ν af.nt) else Zcr P (ν u)=some (erF ν τ af)
theorem ok_pr{P:Program}{ν:Nat→FuncId}{τ:Nat→Nat}{u:Nat}{af:AFx}{f:List AV→Option AV}(h0:af.body.isPrim=some f)(h:∀xs r,f xs=some r→Zbb P (ν u) xs (·=r)):Zds P ν τ u af:=by unfold Zds;rw[h0];exact h
theorem ok_fn{P:Program}{ν:Nat→FuncId}{τ:Nat→Nat}{u:Nat}{af:AFx}(h0:af.body.isPrim=none)(h1:af.body.isBad=false)(h:Zcr P (ν u)=some (erF ν τ af)):Zds P ν τ u af:=by unfold Zds;rw[h0];simp only[h1];exact h
theorem ok_ty{P:Program}{ν:Nat→FuncId}{τ:Nat→Nat}{u:Nat}{af:AFx}(h0:af.body.isPrim=none)(h1:af.body.isBad=true)(h:((Zep af).all fun m=>Zcw P af.np m.1 == some (ν m.2))=true)(h2:(!af.res.isEmpty || af.np == ν af.nt)=true):Zds P ν τ u af:=by unfold Zds;rw[h0];simp only[h1,if_true];exact⟨fun m hm=>eq_of_beq (List.all_eq_true.1 h m hm),fun he=>by rw[he]at h2;exact eq_of_beq (by simpa using h2)⟩
theorem ok_cons{P:Program}{ν:Nat→FuncId}{τ:Nat→Nat}{u:Nat}{af:AFx}{l:List (Nat×AFx)}(h:Zds P ν τ u af)(hl:∀p∈l,Zds P ν τ p.1 p.2) :
  ∀p∈(u,af)::l,Zds P ν τ p.1 p.2:=by
 intro p hp;rcases List.mem_cons.1 hp with rfl | hp
 ·exact h
 ·exact hl p hp
theorem ok_lookup{P:Program}{ν:Nat→FuncId}{l:List (Nat×AFx)}(hl:∀p∈l,Zds P ν (Zo fun u=>l.lookup u) p.1 p.2):TOk P ν (fun u=>l.lookup u):=fun _ _ h=>hl _ (zdx h)
theorem sub_cons{l l2:List (Nat×AFx)}{u:Nat}{af:AFx}(h:l.lookup u=some af)(h2:∀p∈l2,l.lookup p.1=some p.2):∀p∈(u,af)::l2,l.lookup p.1=some p.2:=by
 intro p hp;rcases List.mem_cons.1 hp with rfl | hp
 ·exact h
 ·exact h2 p hp
def pT(i:Nat):List (Nat×AFx):=match i with
 | 0=>[(115,row115),(116,row116),(117,row117),(118,row118),(91,row91),(86,row86),(106,row106),(71,row71),(72,row72),(73,row73),(70,row70),(87,row87),(85,row85),(56,row56),(88,row88),(57,row57),(2106,row2106),(89,row89),(60,row60),(94,row94),(90,row90),(119,row119),(120,row120),(121,row121),(93,row93)]
 | 1=>[(2071,row2071),(2092,row2092),(62,row62),(55,row55),(38,row38),(40,row40),(23,row23),(25,row25),(27,row27),(37,row37),(41,row41),(36,row36),(34,row34),(198,row198),(199,row199),(200,row200),(201,row201),(202,row202),(203,row203),(205,row205),(207,row207),(209,row209),(210,row210),(211,row211),(212,row212)]
 | 2=>[(213,row213),(215,row215),(216,row216),(217,row217),(218,row218),(208,row208),(219,row219),(220,row220),(223,row223),(356,row356),(251,row251),(263,row263),(264,row264),(265,row265),(270,row270),(274,row274),(2263,row2263),(43,row43),(84,row84),(52,row52),(54,row54),(58,row58),(59,row59),(61,row61),(122,row122)]
 | 3=>[(95,row95),(96,row96),(97,row97),(63,row63),(224,row224),(225,row225),(226,row226),(227,row227),(228,row228),(229,row229),(230,row230),(2097,row2097),(2043,row2043),(39,row39),(24,row24),(231,row231),(232,row232),(233,row233),(239,row239),(241,row241),(247,row247),(353,row353),(278,row278),(279,row279),(282,row282)]
 | 4=>[(286,row286),(248,row248),(249,row249),(250,row250),(287,row287),(421,row421),(430,row430),(433,row433),(434,row434),(435,row435),(437,row437),(438,row438),(439,row439),(406,row406),(411,row411),(426,row426),(413,row413),(405,row405),(420,row420),(384,row384),(407,row407),(422,row422),(431,row431),(441,row441),(442,row442)]
 | 5=>[(443,row443),(444,row444),(445,row445),(446,row446),(447,row447),(448,row448),(380,row380),(383,row383),(388,row388),(408,row408),(423,row423),(424,row424),(425,row425),(432,row432),(436,row436),(449,row449),(450,row450),(451,row451),(452,row452),(453,row453),(454,row454),(455,row455),(456,row456),(290,row290),(291,row291)]
 | 6=>[(293,row293),(294,row294),(397,row397),(410,row410),(412,row412),(414,row414),(427,row427),(428,row428),(2395,row2395),(400,row400),(401,row401),(403,row403),(404,row404),(415,row415),(416,row416),(417,row417),(418,row418),(419,row419),(429,row429),(301,row301),(302,row302),(307,row307),(402,row402),(308,row308),(377,row377)]
 | 7=>[(399,row399)]
 | _=>[]
def Znb:List (Nat×AFx):=[(68,row68),(183,row183),(1000001,row1000001),(1000002,row1000002),(1500424,row1500424),(1500416,row1500416),(1500418,row1500418)]
def lTab:List (Nat×AFx):=pT 0++pT 1++pT 2++pT 3++pT 4++pT 5++pT 6++pT 7++Znb
def gTab:List (Nat×AFx):=lTab++[(92,row92),(101,row101),(103,row103),(125,row125)]
def tab:Tbl:=fun u=>gTab.lookup u
def Zi2:Nat→Nat:=Zo fun u=>lTab.lookup u
theorem resl_1000001:((Zep row1000001).all fun m=>Zcw Tryz.prog row1000001.np m.1 == some (nu m.2))=true:=by kernel_rfl
theorem resl_1000002:((Zep row1000002).all fun m=>Zcw Tryz.prog row1000002.np m.1 == some (nu m.2))=true:=by kernel_rfl
theorem resl_1500424:(!row1500424.res.isEmpty || row1500424.np == nu row1500424.nt)=true:=by kernel_rfl
theorem resl_1500416:(!row1500416.res.isEmpty || row1500416.np == nu row1500416.nt)=true:=by kernel_rfl
theorem resl_1500418:(!row1500418.res.isEmpty || row1500418.np == nu row1500418.nt)=true:=by kernel_rfl
def Zca(l:List (Nat×AFx)):Prop:=(l.map fun p=>Zcr Tryz.prog (nu p.1))=l.map fun p=>some (erF nu Zi2 p.2)
theorem res_mem{l:List (Nat×AFx)}(h:Zca l)(h2:(l.all fun p=>p.2.body.isPrim.isNone&&!p.2.body.isBad)=true):∀p∈l,Zds Tryz.prog nu Zi2 p.1 p.2:=by
 intro p hp;have h3:=List.all_eq_true.1 h2 p hp;simp only[Bool.and_eq_true,Option.isNone_iff_eq_none,Bool.not_eq_true']at h3;exact ok_fn h3.1 h3.2 (List.map_inj_left.1 h p hp)
theorem ok_app{l r:List (Nat×AFx)}(h1:∀p∈l,Zds Tryz.prog nu Zi2 p.1 p.2)(h2:∀p∈r,Zds Tryz.prog nu Zi2 p.1 p.2):∀p∈l++r,Zds Tryz.prog nu Zi2 p.1 p.2:=fun p hp=>(List.mem_append.1 hp).elim (h1 p) (h2 p)
theorem res0:Zca (pT 0):=by unfold Zca;kernel_rfl
theorem res1:Zca (pT 1):=by unfold Zca;kernel_rfl
theorem res2:Zca (pT 2):=by unfold Zca;kernel_rfl
theorem res3:Zca (pT 3):=by unfold Zca;kernel_rfl
theorem res4:Zca (pT 4):=by unfold Zca;kernel_rfl
theorem res5:Zca (pT 5):=by unfold Zca;kernel_rfl
theorem res6:Zca (pT 6):=by unfold Zca;kernel_rfl
theorem res7:Zca (pT 7):=by unfold Zca;kernel_rfl
theorem lTab_ok(hp68:∀xs r,prim68 xs=some r→Zbb Tryz.prog (nu 68) xs (·=r))(hp183:∀xs r,prim183 xs=some r→Zbb Tryz.prog (nu 183) xs (·=r)):TOk Tryz.prog nu (fun u=>lTab.lookup u):=ok_lookup (ok_app (ok_app (ok_app (ok_app (ok_app (ok_app (ok_app (ok_app (res_mem res0 (by kernel_rfl)) (res_mem res1 (by kernel_rfl))) (res_mem res2 (by kernel_rfl))) (res_mem res3 (by kernel_rfl))) (res_mem res4 (by kernel_rfl))) (res_mem res5 (by kernel_rfl))) (res_mem res6 (by kernel_rfl))) (res_mem res7 (by kernel_rfl))) (ok_cons (ok_pr rfl hp68) (ok_cons (ok_pr rfl hp183) (ok_cons (ok_ty rfl rfl resl_1000001 rfl) (ok_cons (ok_ty rfl rfl resl_1000002 rfl) (ok_cons (ok_ty rfl rfl rfl resl_1500424) (ok_cons (ok_ty rfl rfl rfl resl_1500416) (ok_cons (ok_ty rfl rfl rfl resl_1500418) (fun p hp=>by cases hp)))))))))
def Zk8:List Nat→Bool
 | []=>true
 | a::l=>!l.contains a&&Zk8 l
theorem sub_app{l r:List (Nat×AFx)}(h:Zk8 (l.map (·.1))=true):∀p∈l,(l++r).lookup p.1=some p.2:=by
 induction l with
 | nil=>intro p hp;cases hp
 | cons a l ih=>
  intro p hp;obtain⟨k,v⟩:=a;simp only[List.map_cons,Zk8,Bool.and_eq_true,Bool.not_eq_true']at h;rcases List.mem_cons.1 hp with rfl | hq
  ·simp
  ·have hne:(p.1 == k)=false:=by
    cases hb:p.1 == k with
    | false=>rfl
    | true=>
     have:=eq_of_beq hb;subst this;have h5:(l.map (·.1)).contains p.1=true:=List.contains_iff_mem.2 (List.mem_map.2 ⟨p,hq,rfl⟩);rw[h5]at h;cases h.1
   rw[List.cons_append,List.lookup_cons,hne];exact ih h.2 p hq
theorem lTab_part:Part gTab lTab:=⟨sub_app (by kernel_rfl),by kernel_rfl⟩
def sTab:List (Nat×AFx):=[(118,row118),(86,row86),(106,row106),(71,row71),(70,row70),(90,row90),(101,row101),(103,row103),(125,row125)]
def Zfz:Nat→Nat:=Zo fun u=>sTab.lookup u
theorem ress_118:Zcr Tryz.prog (nu 118)=some (erF nu Zfz row118):=by kernel_rfl
theorem ress_86:Zcr Tryz.prog (nu 86)=some (erF nu Zfz row86):=by kernel_rfl
theorem ress_106:Zcr Tryz.prog (nu 106)=some (erF nu Zfz row106):=by kernel_rfl
theorem ress_71:Zcr Tryz.prog (nu 71)=some (erF nu Zfz row71):=by kernel_rfl
theorem ress_70:Zcr Tryz.prog (nu 70)=some (erF nu Zfz row70):=by kernel_rfl
theorem ress_90:Zcr Tryz.prog (nu 90)=some (erF nu Zfz row90):=by kernel_rfl
theorem ress_101:Zcr Tryz.prog (nu 101)=some (erF nu Zfz row101):=by kernel_rfl
theorem ress_103:Zcr Tryz.prog (nu 103)=some (erF nu Zfz row103):=by kernel_rfl
theorem ress_125:Zcr Tryz.prog (nu 125)=some (erF nu Zfz row125):=by kernel_rfl
theorem sTab_ok:TOk Tryz.prog nu (fun u=>sTab.lookup u):=ok_lookup (ok_cons (ok_fn rfl rfl ress_118) (ok_cons (ok_fn rfl rfl ress_86) (ok_cons (ok_fn rfl rfl ress_106) (ok_cons (ok_fn rfl rfl ress_71) (ok_cons (ok_fn rfl rfl ress_70) (ok_cons (ok_fn rfl rfl ress_90) (ok_cons (ok_fn rfl rfl ress_101) (ok_cons (ok_fn rfl rfl ress_103) (ok_cons (ok_fn rfl rfl ress_125) (fun p hp=>by cases hp))))))))))
theorem sTab_part:Part gTab sTab:=⟨sub_cons (by kernel_rfl) (sub_cons (by kernel_rfl) (sub_cons (by kernel_rfl) (sub_cons (by kernel_rfl) (sub_cons (by kernel_rfl) (sub_cons (by kernel_rfl) (sub_cons (by kernel_rfl) (sub_cons (by kernel_rfl) (sub_cons (by kernel_rfl) (fun p hp=>by cases hp))))))))),by kernel_rfl⟩
instance:Z7 tab:=⟨by kernel_rfl,by kernel_rfl,by kernel_rfl,by kernel_rfl,by kernel_rfl⟩
instance:Zs tab where
 h115:=by kernel_rfl
 h116:=by kernel_rfl
 h117:=by kernel_rfl
 h118:=by kernel_rfl
 h91:=by kernel_rfl
 h86:=by kernel_rfl
 h106:=by kernel_rfl
 h71:=by kernel_rfl
 h72:=by kernel_rfl
 h73:=by kernel_rfl
 h70:=by kernel_rfl
 h87:=by kernel_rfl
 h85:=by kernel_rfl
 h56:=by kernel_rfl
 h88:=by kernel_rfl
 h57:=by kernel_rfl
 h2106:=by kernel_rfl
instance:Zw tab where
 h115:=by kernel_rfl
 h116:=by kernel_rfl
 h117:=by kernel_rfl
 h118:=by kernel_rfl
 h91:=by kernel_rfl
 h86:=by kernel_rfl
 h106:=by kernel_rfl
 h71:=by kernel_rfl
 h72:=by kernel_rfl
 h73:=by kernel_rfl
 h70:=by kernel_rfl
 h87:=by kernel_rfl
 h85:=by kernel_rfl
 h56:=by kernel_rfl
 h88:=by kernel_rfl
 h57:=by kernel_rfl
 h2106:=by kernel_rfl
 h89:=by kernel_rfl
 h60:=by kernel_rfl
instance:Zx tab:=⟨by kernel_rfl,by kernel_rfl⟩
instance:Zt tab:=⟨by kernel_rfl,by kernel_rfl,by kernel_rfl,by kernel_rfl,by kernel_rfl⟩
instance:Zv tab:=⟨by kernel_rfl,by kernel_rfl,by kernel_rfl⟩
instance:Z6 tab:=⟨by kernel_rfl⟩
instance:Zau tab:=⟨by kernel_rfl⟩
instance:Zh0 tab:=⟨by kernel_rfl,by kernel_rfl⟩
instance:Zf tab:=⟨by kernel_rfl,by kernel_rfl,by kernel_rfl,by kernel_rfl,by kernel_rfl,by kernel_rfl,by kernel_rfl,by kernel_rfl,by kernel_rfl,by kernel_rfl⟩
instance:Zl tab:=⟨by kernel_rfl,by kernel_rfl,by kernel_rfl,by kernel_rfl⟩
instance:Zq tab:=⟨by kernel_rfl,by kernel_rfl,by kernel_rfl,by kernel_rfl,by kernel_rfl,by kernel_rfl,by kernel_rfl,by kernel_rfl,by kernel_rfl,by kernel_rfl,by kernel_rfl,by kernel_rfl,by kernel_rfl⟩
instance:Zi7 tab where
instance:Z0 tab:=⟨by kernel_rfl,by kernel_rfl,by kernel_rfl⟩
instance:Zab tab:=⟨by kernel_rfl⟩
instance:Zbz tab:=⟨by kernel_rfl⟩
instance:Zax tab:=⟨by kernel_rfl⟩
instance:Za6 tab:=⟨by kernel_rfl,by kernel_rfl,by kernel_rfl,by kernel_rfl,by kernel_rfl,by kernel_rfl,by kernel_rfl⟩
instance:Zlq tab where
instance:Zlr tab where
instance:Zai tab:=⟨by kernel_rfl,by kernel_rfl,by kernel_rfl,by kernel_rfl,by kernel_rfl,by kernel_rfl⟩
instance:Za5 tab where
 h43:=by kernel_rfl
 h84:=by kernel_rfl
 h52:=by kernel_rfl
 h54:=by kernel_rfl
 h58:=by kernel_rfl
 h59:=by kernel_rfl
 h61:=by kernel_rfl
instance:Zak tab where
 h43:=by kernel_rfl
 h84:=by kernel_rfl
 h52:=by kernel_rfl
 h54:=by kernel_rfl
 h58:=by kernel_rfl
 h59:=by kernel_rfl
 h61:=by kernel_rfl
 h122:=by kernel_rfl
 h95:=by kernel_rfl
 h96:=by kernel_rfl
 h97:=by kernel_rfl
 h63:=by kernel_rfl
instance:Zac tab:=⟨by kernel_rfl,by kernel_rfl,by kernel_rfl,by kernel_rfl,by kernel_rfl,by kernel_rfl,by kernel_rfl,by kernel_rfl⟩
instance:Zbf tab where
 h43:=by kernel_rfl
 h84:=by kernel_rfl
 h52:=by kernel_rfl
 h54:=by kernel_rfl
 h58:=by kernel_rfl
 h59:=by kernel_rfl
 h61:=by kernel_rfl
 h122:=by kernel_rfl
 h95:=by kernel_rfl
 h96:=by kernel_rfl
 h97:=by kernel_rfl
 h63:=by kernel_rfl
 h2043:=by kernel_rfl
instance:Zbk tab where
 h43:=by kernel_rfl
 h84:=by kernel_rfl
 h52:=by kernel_rfl
 h54:=by kernel_rfl
 h58:=by kernel_rfl
 h59:=by kernel_rfl
 h61:=by kernel_rfl
 h122:=by kernel_rfl
 h95:=by kernel_rfl
 h96:=by kernel_rfl
 h97:=by kernel_rfl
 h63:=by kernel_rfl
 h2043:=by kernel_rfl
 h39:=by kernel_rfl
 h24:=by kernel_rfl
instance:Zae tab:=⟨by kernel_rfl,by kernel_rfl,by kernel_rfl,by kernel_rfl,by kernel_rfl,by kernel_rfl,by kernel_rfl⟩
instance:Zav tab:=⟨by kernel_rfl,by kernel_rfl,by kernel_rfl,by kernel_rfl⟩
instance:Zb6 tab:=⟨by kernel_rfl,by kernel_rfl,by kernel_rfl⟩
instance:Zcz tab:=⟨by kernel_rfl⟩
instance:Zad tab:=⟨by kernel_rfl,by kernel_rfl,by kernel_rfl,by kernel_rfl,by kernel_rfl,by kernel_rfl,by kernel_rfl,by kernel_rfl⟩
instance:Z8 tab:=⟨by kernel_rfl,by kernel_rfl,by kernel_rfl,by kernel_rfl⟩
instance:Zaw tab:=⟨by kernel_rfl,by kernel_rfl⟩
instance:Za4 tab:=⟨by kernel_rfl,by kernel_rfl,by kernel_rfl,by kernel_rfl,by kernel_rfl,by kernel_rfl,by kernel_rfl,by kernel_rfl,by kernel_rfl,by kernel_rfl,by kernel_rfl,by kernel_rfl⟩
instance:Zei tab where
 h1:=⟨282,by kernel_rfl⟩
instance:Zc7 tab:=⟨by kernel_rfl,by kernel_rfl⟩
instance:Zz tab:=⟨by kernel_rfl,by kernel_rfl,by kernel_rfl,by kernel_rfl,by kernel_rfl,by kernel_rfl,by kernel_rfl,by kernel_rfl,by kernel_rfl,by kernel_rfl,by kernel_rfl,by kernel_rfl,by kernel_rfl,by kernel_rfl,by kernel_rfl⟩
instance:Zdh tab where
 h2:=⟨291,by kernel_rfl⟩
instance:Zco tab where
 h1500424:=⟨214,by kernel_rfl⟩
instance:Zfs tab where
instance:Zct tab:=⟨by kernel_rfl,by kernel_rfl,by kernel_rfl,by kernel_rfl⟩
instance:Z3 tab:=⟨by kernel_rfl,by kernel_rfl,by kernel_rfl,by kernel_rfl,by kernel_rfl,by kernel_rfl,by kernel_rfl⟩
instance:Z1 tab:=⟨by kernel_rfl,by kernel_rfl,by kernel_rfl,by kernel_rfl,by kernel_rfl,by kernel_rfl,by kernel_rfl,by kernel_rfl,by kernel_rfl,by kernel_rfl⟩
instance:Zc5 tab where
 h1500416:=⟨90,by kernel_rfl⟩
instance:Zc6 tab where
 h1500418:=⟨92,by kernel_rfl⟩
instance:Zcp tab:=⟨by kernel_rfl,by kernel_rfl,by kernel_rfl⟩
instance:Ze0 tab:=⟨by kernel_rfl⟩
instance:Zfi tab:=⟨by kernel_rfl⟩
instance:Zdu tab:=⟨by kernel_rfl,by kernel_rfl⟩
end Go.Proofs.YtjhilbodpmnbmaaGreatDoor
end
section
namespace Go.Proofs
open Go.RowKit
theorem Tryz.sizeBuilder:(Tryz.prog.info? 225).map (·.size)=some 2:=by kernel_rfl
theorem Tryz.liesBuilder:liesAt Tryz.prog Tryz.prog.depth 225 (2/Tryz.prog.cellsOf 225) 0 225 1=true:=by kernel_rfl
theorem Tryz.infoByte:(Tryz.prog.info? 5).map (fun i=>(i.zero,i.size,i.bytes))=some (some (.int .u8 0),1,1):=by kernel_rfl
theorem Tryz.cellsByte:Tryz.prog.cellsOf 5=1:=by kernel_rfl
set_option maxHeartbeats 1000000 in
set_option maxRecDepth 100000 in
theorem Tryz.bString(B b:Nat)(l:List UInt8)(w:World)(h:Lib.IsBuilder 225 5 B b (Lib.byteCells l) w)(h0:l≠[]) :
  Calls Tryz.prog 147 #[.pointer (some ⟨b,0,none⟩)] w fun e w'=>e=.returned (.string ⟨l.toArray⟩)∧Below B w w':=by
 obtain⟨p,hB,v,hbk,hown,hne⟩:∃p,Lib.BuilderAt 225 5 B b p (Lib.byteCells l) w:=by
  rcases h with h | h
  ·exact⟨_,h⟩
  ·exact⟨_,h⟩
 have hl0:l.length≠0:=by simpa using h0
 rw[Lib.byteCells_length]at hown;obtain⟨g,cap,cur,rfl,hbg,hg,hnc,hcm,hcs,htake⟩:∃g cap cur,v=.slice (some ⟨g,0,none⟩) l.length cap∧B≤g∧w.heap[g]? = some (.cells cur 5 (0,0))∧l.length≤cap∧cap≤maxLen∧cur.size=cap*1∧cur.toList.take (l.length*1)=Lib.byteCells l:=by
  rcases hown.2 with ⟨_,hz⟩ | ⟨g,cap,cur,hv,r⟩
  ·exact absurd hz hl0
  ·exact⟨g,cap,cur,hv,r⟩
 have c1:w.drew.cell? ⟨b,1,none⟩=some (.slice (some ⟨g,0,none⟩) l.length cap):=by
  have:w.drew.heap[b]? = some (.cells #[p,.slice (some ⟨g,0,none⟩) l.length cap] 225 (0,0)):=hbk;rw[Lib.cell_of_heap this];rfl
 have hSD:(Builtin.unsafeSliceData_ #[223] 270 #[.slice (some ⟨g,0,none⟩) l.length cap]).run Tryz.prog w.drew=.ok (.pointer (some ⟨g,0,none⟩)) w.drew:=
  Lib.run_unsafeSliceData_row _ _ _ _ _ _ (by omega)
 have hUS:(Builtin.unsafeString_ #[270,3] 9 #[.pointer (some ⟨g,0,none⟩),.int .i64 l.length]).run Tryz.prog w.drew=.ok (.string ⟨l.toArray⟩) (w.drew.freeze ⟨g,0,none⟩ l.length):=by
  refine Lib.run_unsafeString_row w.drew 270 3 9 5 Tryz.underlying270 Tryz.cellsByte g cur.size (by have hg':w.drew.heap[g]? = some (.cells cur 5 (0,0)):=hg;simp[World.shape?,hg']) l h0 (by omega) (by unfold maxLen at hcm;omega) ?_;intro j x hx;have:=hown.cells (g:=g) rfl j (.int .u8 x.toNat) (by simp[Lib.byteCells,hx]);exact this
 go_enter Tryz.func147,Tryz.ntmps147
 go_wp2
 go_region
 all_goals (go_wp2;go_ret;exact⟨rfl,Lib.below_freeze (Below.drew (Below.refl B w)) (p:=⟨g,0,none⟩) hbg _⟩)
set_option maxHeartbeats 1000000 in
set_option maxRecDepth 100000 in
theorem Tryz.bCheck_used(b:Nat)(w:World)(h0:w.cell? ⟨b,0,none⟩=some (.pointer (some ⟨b,0,none⟩))) :
  Calls Tryz.prog 191 #[.pointer (some ⟨b,0,none⟩)] w fun e w'=>e=.returned (.tuple #[])∧w'=w:=by
 obtain⟨j,hj,_⟩:=Option.map_eq_some_iff.1 Tryz.sizeBuilder
 go_enter Tryz.func191,Tryz.ntmps191
 go_wp2
 rw[Lib.run_neq_ptr_same w _ Tryz.underlying222 hj]
 go_wp2
 go_end0
 exact⟨rfl,rfl⟩
set_option maxHeartbeats 1000000 in
set_option maxRecDepth 100000 in
theorem Tryz.bCheck_fresh(b:Nat)(w:World)(h0:w.cell? ⟨b,0,none⟩=some (.pointer none))(hsh:w.shape? b=some (225,2))(hfz:w.frozen? ⟨b,0,none⟩=false) :
  Calls Tryz.prog 191 #[.pointer (some ⟨b,0,none⟩)] w fun e w'=>e=.returned (.tuple #[])∧w'=w.setCell ⟨b,0,none⟩ (.pointer (some ⟨b,0,none⟩)):=by
 obtain⟨j,hj,hjs⟩:=Option.map_eq_some_iff.1 Tryz.sizeBuilder
 go_enter Tryz.func191,Tryz.ntmps191
 go_wp2
 rw[Lib.run_to_unsafe w ⟨b,0,none⟩ Tryz.underlying222 Tryz.underlying307 hj (by rw[hjs];decide) hsh (Nat.zero_lt_succ 1)];simp only[Result.andThen];rw[Oper.upon_value]
 go_wp2
 rw[run_callFunc_extern Tryz.func221 (by kernel_rfl) (by kernel_rfl) (by kernel_rfl) (e:=Extern.AbiNoEscape.same) (by kernel_rfl)];rw[Lib.run_noEscape];simp only[Result.andThen];rw[Oper.upon_value]
 go_wp2
 rw[Lib.run_from_unsafe w ⟨b,0,none⟩ Tryz.underlying307 Tryz.underlying222 hj hsh Tryz.liesBuilder];simp only[Result.andThen];rw[Oper.upon_value]
 go_wp2
 go_end0
 exact⟨rfl,rfl⟩
theorem Tryz.bCheck(B b:Nat)(bs:List Value)(w:World)(h:Lib.IsBuilder 225 5 B b bs w) :
  Calls Tryz.prog 191 #[.pointer (some ⟨b,0,none⟩)] w fun e w'=>e=.returned (.tuple #[])∧(Lib.BuilderAt 225 5 B b (.pointer (some ⟨b,0,none⟩)) bs w'∧Below B w w'):=by
 rcases h with h | h
 ·refine(Tryz.bCheck_fresh b w h.cell0 h.shape h.frozen0).mono ?_
  rintro e w' ⟨rfl,rfl⟩
  exact⟨rfl,h.used _,(Below.refl B w).setCell (p:=⟨b,0,none⟩) h.1 _⟩
 ·refine(Tryz.bCheck_used b w h.cell0).mono ?_
  rintro e w' ⟨rfl,rfl⟩
  exact⟨rfl,h,Below.refl B _⟩
set_option maxHeartbeats 2000000 in
set_option maxRecDepth 100000 in
theorem Tryz.bWrite(B b:Nat)(bs:List Value)(s:ByteArray)(w:World)(h:Lib.IsBuilder 225 5 B b bs w)(hlen:bs.length+s.size≤140737488355328)(hBw:B≤w.heap.size) :
  Calls Tryz.prog 146 #[.pointer (some ⟨b,0,none⟩),.string s] w fun e w'=>e=.returned (.tuple #[.int .i64 s.size,.nilIface])∧(Lib.BuilderAt 225 5 B b (.pointer (some ⟨b,0,none⟩)) (bs++Lib.strCells s) w'∧Below B w w'):=by
 obtain⟨i0,hi,hz0,hz1,hz2⟩:=info_parts Tryz.infoByte
 go_enter Tryz.func146,Tryz.ntmps146
 go_wp2_with (go_at_call 191;refine(Tryz.bCheck B b bs _ h).mono ?_)
 rintro e w1 ⟨rfl,h1,hb1⟩
 obtain⟨hB,v,hbk,hown,hne⟩:=h1;have c0:w1.cell? ⟨b,0,none⟩=some (.pointer (some ⟨b,0,none⟩)):=by rw[Lib.cell_of_heap hbk];rfl
 have c1:w1.cell? ⟨b,1,none⟩=some v:=by rw[Lib.cell_of_heap hbk];rfl
 go_wp2_with (at_builtin;refine Lib.wpList_append_own_string _ rfl _ _ 223 9 rfl B 5 i0 Tryz.underlying223 Tryz.underlying9 hi hz0 hz1 hz2 _ _ _ rfl hown s rfl ?c3 ?c4 ?c5 ?_)
 case c3=>unfold maxLen;omega
 case c4=>omega
 case c5=>have:=hb1.size;omega
 intro v' w2 hown' hgrow _;have hlt:b<w1.heap.size:=by
  rcases Nat.lt_or_ge b w1.heap.size with h' | h'
  ·exact h'
  ·simp[Array.getElem?_eq_none h']at hbk
 have hb2:w2.heap[b]? = some (.cells #[.pointer (some ⟨b,0,none⟩),v] 225 (0,0)):=by
  rw[hgrow.block b hlt (fun e=>hne e.symm)];exact hbk
 have d0:w2.cell? ⟨b,0,none⟩=some (.pointer (some ⟨b,0,none⟩)):=by rw[Lib.cell_of_heap hb2];rfl
 have d1:w2.cell? ⟨b,1,none⟩=some v:=by rw[Lib.cell_of_heap hb2];rfl
 have f1:w2.frozen? ⟨b,1,none⟩=false:=Lib.frozen_of_heap hb2 1;obtain⟨ao,n',cap,rfl⟩:∃ao n' cap,v'=.slice ao n' cap:=by
  rcases hown'.2 with ⟨hv,_⟩ | ⟨g,cap,cur,hv,_⟩
  ·exact⟨_,_,_,hv⟩
  ·exact⟨_,_,_,hv⟩
 go_wp2
 go_ret2
 refine⟨rfl,?_,?_⟩
 ·exact Lib.BuilderAt.put (T:=225) (e:=5) hB hb2 (bs':=bs++Lib.strCells s) (by simpa[Lib.strCells_length]using hown') (by decide)
 ·exact(hb1.grown hgrow (by have:=hb1.size;omega) (fun k hk=>(hown.lt k hk).1)).setCell (p:=⟨b,1,none⟩) hB _
end Go.Proofs
end
namespace Go.Ab
def pieces(n:Nat):List (List UInt8):=if h:n=0 then [] else Zdm 9 (n%1000000000)::pieces (n/1000000000)
termination_by n
decreasing_by exact Ydm (Yai h) (by decide)
theorem zca:pieces 0=[]:=by unfold pieces;simp
theorem zcs{n:Nat}(h:n≠0):pieces n=Zdm 9 (n%1000000000)::pieces (n/1000000000):=by
 conv=>lhs;unfold pieces
 rw[dif_neg h]
def Zdb(l:List (List UInt8)):List (List AV):=l.map fun s=>[.s s]
@[simp] theorem z1b(l:List (List UInt8)):(Zdb l).length=l.length:=by simp[Zdb]
@[simp] theorem z0a(l:List (List UInt8)):wkL (Zdb l)=Zdb l:=by
 induction l with
 | nil=>rfl
 | cons x l ih=>simpa[Zdb,wkL,wkR]using ih
theorem zxl(l:List (List UInt8))(s:List UInt8):Zdb l++[[.s s]]=Zdb (l++[s]):=by simp[Zdb]
def txL:AX:=
 (.note
 (.seq
 (.seq
  (.reg [⟨(some 11),none,.mov (.t 0)⟩,
   ⟨(some 12),none,.call 70 [(.t 11)]⟩,
   ⟨(some 13),none,.un .not (.t 12)⟩])
  (.cond (.t 13)
  .skip
  (.exit 0)))
 (.block 1
  (.seq
  (.reg [⟨(some 15),none,.mov (.t 0)⟩,
   ⟨(some 16),none,.call 90 [(.t 15),(.c (u32 1000000000))]⟩,
   ⟨(some 14),none,.mov (.t 16)⟩,
   ⟨(some 17),none,.ext (.t 14) 0⟩,
   ⟨(some 18),none,.ext (.t 14) 1⟩,
   ⟨(some 19),none,.ext (.t 14) 2⟩,
   ⟨(some 4),none,.mov (.t 17)⟩,
   ⟨(some 5),none,.mov (.t 18)⟩,
   ⟨(some 6),none,.mov (.t 19)⟩])
  (.seq
   (.reg [⟨(some 20),none,.mov (.t 3)⟩,
    ⟨(some 21),none,.mov (.t 5)⟩,
    ⟨(some 22),none,.call 101 [(.t 21)]⟩,
    ⟨(some 23),none,.bsl 1 [(.s [])] 1 [(0,(.t 22))]⟩,
    ⟨(some 24),none,.app 1 (.t 20) (.t 23)⟩,
    ⟨(some 3),none,.mov (.t 24)⟩])
   (.reg [⟨(some 25),none,.mov (.t 4)⟩,
    ⟨(some 0),none,.mov (.t 25)⟩])))))
 (.norm false [0,3]))
def tx0:AX:=(.reg [⟨(some 2),none,.mov (.c (.s []))⟩])
def txA:AX:=
  (.seq
  (.reg [⟨(some 9),none,.mov (.t 0)⟩,
   ⟨(some 10),none,.call 70 [(.t 9)]⟩])
  (.cond (.t 10)
   (.seq
   (.reg [⟨(some 2),none,.mov (.c (.s [48]))⟩])
   (.pre (.norm false [2]) .ret))
   .skip))
def tx3:AX:=(.note (.reg [⟨(some 3),none,.mov (.c (.sl [] .nl))⟩]) (.nil 3 1))
def txP:AX:=(.lp 0 (.norm false [0,3]) txL (.norm false [3]))
section
variable{T:Tbl}
theorem zah3(x:AV):evX (orc T) T 0 tx0 ⟨Zcv [x],[],1⟩=some (.n,⟨[(2,.s []),(0,x)],[],1⟩):=by
 simp -implicitDefEqProofs[tx0]
end
section
variable{T:Tbl}[Zs T]
theorem z9z(a:List UInt32)(hl:a.length≤1000)(h0:val a=0):evX (orc T) T 0 txA ⟨[(2,.s []),(0,.sl (Za a) .an)],[],1⟩=some (.r,⟨[(2,.s [48])],[],2⟩):=by
 have hz:=zf7 (T:=T) a (by omega);simp -implicitDefEqProofs[txA,hz,h0]
end
section
variable{T:Tbl}[Zs T]
theorem z90(a:List UInt32)(hl:a.length≤1000)(h0:val a≠0):evX (orc T) T 0 txA ⟨[(2,.s []),(0,.sl (Za a) .an)],[],1⟩ =
  some (.n,⟨[(10,.b false),(9,.sl (Za a) .an),(2,.s []),(0,.sl (Za a) .an)],[],1⟩):=by
 have hz:=zf7 (T:=T) a (by omega);simp -implicitDefEqProofs[txA,hz,h0]
end
section
variable{T:Tbl}[Zs T][Zw T][Zx T][Zt T][Z6 T]
def Zk9(a:List UInt32)(l:List (List UInt8)):St:=⟨[(0,.sl (Za a) .an),(3,.bs (.loc 3) 1 1 0 l.length)],[((.loc 3),⟨1,.own,1,Zdb l⟩)],3⟩
theorem zs2(l:List (List UInt8))(s:List UInt8):wkL (List.take l.length (Zdb l)++[[AV.s s]])=Zdb (l++[s]):=by
 rw[Yb (by simp),zxl,z0a]
end
section
variable{T:Tbl}[Zs T][Zt T][Z6 T]
theorem z0b(N:Nat)(hN:N≤4294967295)(L:List (List UInt8)):∀y:List UInt32×List (List UInt8),(y.1.length≤1000∧y.2++pieces (val y.1)=L∧L.length=N) →
  Zn T 0 0 (Gh.norm false [3]) txL (Zk9 y.1 y.2)=some (.n,⟨[(3,.bs (.loc 3) 1 1 0 L.length)],[((.loc 3),⟨1,.own,1,Zdb L⟩)],3⟩):=by
 refine zaz (fun y:List UInt32×List (List UInt8)=>Zk9 y.1 y.2) _ (fun y=>val y.1) _ ?_
 rintro⟨a,l⟩ ⟨ha,hL,hn⟩
 simp only at ha hL hn;have hz:=zf7 (T:=T) a (by omega);by_cases h0:val a=0
 ·right;rw[h0,zca,Ybh]at hL;subst hL;constructor<;>simp -implicitDefEqProofs[txL,Zk9,hz,h0]
 ·left;have hq:=zm0 (T:=T) a 1000000000 (by omega) (by omega) (by omega);have hn9:=zoi (T:=T) (val a%1000000000) (by omega);have hlen:(ofN (val a/1000000000)).length≤a.length:=Yc (zat (Ybx _ _)) (zac a);rw[zcs h0]at hL;have hll:l.length≤4294967295:=by have:=congrArg List.length hL;simp at this;omega
  refine⟨(ofN (val a/1000000000),l++[Zdm 9 (val a%1000000000)]),⟨by simp only;omega,by simp only[zae,Yax,Ydu];exact hL,hn⟩,?_,?_,rfl⟩
  ·simp only[zae];exact Ydm (Yai h0) (by decide)
  ·simp -implicitDefEqProofs[txL,Zk9,hz,hq,hn9,h0,hll,zs2]
end
section
variable{T:Tbl}[Zs T][Zw T][Zx T][Zt T][Z6 T]
theorem zgg:∀k n,n<1000000000^k→(pieces n).length≤k
 | 0,n,h=>by
  have:n=0:=by omega
  subst this;simp[zca]
 | k+1,n,h=>by
  by_cases h0:n=0
  ·subst h0;simp[zca]
  ·rw[zcs h0];have:=zgg k (n/1000000000) (Ybe (by rw[Yad,←Yw];exact h));simp only[Yy];omega
theorem zns(a:List UInt32):(pieces (val a)).length≤2*a.length:=by
 refine zgg _ _ (Yz (zay a) ?_);rw[Ydo];exact Yd7 (by decide) _
theorem zpd:∀n,∀s∈pieces n,s.length=9:=by
 intro n
 induction n using Nat.strongRecOn with
 | _ n ih=>
  intro s hs;by_cases h0:n=0
  ·subst h0;simp[zca]at hs
  ·rw[zcs h0]at hs;rcases Y5.1 hs with rfl | hs
   ·exact zfi 9 _
   ·exact ih _ (Ydm (Yai h0) (by decide)) s hs
theorem zkh:∀(k n:Nat),n≠0→n<10^k→(Zdm k n).dropWhile (· == 48)=Zay n
 | 0,n,h0,h=>by omega
 | k+1,n,h0,h=>by
  rw[zem];by_cases h1:n<10
  ·have e:n/10=0:=by omega
   have e2:n%10=n:=by omega
   have hz:∀j,(Zdm j 0).dropWhile (· == 48)=[]:=by
    intro j
    induction j with
    | zero=>rfl
    | succ j ih=>rw[zem,Ydv,Nat.zero_div,ih];rfl
   rw[e,e2,Ydv,hz,zfh h1];have:∀d,d<10→d≠0→List.dropWhile (fun x=>x == 48) [UInt8.ofNat (48+d)]=[UInt8.ofNat (48+d)]:=by decide
   simpa using this n h1 h0
  ·have ih:=zkh k (n/10) (by omega) (Ybe (by rw[Yad,←Yw];exact h));have hne:Zay (n/10)≠[]:=by
    unfold Zay;by_cases h2:n/10<10
    ·rw[zkd h2];simp
    ·rw[zqm h2];simp
   rw[Ydv,ih,znl h1];rw[if_neg (by simpa using hne)]
theorem zqx(j:Nat):∀(k n:Nat),Zdm (j+k) n=Zdm j (n/10^k)++Zdm k (n%10^k)
 | 0,n=>by simp[ziv]
 | k+1,n=>by
  rw[←Yan,zem,zqx j k (n/10),zem,Yax];have e1:n/10/10^k=n/10^(k+1):=by rw[Ybg,Yw,Yad]
  have e2:n/10%10^k=n%10^(k+1)/10:=by rw[Yw,Yad,Nat.mod_mul_right_div_self]
  have e3:n%10^(k+1)%10=n%10:=by rw[Yw,Nat.mod_mul_left_mod]
  rw[e1,e2,e3]
theorem zpe:∀n,(pieces n).reverse.flatten=Zdm (9*(pieces n).length) n:=by
 intro n
 induction n using Nat.strongRecOn with
 | _ n ih=>
  by_cases h0:n=0
  ·subst h0;simp[zca,ziv]
  ·rw[zcs h0,Yej,List.flatten_append,ih _ (Ydm (Yai h0) (by decide))];simp only[Yy,List.flatten_cons,List.flatten_nil,Ybh];rw[show 9*((pieces (n/1000000000)).length+1)=9*(pieces (n/1000000000)).length+9 by omega,zqx]
theorem zxm:∀n,n<10^(9*(pieces n).length):=by
 intro n
 induction n using Nat.strongRecOn with
 | _ n ih=>
  by_cases h0:n=0
  ·subst h0;simp[zca]
  ·have h:=ih _ (Ydm (Yai h0) (by decide:1<1000000000));rw[zcs h0,Yy,Yu,Ybk];exact(Ybl (by decide:0<10^(9*1))).1 h
theorem zpf(n:Nat)(h:n≠0):((pieces n).reverse.flatten).dropWhile (· == 48)=Zay n:=by
 rw[zpe];exact zkh _ n h (zxm n)
theorem zdg:∀(l:List (List UInt8)),(∀s∈l,s.length=9)→l.flatten.length=9*l.length
 | [],_=>rfl
 | s::l,h=>by
  rw[List.flatten_cons,Ya6,h s Yaa,zdg l fun s hs=>h s (Ys _ hs),Yy];omega
def Zlm(a:List UInt32):St:=⟨[(3,.bs (.loc 3) 1 1 0 0),(3,.sl [] .nl),(10,.b false),(9,.sl (Za a) .an),(2,.s []),(0,.sl (Za a) .an)],[(.loc 3,⟨1,.own,1,[]⟩)],2⟩
end
section
variable{T:Tbl}
theorem zah4(a:List UInt32):evX (orc T) T 0 tx3 ⟨[(10,.b false),(9,.sl (Za a) .an),(2,.s []),(0,.sl (Za a) .an)],[],1⟩=some (.n,Zlm a):=by
 simp -implicitDefEqProofs[tx3,Zlm]
end
section
variable{T:Tbl}[Zs T][Zt T][Z6 T]
theorem zah5(a:List UInt32)(hl:a.length≤1000):evX (orc T) T 0 txP (Zlm a) =
  some (.n,⟨[(3,.bs (.loc 3) 1 1 0 (pieces (val a)).length)],[((.loc 3),⟨1,.own,1,Zdb (pieces (val a))⟩)],3⟩):=by
 have hp:=zns a;have h:=z0b (T:=T) (pieces (val a)).length (by omega) (pieces (val a)) (a,[]) ⟨by simpa using hl,rfl,rfl⟩;unfold Zk9 at h;simp[Zdb]at h;simp -implicitDefEqProofs[Zlm,txP,h,Zdb]
end
section
variable{T:Tbl}
theorem zsu(res:List UInt8):∀l:List UInt8,(l.length≤1000000∧l.dropWhile (· == 48)=res) →
  Zn T 0 0 (.norm false [0]) l125_0 ⟨[(0,.s l),(1,u8 48)],[],2⟩=some (.n,⟨[(0,.s res)],[],2⟩):=by
 refine zaz (fun l:List UInt8=>⟨[(0,.s l),(1,u8 48)],[],2⟩) _ (fun l=>l.length) _ ?_
 rintro l ⟨hl,hr⟩
 cases l with
 | nil=>
  right;simp at hr;subst hr;constructor<;>simp -implicitDefEqProofs[l125_0]
 | cons c r=>
  simp only[Yy]at hl;have h2:(0:Int)<(r.length:Int)+1:=by omega
  have h3:(1:Int)≤(r.length:Int)+1:=by omega
  by_cases hc:c=48
  ·left;subst hc;rw[List.dropWhile_cons_of_pos (by decide)]at hr;exact⟨r,⟨by omega,hr⟩,Y4 _,by simp -implicitDefEqProofs[l125_0,h2,h3],rfl⟩
  ·right;rw[List.dropWhile_cons_of_neg (by simpa using hc)]at hr;subst hr;have hc':¬ c.toNat=48:=fun h=>hc (UInt8.toNat_inj.1 h);constructor<;>simp -implicitDefEqProofs[l125_0,h2,hc']
end
section
variable{T:Tbl}[Zh0 T]
theorem zw1(l:List UInt8)(hl:l.length≤1000000):Zb T 103 [.s l,.s [48]]=some (.s (l.dropWhile (· == 48))):=by
 have h:=zsu (T:=T) _ l ⟨hl,rfl⟩;have h1:Zb T 125 [.s l,u8 48]=some (.s (l.dropWhile (· == 48))):=by
  rw[zaa Zh0.h125 rfl,b125];simp -implicitDefEqProofs[h]
 obtain⟨Z,hZ⟩:∃Z,b103=(.seq
 (.reg [⟨(some 4),none,.mov (.c (.s []))⟩])
 (.seq
  (.seq
  (.reg [⟨(some 7),none,.mov (.t 0)⟩,
   ⟨(some 8),none,.bin .eql (.t 7) (.c (.s []))⟩,
   ⟨(some 9),none,.mov (.t 8)⟩,
   ⟨(some 10),(some (9,false)),.mov (.t 1)⟩,
   ⟨(some 11),(some (9,false)),.bin .eql (.t 10) (.c (.s []))⟩,
   ⟨(some 12),none,.pick (.t 9) (.c (.b true)) (.t 11)⟩])
  (.cond (.t 12)
   (.seq
   (.reg [⟨(some 13),none,.mov (.t 0)⟩,
    ⟨(some 4),none,.mov (.t 13)⟩])
   (.pre (.norm false [4]) .ret))
   .skip))
  (.seq
  (.seq
   (.reg [⟨(some 14),none,.mov (.t 1)⟩,
    ⟨(some 15),none,.lens (.t 14)⟩,
    ⟨(some 16),none,.bin .eql (.t 15) (.c (.i .i64 1))⟩,
    ⟨(some 17),none,.mov (.t 16)⟩,
    ⟨(some 18),(some (17,true)),.mov (.t 1)⟩,
    ⟨(some 19),(some (17,true)),.ixs (.t 18) (.c (.i .i64 0))⟩,
    ⟨(some 20),(some (17,true)),.bin .lss (.t 19) (.c (u8 128))⟩,
    ⟨(some 21),none,.pick (.t 17) (.t 20) (.c (.b false))⟩])
   (.cond (.t 21)
   (.seq
    (.reg [⟨(some 22),none,.mov (.t 0)⟩,
     ⟨(some 23),none,.mov (.t 1)⟩,
     ⟨(some 24),none,.ixs (.t 23) (.c (.i .i64 0))⟩,
     ⟨(some 25),none,.call 125 [(.t 22),(.t 24)]⟩,
     ⟨(some 4),none,.mov (.t 25)⟩])
    (.pre (.norm false [4]) .ret))
   .skip)) Z)):AX):=⟨_,rfl⟩
 rw[zaa Zh0.h103 rfl,hZ];by_cases h0:l=[]
 ·subst h0;simp -implicitDefEqProofs
 ·simp -implicitDefEqProofs[h0,h1]
end
section
variable{P:Program}{ν:Nat→FuncId}{T:Tbl}
theorem zuu(hT:TOk P ν T)(hm:P.follows .mixedOrders=true){cx:Cx}(hP:cx.P=P)(hk:cx.clk0=1)(c:AX){code:Code}{nt:Nat}(hnt:cx.nt=nt)(hres:Zaj P nt code=some (er ν (Zo T) c)){st:St}{e:Ex}{st':St}
  (h:evX (orc T) T 0 c st=some (e,st')) {a:Act} {w:World} (hr:Rel cx st a w) {K:Exit→Act→World→Prop} (hK:∀a' w',Rel cx st' a' w'→K e.out a' w'):code.wp P K a w:=by
 obtain⟨L,h1,h2⟩:=zcy T 0 c st _ _ h;obtain⟨n,hn⟩:=zog T h1;have hev:=zbl (GoodO.orcN hT hm n) (k:=0) (cx:=cx) hP hk c st e st' (h2 _ hn);subst hP hnt;refine wp_mono (hev code hres hm a w hr) ?_
 rintro ex a' w' ⟨s,⟨rfl,rfl⟩,hr'⟩
 exact hK a' w' hr'
theorem zuv{nt:Nat}{w:World}{S:Nat→Nat→Prop}{cargs:Array Value}{args:List AV}(hl:cargs.size=args.length)(hn:args.length≤nt)
  (hC:∀(j:Nat) (v:Value) (c:AV),cargs[j]? = some v→args[j]? = some c→CP w S v c) (hS:∀k o,S k o→k<w.heap.size) :
  Rel ⟨P,nt,w,S,fun _=>none,1⟩ ⟨Zcv args,[],1⟩ { tmps:=cargs++Array.replicate (nt-cargs.size) undef,defers:=[] } w:=by
 refine⟨S,fun _=>none,by simp;omega,rfl,fun t=>?_,⟨⟨fun b bx hb=>(by simp at hb),fun g m hm=>(by cases hm),fun b bx b' bx' h1=>(by simp at h1),fun g g' k h1=>(by cases h1)⟩,
  Ext.refl _ _ _ _,⟨rfl,rfl,rfl,Yh _,fun _ _ _=>rfl⟩,fun k o hs=>.inl hs,hS,fun g k hm=>(by cases hm)⟩⟩
 rw[zjo];cases ha:args[t]? with
 | none=>exact .p (.dead _)
 | some x=>
  have htl:=zbb ha;have hv:cargs[t]? = some (cargs[t]'(by omega)):=Y8 _;have e1:(cargs++Array.replicate (nt-cargs.size) undef).getD t undef=cargs[t]'(by omega):=by
   simp only[Yd4];rw[Ya7 (by omega),hv]
   rfl
  rw[e1];exact .p (hC t _ x hv ha)
theorem Rel.below{nt:Nat}{w0:World}{S:Nat→Nat→Prop}{st:St}{a:Act}{w:World}(h:Rel ⟨P,nt,w0,S,fun _=>none,1⟩ st a w):RowKit.Below w0.heap.size w0 w:=by
 obtain⟨S',M',hr⟩:=h;exact⟨hr.wr.fr.os,hr.wr.fr.tape,hr.wr.fr.output,hr.wr.fr.size,fun k hk=>hr.wr.fr.block k hk fun⟨g,hg⟩=>(by cases hg)⟩
theorem Rel.strAt{cx:Cx}{st:St}{a:Act}{w:World}(h:Rel cx st a w){t:Nat}{l:List UInt8}(he:st.env.get t=.s l):a.tmps.getD t undef=.string ⟨l.toArray⟩:=by
 obtain⟨S',M',hr⟩:=h;have:=hr.env t;rw[he]at this;generalize a.tmps.getD t undef=v at *
 cases this with
 | p h=>cases h;rfl
theorem Rel.strs{cx:Cx}{st:St}{a:Act}{w:World}(h:Rel cx st a w){t:Nat}{b:BId}{g n:Nat}{ls:List (List UInt8)}(hne:ls≠[])(he:st.env.get t=.bs b g 1 0 n)
  (hb:st.heap.lookup b=some ⟨g,.own,1,ls.map fun s=>[.s s]⟩):∃k arr e cap,a.tmps.getD t undef=.slice (some ⟨k,0,none⟩) n cap∧w.heap[k]? = some (.cells arr e (0,0))∧n≤cap∧cap≤maxLen∧cap≤arr.size ∧
   ∀(i:Nat) (s:List UInt8),ls[i]? = some s→arr[i]? = some (Value.string ⟨s.toArray⟩):=by
 obtain⟨S',M',hr⟩:=h;have h1:=hr.env t;rw[he]at h1;obtain⟨_,_,m,hm,h2⟩:=hr.wr.heap.box b _ hb;simp only at hm h2;generalize a.tmps.getD t undef=v at *
 cases h1 with
 | p h=>cases h
 | bs _ _ _ _ _ _ hg hB h1=>
  unfold Zfb at hB;rw[hm]at hB;cases m with
  | none=>exact absurd (by simpa using h2.1) hne
  | some k=>
   obtain⟨arr,e,cap,hk,hv,c1,c2,c3⟩:=hB;obtain⟨arr',e',hk',_,hcells,_⟩:=h2;rw[hk]at hk';cases hk';refine⟨k,arr,e,cap,by rw[hv],hk,c1,c2,by omega,fun i s hi=>?_⟩;obtain⟨u,hu,_,_,hc⟩:=hcells i [.s s] 0 (.s s) (by simp[hi]) rfl;have:=hc (by simp);rw[Ycl,Yt]at hu;cases this;exact hu
end
end Go.Ab
section
namespace Go.Proofs.YtjhilbodpmnbmaaGreatDoor
open Go Go.Ab Go.RowKit
theorem list_cons{α:Type}{n:Nat}{l:List α}(h:l.length=n+1):∃x t,l=x::t∧t.length=n:=by
 cases l with
 | nil=>simp at h
 | cons x t=>exact⟨x,t,rfl,by simpa using h⟩
set_option maxHeartbeats 2000000 in
set_option maxRecDepth 100000 in
theorem text_calls(hm:Tryz.prog.follows .mixedOrders=true)(a:List UInt32)(hl:a.length≤1000){w0:World}{S:Nat→Nat→Prop}{cargs:Array Value}(hsz:cargs.size=1)
  (hC:∀(j:Nat) (v:Value) (c:AV),cargs[j]? = some v→[AV.sl (Za a) .an][j]? = some c→CP w0 S v c) (hS:∀k o,S k o→k<w0.heap.size) :
  Calls Tryz.prog 144 cargs w0 fun e w'=>e=.returned (.string ⟨(Zay (val a)).toArray⟩)∧Below w0.heap.size w0 w':=by
 refine calls_of_wp Tryz.func144 rfl ?_;have h0:=zuv (P:=Tryz.prog) (nt:=40) (w:=w0) (S:=S) (cargs:=cargs) (args:=[AV.sl (Za a) .an]) (by simpa using hsz) (by simp) hC hS;refine wp_seq (zuu sTab_ok hm (cx:=⟨Tryz.prog,40,w0,S,fun _=>none,1⟩) rfl rfl tx0 (nt:=40) rfl (by kernel_rfl) (sTab_part.ev (by kernel_rfl) (zah3 (T:=tab) _)) h0 fun a1 w1 h1=>?_);refine wp_seq ?_;by_cases hz:val a=0
 ·refine zuu sTab_ok hm (cx:=⟨Tryz.prog,40,w0,S,fun _=>none,1⟩) rfl rfl txA (nt:=40) rfl (by kernel_rfl) (sTab_part.ev (by kernel_rfl) (z9z (T:=tab) a hl hz)) h1 fun a2 w2 h2=>?_;have hv:=h2.strAt (t:=2) (l:=[48]) rfl;have hb:=h2.below;have ht:Zay (val a)=[48]:=by rw[hz];exact zfh (by decide)
  obtain⟨_,_,hr2⟩:=h2;refine(show bodyPost Tryz.prog Tryz.f144 (fun e w'=>e=.returned (.string ⟨(Zay (val a)).toArray⟩)∧Below w0.heap.size w0 w') .ret a2 w2 from ?_);refine⟨hr2.defers,.string ⟨[48].toArray⟩,?_,by rw[ht],hb⟩;rw[←hv];exact results_tmp rfl _ _ _
 ·refine zuu sTab_ok hm (cx:=⟨Tryz.prog,40,w0,S,fun _=>none,1⟩) rfl rfl txA (nt:=40) rfl (by kernel_rfl) (sTab_part.ev (by kernel_rfl) (z90 (T:=tab) a hl hz)) h1 fun a2 w2 h2=>?_;refine wp_seq (zuu sTab_ok hm (cx:=⟨Tryz.prog,40,w0,S,fun _=>none,1⟩) rfl rfl tx3 (nt:=40) rfl (by kernel_rfl) (sTab_part.ev (by kernel_rfl) (zah4 (T:=tab) a)) h2 fun a3 w3 h3=>?_);refine wp_seq (zuu sTab_ok hm (cx:=⟨Tryz.prog,40,w0,S,fun _=>none,1⟩) rfl rfl txP (nt:=40) rfl (by kernel_rfl) (sTab_part.ev (by kernel_rfl) (zah5 (T:=tab) a hl)) h3 fun a4 w4 h4=>?_);have hb4:=h4.below;have hne:pieces (val a)≠[]:=by rw[zcs hz];simp
  obtain⟨k,arr,e,cap,hv,hk,hc1,hc2,hc3,hcells⟩:=h4.strs (t:=3) (ls:=pieces (val a)) hne rfl (by simp[Zdb]);obtain⟨_,_,hr4⟩:=h4;have hdf:=hr4.defers;have hsz:=hr4.size;have hpl:=zns a;clear hr4 h0 h1 h2 h3
  change Code.wp _ _ _ a4 w4
  obtain⟨tm,df⟩:=a4;obtain⟨l,rfl⟩:∃l:List Value,tm=l.toArray:=⟨tm.toList,by simp⟩;simp only[Yek]at hsz;simp only at hdf;subst hdf;obtain⟨x0,l0,rfl,s0⟩:=list_cons hsz;obtain⟨x1,l1,rfl,s1⟩:=list_cons s0;obtain⟨x2,l2,rfl,s2⟩:=list_cons s1;obtain⟨x3,l3,rfl,s3⟩:=list_cons s2;obtain⟨x4,l4,rfl,s4⟩:=list_cons s3;obtain⟨x5,l5,rfl,s5⟩:=list_cons s4;obtain⟨x6,l6,rfl,s6⟩:=list_cons s5;obtain⟨x7,l7,rfl,s7⟩:=list_cons s6;obtain⟨x8,l8,rfl,s8⟩:=list_cons s7;obtain⟨x9,l9,rfl,s9⟩:=list_cons s8;obtain⟨x10,l10,rfl,s10⟩:=list_cons s9;obtain⟨x11,l11,rfl,s11⟩:=list_cons s10;obtain⟨x12,l12,rfl,s12⟩:=list_cons s11;obtain⟨x13,l13,rfl,s13⟩:=list_cons s12;obtain⟨x14,l14,rfl,s14⟩:=list_cons s13;obtain⟨x15,l15,rfl,s15⟩:=list_cons s14;obtain⟨x16,l16,rfl,s16⟩:=list_cons s15;obtain⟨x17,l17,rfl,s17⟩:=list_cons s16;obtain⟨x18,l18,rfl,s18⟩:=list_cons s17;obtain⟨x19,l19,rfl,s19⟩:=list_cons s18;obtain⟨x20,l20,rfl,s20⟩:=list_cons s19;obtain⟨x21,l21,rfl,s21⟩:=list_cons s20;obtain⟨x22,l22,rfl,s22⟩:=list_cons s21;obtain⟨x23,l23,rfl,s23⟩:=list_cons s22;obtain⟨x24,l24,rfl,s24⟩:=list_cons s23;obtain⟨x25,l25,rfl,s25⟩:=list_cons s24;obtain⟨x26,l26,rfl,s26⟩:=list_cons s25;obtain⟨x27,l27,rfl,s27⟩:=list_cons s26;obtain⟨x28,l28,rfl,s28⟩:=list_cons s27;obtain⟨x29,l29,rfl,s29⟩:=list_cons s28;obtain⟨x30,l30,rfl,s30⟩:=list_cons s29;obtain⟨x31,l31,rfl,s31⟩:=list_cons s30;obtain⟨x32,l32,rfl,s32⟩:=list_cons s31;obtain⟨x33,l33,rfl,s33⟩:=list_cons s32;obtain⟨x34,l34,rfl,s34⟩:=list_cons s33;obtain⟨x35,l35,rfl,s35⟩:=list_cons s34;obtain⟨x36,l36,rfl,s36⟩:=list_cons s35;obtain⟨x37,l37,rfl,s37⟩:=list_cons s36;obtain⟨x38,l38,rfl,s38⟩:=list_cons s37;obtain⟨x39,l39,rfl,s39⟩:=list_cons s38;cases Yaz s39;have hx3:x3=.slice (some ⟨k,0,none⟩) (pieces (val a)).length cap:=hv;subst hx3;have hjoin:=zpf (val a) hz;have hall:=zpd (val a);generalize pieces (val a)=ps at *
  have HC:Aside (∀(i:Nat) (s:List UInt8),ps[i]? = some s→arr[i]? = some (Value.string ⟨s.toArray⟩)):=hcells;have HJ:Aside (List.dropWhile (fun x=>x == 48) ps.reverse.flatten=Zay (val a)):=hjoin;have HN:Aside (∀s∈ps,s.length=9):=hall;have HB:Aside (Below w0.heap.size w0 w4):=hb4;have HK:Aside (w4.heap[k]? = some (.cells arr e (0,0))):=hk;have hk4:k<w4.heap.size:=by
   rcases Yq k w4.heap.size with h' | h'
   ·exact h'
   ·simp[Yb5 h']at hk
  clear hcells hjoin hall hb4 hk
  go_wp2
  go_loopg [8] ps.length (fun g s8 wx=>s8=.int .i64 ((g:Int)-1)∧g≤ps.length∧Aside (Lib.IsBuilder 225 5 w4.heap.size w4.heap.size (Lib.byteCells (ps.drop g).reverse.flatten) wx∧Below w4.heap.size w4 wx))
  case atStart=>exact⟨rfl,Yh _,by rw[Yaf];exact Lib.fresh_isBuilder 225 5 w4,(Below.refl _ _).alloc (Yh _) _⟩
  case round=>
   obtain⟨rfl,hg,HW⟩:=hrel;cases gk with
   | zero=>
    obtain⟨hBld,hBel⟩:=HW.out;rw[Yar]at hBld;have hne':ps.reverse.flatten≠[]:=by
     intro h;have:=zdg ps.reverse (fun s hs=>HN.out s (Ydy.1 hs));rw[h]at this;simp at this;exact hne (Yaz (by omega))
    have HT:Aside (ps.reverse.flatten≠[]):=hne';clear hne';have hlenF:ps.reverse.flatten.length≤1000000:=by
     rw[zdg ps.reverse (fun s hs=>HN.out s (Ydy.1 hs)),Ydb];omega
    have hT:∀W:World,Calls Tryz.prog 190 #[.string ⟨ps.reverse.flatten.toArray⟩,.string ⟨#[48]⟩] W fun e w'=>e=.returned (.string ⟨(Zay (val a)).toArray⟩)∧Below W.heap.size W w':=by
     intro W;have h1:=zh8 sTab_ok hm (u:=103) rfl rfl (sTab_part.call (by kernel_rfl) (zw1 (T:=tab) ps.reverse.flatten hlenF));rw[HJ.out]at h1;refine(h1.2 W (fun _ _=>False) #[.string ⟨ps.reverse.flatten.toArray⟩,.string ⟨#[48]⟩] rfl (fun j v c hv hc=>?_) (fun _ _ h=>h.elim)).mono ?_
     ·match j,hv,hc with
      | 0,hv,hc=>cases hv;cases hc;exact .s _
      | 1,hv,hc=>cases hv;cases hc;exact .s _
     ·rintro e w' ⟨v,r,rfl,rfl,hb,hc⟩
      cases hc;exact⟨rfl,hb⟩
    have HTT:=hT;clear hT
    go_wp2_with (go_at_call 147;refine(Tryz.bString w4.heap.size w4.heap.size ps.reverse.flatten wr hBld HT.out).mono ?_)
    rintro e1 w5 ⟨rfl,hb5⟩
    go_wp2_with (go_at_call 190;refine(HTT w5).mono ?_)
    rintro e2 w6 ⟨rfl,hb6⟩
    go_wp2
    go_ret
    refine⟨rfl,?_⟩;have hs1:=HB.out.size;have hs5:=(hBel.trans hb5).size;exact HB.out.trans (((hBel.trans hb5).mono hs1).trans (hb6.mono (by omega)))
   | succ j=>
    obtain⟨hBld,hBel⟩:=HW.out;obtain⟨s,hs⟩:∃s,ps[j]? = some s:=⟨_,Ya (by omega)⟩;have hcell:wr.cell? ⟨k,j,none⟩=some (.string ⟨s.toArray⟩):=by
     rw[hBel.cell (p:=⟨k,j,none⟩) hk4,Lib.cell_of_heap HK.out];exact HC.out j s hs
    have hs9:s.length=9:=HN.out s (Ye hs);have hflen:=zdg (ps.drop (j+1)).reverse (fun s hs=>HN.out s (Yc5 (Ydy.1 hs)));have HS:Aside (ps[j]? = some s):=hs;clear hs;rw[Ydb,Yby]at hflen;have hbound:(Lib.byteCells (ps.drop (j+1)).reverse.flatten).length+(⟨s.toArray⟩:ByteArray).size≤140737488355328:=by
     rw[Lib.byteCells_length,hflen];show _+s.toArray.size≤_;simp only[Yek];omega
    have HF:Aside ((Lib.byteCells (ps.drop (j+1)).reverse.flatten).length+(⟨s.toArray⟩:ByteArray).size≤140737488355328):=hbound;clear hflen hbound
    go_wp2_with (go_at_call 146;refine(Tryz.bWrite w4.heap.size w4.heap.size _ ⟨s.toArray⟩ wr hBld HF.out hBel.size).mono ?_)
    rintro e1 w5 ⟨rfl,h5,hb5⟩
    go_wp2
    go_roundg j
    case measure=>omega
    case rel=>
     refine⟨by congr 1,by omega,?_,hBel.trans hb5⟩;have e1:(ps.drop j).reverse.flatten=(ps.drop (j+1)).reverse.flatten++s:=by
      obtain⟨hj,he⟩:=Yd.1 HS.out;rw[Yf hj,he];simp
     rw[e1,Lib.byteCells_append];exact .inr h5
theorem word_rows:∀(els:List (List AV)) (l:List UInt32),els.mapM Zfl=some l→els=Za l
 | [],l,h=>by cases h;rfl
 | r::els,l,h=>by
  rw[Ybi]at h;obtain⟨x,hx,h1⟩:=bind_some h;obtain⟨y,hy,h2⟩:=bind_some h1;cases h2;rw[word_rows els y hy];unfold Zfl at hx;split at hx
  ·split at hx
   ·cases hx;rename_i n hn;have:(w32 n.toNat).toNat=n.toNat:=zag (by omega);simp only[Za,Y1,this,u32];rw[Int.toNat_of_nonneg hn.1]
   ·cases hx
  ·cases hx
theorem text_ok(hm:Tryz.prog.follows .mixedOrders=true):∀xs r,prim68 xs=some r→Zbb Tryz.prog (nu 68) xs (·=r):=by
 intro xs r h;unfold prim68 at h;split at h
 ·split at h
  ·rename_i els hl;cases hw:els.mapM Zfl with
   | none=>rw[hw]at h;cases h
   | some l=>
    rw[hw]at h;cases h;have he:=word_rows els l hw;subst he;rw[zib]at hl;refine⟨enters_of Tryz.func144 (by kernel_rfl) rfl,fun w S cargs hsz hC hS=>?_⟩;refine(text_calls hm l hl (by simpa using hsz) hC hS).mono ?_
    rintro e w' ⟨rfl,hb⟩
    exact⟨_,_,rfl,rfl,hb,.s _⟩
  ·cases h
 ·cases h
#print axioms text_ok
end Go.Proofs.YtjhilbodpmnbmaaGreatDoor
end
section
set_option linter.unusedVariables false
namespace Go.Proofs
open Go.Shelf Go.RowKit
variable{P:Program}{ρ:Ren}
structure JL (P:Program) (ρ:Ren):Prop extends Lays.n169 P ρ,Lays.n241 P ρ,Builder.Extra P ρ where
 f156:P.funcs[ρ.f 156]? = some (Body.n156 ρ)
 f165:P.funcs[ρ.f 165]? = some (Body.n165 ρ)
 f166:P.funcs[ρ.f 166]? = some (Body.n166 ρ)
 t4:P.underlying (ρ.t 4)=some (TypeDesc.bool)
 a4:∀w,(isAgg (ρ.t 4)).run P w=.ok false w
 z4:∀w,(Go.sizeOf (ρ.t 4)).run P w=.ok 1 w
 v4:∀w,(zeroValue (ρ.t 4)).run P w=.ok (Value.bool false) w
 t20:P.underlying (ρ.t 20)=some (TypeDesc.interface #[])
 a20:∀w,(isAgg (ρ.t 20)).run P w=.ok false w
 z20:∀w,(Go.sizeOf (ρ.t 20)).run P w=.ok 1 w
 v20:∀w,(zeroValue (ρ.t 20)).run P w=.ok (Value.nilIface) w
 t31:P.underlying (ρ.t 31)=some (TypeDesc.slice (ρ.t 9))
 a31:∀w,(isAgg (ρ.t 31)).run P w=.ok false w
 z31:∀w,(Go.sizeOf (ρ.t 31)).run P w=.ok 1 w
 v31:∀w,(zeroValue (ρ.t 31)).run P w=.ok (Value.slice none 0 0) w
 t75:P.underlying (ρ.t 75)=some (TypeDesc.interface #[("Error",ρ.t 80)])
 a75:∀w,(isAgg (ρ.t 75)).run P w=.ok false w
 z75:∀w,(Go.sizeOf (ρ.t 75)).run P w=.ok 1 w
 v75:∀w,(zeroValue (ρ.t 75)).run P w=.ok (Value.nilIface) w
 t76:P.underlying (ρ.t 76)=some (TypeDesc.tuple #[ρ.t 3,ρ.t 75])
 a76:∀w,(isAgg (ρ.t 76)).run P w=.ok false w
 z76:∀w,(Go.sizeOf (ρ.t 76)).run P w=.ok 1 w
 v76:∀w,(zeroValue (ρ.t 76)).run P w=.ok (Value.tuple #[Value.int IntKind.i64 0,Value.nilIface]) w
 t164:P.underlying (ρ.t 164)=some (TypeDesc.unsafePointer)
 a164:∀w,(isAgg (ρ.t 164)).run P w=.ok false w
 z164:∀w,(Go.sizeOf (ρ.t 164)).run P w=.ok 1 w
 v164:∀w,(zeroValue (ρ.t 164)).run P w=.ok (Value.pointer none) w
 e240:∀args w,(callFunc (ρ.f 240) args).run P w=.ok (.enter (ρ.f 240) args) w
 c240:∀(B b:Nat) (bs:List Value) (w:World),Lib.IsBuilder (ρ.t 72) (ρ.t 5) B b bs w →
  Calls P (ρ.f 240) #[.pointer (some ⟨b,0,none⟩)] w fun e w'=>e=.returned (.tuple #[])∧(Lib.BuilderAt (ρ.t 72) (ρ.t 5) B b (.pointer (some ⟨b,0,none⟩)) bs w'∧Below B w w')
 c240f:∀(b:Nat) (w:World),w.cell? ⟨b,0,none⟩=some (.pointer none)→w.shape? b=some ((ρ.t 72),2)→w.frozen? ⟨b,0,none⟩=false →
  Calls P (ρ.f 240) #[.pointer (some ⟨b,0,none⟩)] w fun e w'=>e=.returned (.tuple #[])∧w'=w.setCell ⟨b,0,none⟩ (.pointer (some ⟨b,0,none⟩))
theorem Jl.hid{p:Prop}(h:p):Hid p:=h
set_option maxHeartbeats 2000000 in
set_option maxRecDepth 100000 in
theorem Jl.Builder_WriteString(L:JL P ρ)(B b:Nat)(bs:List Value)(s:ByteArray)(w:World)(h:Lib.IsBuilder (ρ.t 72) (ρ.t 5) B b bs w)(hlen:bs.length+s.size≤140737488355328)(hBw:B≤w.heap.size) :
  Calls P (ρ.f 166) #[.pointer (some ⟨b,0,none⟩),.string s] w fun e w'=>e=.returned (.tuple #[.int .i64 s.size,.nilIface])∧(Lib.BuilderAt (ρ.t 72) (ρ.t 5) B b (.pointer (some ⟨b,0,none⟩)) (bs++Lib.strCells s) w'∧Below B w w'):=by
 obtain⟨i0,hi,hz0,hz1,hz2⟩:=info_parts L.infoByte;have mixed:=L.mixed;have t72:=L.t72;have a72:=L.a72;have z72:=L.z72;have v72:=L.v72;have u72:=run_underlying L.t72;have t70:=L.t70;have a70:=L.a70;have z70:=L.z70;have v70:=L.v70;have u70:=run_underlying L.t70;have t37:=L.t37;have a37:=L.a37;have z37:=L.z37;have v37:=L.v37;have u37:=run_underlying L.t37;have t3:=L.t3;have a3:=L.a3;have z3:=L.z3;have v3:=L.v3;have u3:=run_underlying L.t3;have t9:=L.t9;have a9:=L.a9;have z9:=L.z9;have v9:=L.v9;have u9:=run_underlying L.t9;have t4:=L.t4;have a4:=L.a4;have z4:=L.z4;have v4:=L.v4;have u4:=run_underlying L.t4;have t164:=L.t164;have a164:=L.a164;have z164:=L.z164;have v164:=L.v164;have u164:=run_underlying L.t164;have t5:=L.t5;have a5:=L.a5;have z5:=L.z5;have v5:=L.v5;have u5:=run_underlying L.t5;have e240:∀args w,(callFunc (ρ.f 240) args).run P w=.ok (.enter (ρ.f 240) args) w:=L.e240
 go_enter L.f166,Body.n166_ntmps ρ
 go_wp2_with (go_at_fn (ρ.f 240);refine(L.c240 B b bs _ h).mono ?_)
 rintro e w1 ⟨rfl,h1,hb1⟩
 obtain⟨hB,v,hbk,hown,hne⟩:=h1;have c0:w1.cell? ⟨b,0,none⟩=some (.pointer (some ⟨b,0,none⟩)):=by rw[Lib.cell_of_heap hbk];rfl
 have c1:w1.cell? ⟨b,1,none⟩=some v:=by rw[Lib.cell_of_heap hbk];rfl
 go_wp2_with (at_builtin;refine Lib.wpList_append_own_string _ rfl _ _ (ρ.t 37) (ρ.t 9) rfl B (ρ.t 5) i0 L.t37 L.t9 hi hz0 hz1 hz2 _ _ _ rfl hown s rfl ?c3 ?c4 ?c5 ?_)
 case c3=>unfold maxLen;omega
 case c4=>omega
 case c5=>have:=hb1.size;omega
 intro v' w2 hown' hgrow _;have hlt:b<w1.heap.size:=by
  rcases Nat.lt_or_ge b w1.heap.size with h' | h'
  ·exact h'
  ·simp[Array.getElem?_eq_none h']at hbk
 have hb2:w2.heap[b]? = some (.cells #[.pointer (some ⟨b,0,none⟩),v] (ρ.t 72) (0,0)):=by
  rw[hgrow.block b hlt (fun e=>hne e.symm)];exact hbk
 have d0:w2.cell? ⟨b,0,none⟩=some (.pointer (some ⟨b,0,none⟩)):=by rw[Lib.cell_of_heap hb2];rfl
 have d1:w2.cell? ⟨b,1,none⟩=some v:=by rw[Lib.cell_of_heap hb2];rfl
 have f1:w2.frozen? ⟨b,1,none⟩=false:=Lib.frozen_of_heap hb2 1;obtain⟨ao,n',cap,rfl⟩:∃ao n' cap,v'=.slice ao n' cap:=by
  rcases hown'.2 with ⟨hv,_⟩ | ⟨g,cap,cur,hv,_⟩
  ·exact⟨_,_,_,hv⟩
  ·exact⟨_,_,_,hv⟩
 go_wp2
 go_ret2
 refine⟨rfl,?_,?_⟩
 ·exact Lib.BuilderAt.put (T:=(ρ.t 72)) (e:=(ρ.t 5)) hB hb2 (bs':=bs++Lib.strCells s) (by simpa[Lib.strCells_length]using hown') L.neB5
 ·exact(hb1.grown hgrow (by have:=hb1.size;omega) (fun k hk=>(hown.lt k hk).1)).setCell (p:=⟨b,1,none⟩) hB _
set_option maxHeartbeats 2000000 in
set_option maxRecDepth 1000000 in
theorem Jl.Builder_Grow_fresh(L:JL P ρ)(B b n:Nat)(w:World)(hB:B≤b)(hbk:w.heap[b]? = some (.cells #[.pointer none,.slice none 0 0] (ρ.t 72) (0,0)))(hBw:B≤w.heap.size)(hn:n≤281474976710656) :
  Calls P (ρ.f 165) #[.pointer (some ⟨b,0,none⟩),.int .i64 n] w fun e w'=>e=.returned (.tuple #[])∧(Lib.BuilderAt (ρ.t 72) (ρ.t 5) B b (.pointer (some ⟨b,0,none⟩)) [] w'∧Below B w w'):=by
 have hbk1:(w.setCell ⟨b,0,none⟩ (.pointer (some ⟨b,0,none⟩))).heap[b]? = some (.cells #[.pointer (some ⟨b,0,none⟩),.slice none 0 0] (ρ.t 72) (0,0)):=by
  simp[World.setCell,Array.getElem?_modify,hbk]
 have c1:(w.setCell ⟨b,0,none⟩ (.pointer (some ⟨b,0,none⟩))).cell? ⟨b,1,none⟩=some (.slice none 0 0):=by rw[Lib.cell_of_heap hbk1];rfl
 have hb1:Below B w (w.setCell ⟨b,0,none⟩ (.pointer (some ⟨b,0,none⟩))):=(Below.refl B w).setCell (p:=⟨b,0,none⟩) hB _;have mixed:=L.mixed;have t72:=L.t72;have a72:=L.a72;have z72:=L.z72;have v72:=L.v72;have u72:=run_underlying L.t72;have t70:=L.t70;have a70:=L.a70;have z70:=L.z70;have v70:=L.v70;have u70:=run_underlying L.t70;have t37:=L.t37;have a37:=L.a37;have z37:=L.z37;have v37:=L.v37;have u37:=run_underlying L.t37;have t3:=L.t3;have a3:=L.a3;have z3:=L.z3;have v3:=L.v3;have u3:=run_underlying L.t3;have t9:=L.t9;have a9:=L.a9;have z9:=L.z9;have v9:=L.v9;have u9:=run_underlying L.t9;have t4:=L.t4;have a4:=L.a4;have z4:=L.z4;have v4:=L.v4;have u4:=run_underlying L.t4;have t164:=L.t164;have a164:=L.a164;have z164:=L.z164;have v164:=L.v164;have u164:=run_underlying L.t164;have t5:=L.t5;have a5:=L.a5;have z5:=L.z5;have v5:=L.v5;have u5:=run_underlying L.t5;have e240:∀args w,(callFunc (ρ.f 240) args).run P w=.ok (.enter (ρ.f 240) args) w:=L.e240;have e241:∀args w,(callFunc (ρ.f 241) args).run P w=.ok (.enter (ρ.f 241) args) w:=enters_of L.f241 (by kernel_rfl) rfl
 go_enter L.f165,Body.n165_ntmps ρ
 have hU:Lib.BuilderAt (ρ.t 72) (ρ.t 5) B b (.pointer (some ⟨b,0,none⟩)) [] (w.setCell ⟨b,0,none⟩ (.pointer (some ⟨b,0,none⟩))):=⟨hB,.slice none 0 0,hbk1,World.ownsRow_nil _ _ _ _,by simp[Value.ownBlock]⟩;have c1':(w.setCell ⟨b,0,none⟩ (.pointer (some ⟨b,0,none⟩))).drew.cell? ⟨b,1,none⟩=some (.slice none 0 0):=c1
 go_wp2_with (go_at_fn (ρ.f 240);refine(L.c240f b w (by rw[Lib.cell_of_heap hbk];rfl) (by simp[World.shape?,hbk]) (Lib.frozen_of_heap hbk 0)).mono ?_;rintro e w' ⟨rfl,rfl⟩)
 go_region_o
 all_goals go_wp2_with (go_at_fn (ρ.f 241);refine(Any.Builder_grow_fresh L.ton241 L.toExtra B b n (w.setCell ⟨b,0,none⟩ (.pointer (some ⟨b,0,none⟩))).drew hB hbk1 (by simpa[World.setCell,World.drew,-World.drew_eq]using hBw) hn).mono ?_;rintro e w' ⟨rfl,h1,h2⟩)
 all_goals first
  | (go_end0;exact⟨rfl,h1,hb1.drew.trans h2⟩)
  | (go_end0;exact⟨rfl,hU.drew,hb1.drew⟩)
theorem Jl.strings_Join_none(L:JL P ρ)(a:Option Addr)(c:Nat)(sep:ByteArray)(w:World) :
  Calls P (ρ.f 156) #[.slice a 0 c,.string sep] w fun e w'=>e=.returned (.string ⟨#[]⟩)∧w'=w:=by
 have mixed:=L.mixed;have t72:=L.t72;have a72:=L.a72;have z72:=L.z72;have v72:=L.v72;have u72:=run_underlying L.t72;have t70:=L.t70;have a70:=L.a70;have z70:=L.z70;have v70:=L.v70;have u70:=run_underlying L.t70;have t37:=L.t37;have a37:=L.a37;have z37:=L.z37;have v37:=L.v37;have u37:=run_underlying L.t37;have t127:=L.t127;have a127:=L.a127;have z127:=L.z127;have v127:=L.v127;have u127:=run_underlying L.t127;have t3:=L.t3;have a3:=L.a3;have z3:=L.z3;have v3:=L.v3;have u3:=run_underlying L.t3;have t9:=L.t9;have a9:=L.a9;have z9:=L.z9;have v9:=L.v9;have u9:=run_underlying L.t9;have t4:=L.t4;have a4:=L.a4;have z4:=L.z4;have v4:=L.v4;have u4:=run_underlying L.t4;have t164:=L.t164;have a164:=L.a164;have z164:=L.z164;have v164:=L.v164;have u164:=run_underlying L.t164;have t31:=L.t31;have a31:=L.a31;have z31:=L.z31;have v31:=L.v31;have u31:=run_underlying L.t31;have t5:=L.t5;have a5:=L.a5;have z5:=L.z5;have v5:=L.v5;have u5:=run_underlying L.t5;have e240:∀args w,(callFunc (ρ.f 240) args).run P w=.ok (.enter (ρ.f 240) args) w:=L.e240;have e241:∀args w,(callFunc (ρ.f 241) args).run P w=.ok (.enter (ρ.f 241) args) w:=enters_of L.f241 (by kernel_rfl) rfl;have e165:∀args w,(callFunc (ρ.f 165) args).run P w=.ok (.enter (ρ.f 165) args) w:=enters_of L.f165 (by kernel_rfl) rfl;have e166:∀args w,(callFunc (ρ.f 166) args).run P w=.ok (.enter (ρ.f 166) args) w:=enters_of L.f166 (by kernel_rfl) rfl;have e169:∀args w,(callFunc (ρ.f 169) args).run P w=.ok (.enter (ρ.f 169) args) w:=enters_of L.f169 (by kernel_rfl) rfl
 go_enter L.f156,Body.n156_ntmps ρ
 go_wp2
 go_ret
 exact⟨rfl,rfl⟩
theorem Jl.strings_Join_one(L:JL P ρ)(bk o c:Nat)(x sep:ByteArray)(w:World)(hc:w.cell? ⟨bk,o,none⟩=some (.string x)) :
  Calls P (ρ.f 156) #[.slice (some ⟨bk,o,none⟩) 1 c,.string sep] w fun e w'=>e=.returned (.string x)∧w'=w:=by
 have mixed:=L.mixed;have t72:=L.t72;have a72:=L.a72;have z72:=L.z72;have v72:=L.v72;have u72:=run_underlying L.t72;have t70:=L.t70;have a70:=L.a70;have z70:=L.z70;have v70:=L.v70;have u70:=run_underlying L.t70;have t37:=L.t37;have a37:=L.a37;have z37:=L.z37;have v37:=L.v37;have u37:=run_underlying L.t37;have t127:=L.t127;have a127:=L.a127;have z127:=L.z127;have v127:=L.v127;have u127:=run_underlying L.t127;have t3:=L.t3;have a3:=L.a3;have z3:=L.z3;have v3:=L.v3;have u3:=run_underlying L.t3;have t9:=L.t9;have a9:=L.a9;have z9:=L.z9;have v9:=L.v9;have u9:=run_underlying L.t9;have t4:=L.t4;have a4:=L.a4;have z4:=L.z4;have v4:=L.v4;have u4:=run_underlying L.t4;have t164:=L.t164;have a164:=L.a164;have z164:=L.z164;have v164:=L.v164;have u164:=run_underlying L.t164;have t31:=L.t31;have a31:=L.a31;have z31:=L.z31;have v31:=L.v31;have u31:=run_underlying L.t31;have t5:=L.t5;have a5:=L.a5;have z5:=L.z5;have v5:=L.v5;have u5:=run_underlying L.t5;have e240:∀args w,(callFunc (ρ.f 240) args).run P w=.ok (.enter (ρ.f 240) args) w:=L.e240;have e241:∀args w,(callFunc (ρ.f 241) args).run P w=.ok (.enter (ρ.f 241) args) w:=enters_of L.f241 (by kernel_rfl) rfl;have e165:∀args w,(callFunc (ρ.f 165) args).run P w=.ok (.enter (ρ.f 165) args) w:=enters_of L.f165 (by kernel_rfl) rfl;have e166:∀args w,(callFunc (ρ.f 166) args).run P w=.ok (.enter (ρ.f 166) args) w:=enters_of L.f166 (by kernel_rfl) rfl;have e169:∀args w,(callFunc (ρ.f 169) args).run P w=.ok (.enter (ρ.f 169) args) w:=enters_of L.f169 (by kernel_rfl) rfl
 go_enter L.f156,Body.n156_ntmps ρ
 go_wp2
 go_ret
 exact⟨rfl,rfl⟩
set_option maxHeartbeats 4000000 in
set_option maxRecDepth 100000 in
theorem Jl.strings_Join_many(L:JL P ρ)(bk o c:Nat)(xs:List ByteArray)(sep:ByteArray)(w:World)
  (hcells:∀(j:Nat) x,xs[j]? = some x→w.cell? ⟨bk,o+j,none⟩=some (.string x))
  (hbk:bk<w.heap.size) (h2:2≤xs.length) (hN:xs.length≤140737488355328) (hcap:xs.length≤c)
  (hlen:(Lib.join (xs.map (·.data.toList)) sep.data.toList).length≤140737488355328) :
  Calls P (ρ.f 156) #[.slice (some ⟨bk,o,none⟩) xs.length c,.string sep] w fun e w'=>e=.returned (.string ⟨(Lib.join (xs.map (·.data.toList)) sep.data.toList).toArray⟩)∧Below w.heap.size w w':=by
 have HC:=Jl.hid hcells;clear hcells
 -- the lengths
 obtain⟨x0,r,hxs⟩:∃x0 r,xs=x0::r:=by
  cases xs with
  | nil=>simp at h2
  | cons a t=>exact⟨a,t,rfl⟩
 have hjl:sep.size*(xs.length-1)+Lib.lens (xs.map (·.data.toList))≤140737488355328:=by
  have:=Lib.join_length x0.data.toList (r.map (·.data.toList)) sep.data.toList;rw[hxs]at hlen ⊢;simp only[List.map_cons]at hlen ⊢;rw[this,List.length_map]at hlen;rw[Lib.size_eq,List.length_cons,Nat.add_sub_cancel];exact hlen
 have hmul:sep.size*(xs.length-1)≤140737488355328:=by omega
 generalize hM:sep.size*(xs.length-1)=M at hjl hmul;have hcast:((xs.length:Int)-1)=((xs.length-1:Nat):Int):=by omega
 have hlt:sep.size<9223372036854775807/(xs.length-1):=by
  have:sep.size+1≤9223372036854775807/(xs.length-1):=by
   rw[Nat.le_div_iff_mul_le (by omega),Nat.add_mul,hM];omega
  omega
 have hdv:¬ (9223372036854775807/((xs.length:Int)-1)≤(sep.size:Int)):=by
  have e:(9223372036854775807:Int)/((xs.length-1:Nat):Int)=((9223372036854775807/(xs.length-1):Nat):Int):=IntWalk.up_div (x:=9223372036854775807) rfl rfl;rw[hcast,e];generalize 9223372036854775807/(xs.length-1)=q at hlt;omega
 have hprod:wrap64 ((sep.size:Int)*((xs.length:Int)-1))=(M:Int):=by
  have e:(sep.size:Int)*((xs.length-1:Nat):Int)=((sep.size*(xs.length-1):Nat):Int):=IntWalk.up_mul rfl rfl;rw[hcast,e,hM];exact IntWalk.wrap64_in _ ⟨by omega,by omega⟩
 have hM0:sep.size=0→M=0:=fun h=>by rw[←hM,h,Nat.zero_mul]
 clear hlt hcast;have hne0:((xs.length:Int) == 0)=false:=beq_eq_false_iff_ne.2 (by omega);have hne1:((xs.length:Int) == 1)=false:=beq_eq_false_iff_ne.2 (by omega);have Hxs:=Jl.hid hxs;have Hlen:=Jl.hid hlen;clear hxs hlen;have mixed:=L.mixed;have t72:=L.t72;have a72:=L.a72;have z72:=L.z72;have v72:=L.v72;have u72:=run_underlying L.t72;have t70:=L.t70;have a70:=L.a70;have z70:=L.z70;have v70:=L.v70;have u70:=run_underlying L.t70;have t37:=L.t37;have a37:=L.a37;have z37:=L.z37;have v37:=L.v37;have u37:=run_underlying L.t37;have t127:=L.t127;have a127:=L.a127;have z127:=L.z127;have v127:=L.v127;have u127:=run_underlying L.t127;have t3:=L.t3;have a3:=L.a3;have z3:=L.z3;have v3:=L.v3;have u3:=run_underlying L.t3;have t9:=L.t9;have a9:=L.a9;have z9:=L.z9;have v9:=L.v9;have u9:=run_underlying L.t9;have t4:=L.t4;have a4:=L.a4;have z4:=L.z4;have v4:=L.v4;have u4:=run_underlying L.t4;have t164:=L.t164;have a164:=L.a164;have z164:=L.z164;have v164:=L.v164;have u164:=run_underlying L.t164;have t31:=L.t31;have a31:=L.a31;have z31:=L.z31;have v31:=L.v31;have u31:=run_underlying L.t31;have t5:=L.t5;have a5:=L.a5;have z5:=L.z5;have v5:=L.v5;have u5:=run_underlying L.t5;have e240:∀args w,(callFunc (ρ.f 240) args).run P w=.ok (.enter (ρ.f 240) args) w:=L.e240;have e241:∀args w,(callFunc (ρ.f 241) args).run P w=.ok (.enter (ρ.f 241) args) w:=enters_of L.f241 (by kernel_rfl) rfl;have e165:∀args w,(callFunc (ρ.f 165) args).run P w=.ok (.enter (ρ.f 165) args) w:=enters_of L.f165 (by kernel_rfl) rfl;have e166:∀args w,(callFunc (ρ.f 166) args).run P w=.ok (.enter (ρ.f 166) args) w:=enters_of L.f166 (by kernel_rfl) rfl;have e169:∀args w,(callFunc (ρ.f 169) args).run P w=.ok (.enter (ρ.f 169) args) w:=enters_of L.f169 (by kernel_rfl) rfl
 go_enter L.f156,Body.n156_ntmps ρ
 go_wp2_with fail
 all_goals (
  go_loop [5,41] (fun n i=>∃k:Nat,k≤xs.length∧i=.int .i64 k∧n=.int .i64 ((M+Lib.lens ((xs.map (·.data.toList)).take k):Nat):Int)) (fun _ i=>xs.length-(intOf i).toNat)
  case atStart=>exact⟨0,Nat.zero_le _,rfl,by first | (simp[Lib.lens];done) | (have:=hM0 (by omega);simp[Lib.lens,this])⟩
  case round=>
   obtain⟨k,hk,rfl,rfl⟩:=hrel;by_cases hkn:k<xs.length
   ·obtain⟨x,hx⟩:∃x,xs[k]? = some x:=⟨xs[k],List.getElem?_eq_getElem hkn⟩;have hc:=HC.out k x hx;have hstep:=Lib.lens_take_succ (xs.map (·.data.toList)) k x.data.toList (by simp[hx]);have hbound:Lib.lens ((xs.map (·.data.toList)).take (k+1))≤Lib.lens (xs.map (·.data.toList)):=Lib.lens_take_le _ _;rw[←Lib.size_eq]at hstep;generalize hA1:Lib.lens ((xs.map (·.data.toList)).take (k+1))=A1 at hstep hbound;generalize Lib.lens ((xs.map (·.data.toList)).take k)=A0 at hstep;have HA1:=Jl.hid hA1;clear hA1
    go_wp2
    exact⟨⟨k+1,by omega,by go_num,by rw[HA1.out];refine congrArg _ ?_;omega⟩,by simp[intOf];omega⟩
   ·have hke:k=xs.length:=by omega
    subst hke;have hall:(xs.map (·.data.toList)).take xs.length=xs.map (·.data.toList):=List.take_of_length_le (by simp);rw[hall];generalize hT:Lib.lens (xs.map (·.data.toList))=T at hjl;have HT:=Jl.hid hT;clear hT hall
    go_wp2_with fail
    have hMT:((M:Int)+(T:Int))=((M+T:Nat):Int):=by omega
    rw[hMT];refine(Jl.Builder_Grow_fresh L w.heap.size w.heap.size (M+T) _ (Nat.le_refl _) (heap_alloc_new w _) (by simp) (by omega)).mono ?_
    rintro e w1 ⟨rfl,h1,hb1⟩
    have hb1':Below w.heap.size w w1:=((Below.refl w.heap.size w).alloc (Nat.le_refl _) _).trans hb1
    -- the first element
    have hx0:xs[0]? = some x0:=by rw[Hxs.out];rfl
    have hc0:w1.cell? ⟨bk,o,none⟩=some (.string x0):=by
     rw[hb1'.cell (p:=⟨bk,o,none⟩) hbk];exact HC.out 0 x0 hx0
    have H1:=Jl.hid (Or.inr h1:Lib.IsBuilder (ρ.t 72) (ρ.t 5) w.heap.size w.heap.size [] w1);have Hb1:=Jl.hid hb1';have hBw1:w.heap.size≤w1.heap.size:=hb1'.size;clear h1 hb1 hb1' hMT
    -- what the builder holds behind k rounds of the second loop;and that it is never longer than the whole
    have hwhole:Lib.join (xs.map (·.data.toList)) sep.data.toList=x0.data.toList++Lib.joinTail sep.data.toList (r.map (·.data.toList)):=by
     rw[Hxs.out,List.map_cons,Lib.join_cons]
    have hCle:∀k,(x0.data.toList++Lib.joinTail sep.data.toList ((r.map (·.data.toList)).take k)).length≤140737488355328:=fun k=>by
     have h1:=Hlen.out;rw[hwhole,List.length_append]at h1;have h2:=Lib.joinTail_take_le sep.data.toList (r.map (·.data.toList)) k;rw[List.length_append];omega
    have HCle:=Jl.hid hCle;have Hwhole:=Jl.hid hwhole;clear hCle hwhole
    go_wp2_with fail
    refine(Jl.Builder_WriteString L w.heap.size w.heap.size [] x0 w1 H1.out (by have:=HCle.out 0;simp[Lib.joinTail]at this ⊢;omega) hBw1).mono ?_
    rintro e w2 ⟨rfl,h2',hb2⟩
    have hstart:([]:List Value)++Lib.strCells x0=Lib.byteCells (x0.data.toList++Lib.joinTail sep.data.toList ((r.map (·.data.toList)).take 0)):=by
     simp[Lib.joinTail,Lib.strCells_eq]
    rw[hstart]at h2';have H2:=Jl.hid (Or.inr h2':Lib.IsBuilder (ρ.t 72) (ρ.t 5) w.heap.size w.heap.size _ w2);have Hb2:=Jl.hid (Hb1.out.trans hb2);clear h2' hb2 hstart;have hrl:r.length=xs.length-1:=by rw[Hxs.out];simp
    go_wp2_with fail
    go_loopw [65] (fun i wr=>∃k:Nat,k≤r.length∧i=.int .i64 k∧Hid (Lib.IsBuilder (ρ.t 72) (ρ.t 5) w.heap.size w.heap.size (Lib.byteCells (x0.data.toList++Lib.joinTail sep.data.toList ((r.map (·.data.toList)).take k))) wr)∧Hid (Below w.heap.size w wr)) (fun i _=>r.length-(intOf i).toNat)
    case atStart=>exact⟨0,Nat.zero_le _,rfl,H2,Hb2⟩
    case round=>
     obtain⟨k,hk',rfl,HB,HW⟩:=hrel;by_cases hkr:k<r.length
     ·obtain⟨y,hy⟩:∃y,r[k]? = some y:=⟨r[k],List.getElem?_eq_getElem hkr⟩;have hxy:xs[k+1]? = some y:=by rw[Hxs.out];simpa using hy
      have hcy:wr.cell? ⟨bk,o+1+k,none⟩=some (.string y):=by
       rw[HW.out.cell (p:=⟨bk,o+1+k,none⟩) hbk,show o+1+k=o+(k+1) by omega];exact HC.out (k+1) y hxy
      have hBw:w.heap.size≤wr.heap.size:=HW.out.size;have hnext:Lib.byteCells (x0.data.toList++Lib.joinTail sep.data.toList ((r.map (·.data.toList)).take k))++Lib.strCells sep++Lib.strCells y=Lib.byteCells (x0.data.toList++Lib.joinTail sep.data.toList ((r.map (·.data.toList)).take (k+1))):=by
       rw[Lib.joinTail_take_succ sep.data.toList (r.map (·.data.toList)) k y.data.toList (by simp[hy]),Lib.strCells_eq,Lib.strCells_eq,←Lib.byteCells_append,←Lib.byteCells_append,List.append_assoc,List.append_assoc,List.append_assoc]
      have hl1:=HCle.out (k+1);rw[Lib.joinTail_take_succ sep.data.toList (r.map (·.data.toList)) k y.data.toList (by simp[hy])]at hl1;simp only[List.length_append,←Lib.size_eq]at hl1;have hl0:(Lib.byteCells (x0.data.toList++Lib.joinTail sep.data.toList ((r.map (·.data.toList)).take k))).length=x0.size+(Lib.joinTail sep.data.toList ((r.map (·.data.toList)).take k)).length:=by
       rw[Lib.byteCells_length,List.length_append,←Lib.size_eq]
      generalize (Lib.joinTail sep.data.toList ((r.map (·.data.toList)).take k)).length=J at hl0 hl1;have Hn:=Jl.hid hnext;clear hnext hy hxy
      go_wp2_with fail
      refine(Jl.Builder_WriteString L w.heap.size w.heap.size _ sep wr HB.out (by rw[hl0];omega) hBw).mono ?_
      rintro e w3 ⟨rfl,h3,hb3⟩
      have hBw3:w.heap.size≤w3.heap.size:=Nat.le_trans hBw hb3.size;have H3:=Jl.hid h3;have Hb3:=Jl.hid hb3;clear h3 hb3
      go_wp2_with fail
      refine(Jl.Builder_WriteString L w.heap.size w.heap.size _ y w3 (Or.inr H3.out) (by rw[List.length_append,hl0,Lib.strCells_length];omega) hBw3).mono ?_
      rintro e w4 ⟨rfl,h4,hb4⟩
      rw[Hn.out]at h4;have H4:=Jl.hid (Or.inr h4:Lib.IsBuilder (ρ.t 72) (ρ.t 5) w.heap.size w.heap.size _ w4);have Hb4:=Jl.hid ((HW.out.trans Hb3.out).trans hb4);clear h4 hb4
      go_wp2
      exact⟨⟨k+1,by omega,by go_num,H4,Hb4⟩,by simp[intOf];omega⟩
     ·have hke:k=r.length:=by omega
      subst hke;have hfull:(r.map (·.data.toList)).take r.length=r.map (·.data.toList):=List.take_of_length_le (by simp);have hB':=HB.out;rw[hfull,←Hwhole.out]at hB';have hBw:w.heap.size≤wr.heap.size:=HW.out.size
      go_wp2_with fail
      refine(Any.Builder_String_any L.ton169 L.toExtra w.heap.size w.heap.size _ wr hB' hBw).mono ?_
      rintro e w5 ⟨rfl,hb5⟩
      have Hb5:=Jl.hid (HW.out.trans hb5);clear hb5 hB'
      go_wp2
      go_ret
      exact⟨rfl,Hb5.out⟩)
theorem Jl.strings_Join(L:JL P ρ)(bk o c:Nat)(xs:List ByteArray)(sep:ByteArray)(w:World)
  (hcells:∀(j:Nat) x,xs[j]? = some x→w.cell? ⟨bk,o+j,none⟩=some (.string x))
  (hbk:bk<w.heap.size) (hN:xs.length≤140737488355328) (hcap:xs.length≤c)
  (hlen:(Lib.join (xs.map (·.data.toList)) sep.data.toList).length≤140737488355328) :
  Calls P (ρ.f 156) #[.slice (some ⟨bk,o,none⟩) xs.length c,.string sep] w fun e w'=>e=.returned (.string ⟨(Lib.join (xs.map (·.data.toList)) sep.data.toList).toArray⟩)∧Below w.heap.size w w':=by
 match xs,hcells,hN,hcap,hlen with
 | [],_,_,_,_=>exact(Jl.strings_Join_none L _ c sep w).mono fun e w' ⟨he,hw⟩=>⟨he,hw▸Below.refl _ _⟩
 | [x],hcells,_,_,_=>
  refine(Jl.strings_Join_one L bk o c x sep w (hcells 0 x rfl)).mono fun e w' ⟨he,hw⟩=>⟨?_,hw▸Below.refl _ _⟩;rw[he,List.map_cons,List.map_nil,Lib.join_one,Lib.mk_data]
 | x::y::r,hcells,hN,hcap,hlen=>exact Jl.strings_Join_many L bk o c (x::y::r) sep w hcells hbk (by simp) hN hcap hlen
end Go.Proofs
end
section
namespace Go.Proofs
open Go.Shelf Go.RowKit Go.Ab
variable{P:Program}{ρ:Ren}
theorem sl_inv{w:World}{S:Nat→Nat→Prop}{v:Value}{els:List (List AV)}{f:Fl}(h:CP w S v (.sl els f)) :
  (els=[]∧∃a,v=.slice a 0 0)∨∃(blk off z cap:Nat) (u:Nat→Nat→Value),v=.slice (some ⟨blk,off,none⟩) els.length cap∧els.length≤cap∧cap≤maxLen ∧
   (∀(i:Nat) (r:List AV),els[i]? = some r→r.length=z) ∧
   (∀i j,i<els.length→j<z→S blk (off+i*z+j)∧w.cell? ⟨blk,off+i*z+j,none⟩=some (u i j)) ∧
   (∀(i:Nat) (r:List AV) (j:Nat) (c:AV),els[i]? = some r→r[j]? = some c→CP w S (u i j) c):=by
 cases h with
 | slnil f hf=>exact .inl ⟨rfl,_,rfl⟩
 | slz a f hf=>exact .inl ⟨rfl,_,rfl⟩
 | sl blk off z cap els f u hf hfull hcap hmax hz hS hc=>exact .inr ⟨blk,off,z,cap,u,rfl,hcap,hmax,hz,fun i j hi hj=>⟨(hS i j hi hj).1,(hS i j hi hj).2.1⟩,hc⟩
theorem s_inv{w:World}{S:Nat→Nat→Prop}{v:Value}{l:List UInt8}(h:CP w S v (.s l)):v=.string ⟨l.toArray⟩:=by
 cases h with
 | s=>rfl
theorem two_args{cargs:Array Value}(h:cargs.size=2):∃a b,cargs=#[a,b]:=by
 obtain⟨l⟩:=cargs
 match l,h with
 | [a,b],_=>exact⟨a,b,rfl⟩
theorem inter_len(sep:List UInt8)(hs:sep.length≤100):∀ts:List (List UInt8),(∀t∈ts,t.length≤10000)→(Lib.join ts sep).length≤20000*ts.length
 | [],_=>by simp[Lib.join,List.intercalate]
 | x::r,h=>by
  have key:∀r:List (List UInt8),(∀t∈r,t.length≤10000)→Lib.lens r≤10000*r.length:=by
   intro r
   induction r with
   | nil=>intro _;simp[Lib.lens]
   | cons y r ih=>
    intro h;have h1:=ih fun t ht=>h t (List.mem_cons_of_mem _ ht);have h2:=h y List.mem_cons_self;simp only[Lib.lens,List.map_cons,List.sum_cons,List.length_cons]at h1 ⊢;omega
  rw[Lib.join_length];have h1:=key (x::r) h;have h2:=Nat.mul_le_mul_right r.length hs;simp only[List.length_cons]at h1 ⊢;omega
theorem join_pcall(L:JL P ρ):∀xs r,prim183 xs=some r→Zbb P (ρ.f 156) xs (·=r):=by
 intro xs r h;unfold prim183 at h;split at h
 ·split at h
  ·rename_i els sep hl;cases ht:els.mapM textOf with
   | none=>rw[ht]at h;cases h
   | some ts=>
    rw[ht]at h;cases h;obtain⟨he,hb⟩:=zke ht;refine⟨enters_of L.f156 (by kernel_rfl) rfl,fun w S cargs hsz hC hS=>?_⟩;obtain⟨v0,v1,rfl⟩:=two_args hsz;have c0:=hC 0 _ _ rfl rfl;have c1:=s_inv (hC 1 _ _ rfl rfl);subst c1;have htl:ts.length≤1000:=by rw[he,zdf]at hl;exact hl.1
    have done:∀{Q:World→Prop},(∀w',Q w'→Below w.heap.size w w')→Calls P (ρ.f 156) #[v0,.string ⟨sep.toArray⟩] w (fun e w'=>e=.returned (.string ⟨(List.intercalate sep ts).toArray⟩)∧Q w') →
      Calls P (ρ.f 156) #[v0,.string ⟨sep.toArray⟩] w fun e w'=>∃v r,e=.returned v∧r=AV.s (List.intercalate sep ts)∧Below w.heap.size w w'∧CP w' (fun k o=>S k o∨(w.heap.size≤k∧k<w'.heap.size)) v r:=by
     intro Q hQ hc;refine hc.mono ?_
     rintro e w' ⟨rfl,hb⟩
     exact⟨_,_,rfl,rfl,hQ _ hb,.s _⟩
    rcases sl_inv c0 with ⟨h0,a,rfl⟩ | ⟨blk,off,z,cap,u,rfl,hcap,hmax,hz,hcell,hcp⟩
    ·have h1:ts=[]:=by
      rw[he]at h0;exact List.eq_nil_of_length_eq_zero (by rw[←zdf ts,h0];rfl)
     subst h1;refine done (Q:=fun w'=>w'=w) (fun w' h=>h▸Below.refl _ _) ?_;exact Jl.strings_Join_none L a 0 ⟨sep.toArray⟩ w
    ·have hel:els.length=ts.length:=by rw[he,zdf]
     have hcells:∀(j:Nat) x,(ts.map fun t=>(⟨t.toArray⟩:ByteArray))[j]? = some x→S blk (off+j)∧w.cell? ⟨blk,off+j,none⟩=some (.string x):=by
      intro j x hx;rw[List.getElem?_map]at hx;cases ht2:ts[j]? with
      | none=>rw[ht2]at hx;cases hx
      | some t=>
       rw[ht2]at hx;cases hx;have hj:els[j]? = some [.s t]:=by rw[he];simp[Zby,ht2]
       have hz1:1=z:=hz j _ hj;subst hz1;have hjl:j<els.length:=(List.getElem?_eq_some_iff.1 hj).1;obtain⟨h1,h2⟩:=hcell j 0 hjl Nat.one_pos;have h3:=s_inv (hcp j _ 0 (.s t) hj rfl);rw[h3]at h2;simp only[Nat.mul_one,Nat.add_zero]at h1 h2;exact⟨h1,h2⟩
     cases hts:ts with
     | nil=>
      subst hts;rw[show els.length=0 from hel]at done ⊢;refine done (Q:=fun w'=>w'=w) (fun w' h=>h▸Below.refl _ _) ?_;exact Jl.strings_Join_none L _ cap ⟨sep.toArray⟩ w
     | cons t0 tr=>
      rw[←hts];have hblk:blk<w.heap.size:=hS _ _ (hcells 0 ⟨t0.toArray⟩ (by rw[hts];rfl)).1;have hm:(ts.map fun t=>(⟨t.toArray⟩:ByteArray)).map (·.data.toList)=ts:=by rw[List.map_map];simp[Function.comp_def]
      have hj:=Jl.strings_Join L blk off cap (ts.map fun t=>(⟨t.toArray⟩:ByteArray)) ⟨sep.toArray⟩ w (fun j x hx=>(hcells j x hx).2) hblk (by rw[List.length_map];omega) (by rw[List.length_map];omega)
       (by rw[hm];have:=inter_len sep hl.2 ts hb;show (Lib.join ts sep).length≤_;omega)
      rw[hm,List.length_map,←hel]at hj;exact done (fun _ h=>h) hj
  ·cases h
 ·cases h
end Go.Proofs
end
section
namespace Go.Proofs
open Go.Shelf Go.RowKit
set_option maxRecDepth 100000
def Tryz.jren:Ren:=⟨fun | 156=>95 | 165=>145 | 166=>146 | 169=>147 | 240=>191 | 241=>192 | 277=>222 | n=>n,fun | 0=>0 | 1=>1 | 2=>2 | 3=>3 | 4=>4 | 5=>5 | 6=>6 | 7=>7 | 8=>8 | 9=>9 | 10=>10 | 11=>11 | 12=>12 | 13=>13 | 14=>14 | 15=>15 | 16=>16 | 17=>17 | 18=>18 | 19=>19 | 20=>20 | 21=>21 | 23=>269 | 27=>341 | 28=>122 | 31=>177 | 37=>223 | 40=>340 | 41=>280 | 46=>194 | 48=>242 | 51=>91 | 52=>236 | 53=>144 | 55=>339 | 63=>321 | 64=>332 | 67=>179 | 70=>222 | 71=>224 | 72=>225 | 73=>206 | 74=>226 | 75=>227 | 76=>228 | 77=>229 | 80=>230 | 81=>351 | 104=>113 | 105=>319 | 106=>320 | 112=>239 | 114=>59 | 115=>301 | 116=>302 | 117=>303 | 118=>304 | 119=>335 | 122=>300 | 123=>305 | 124=>306 | 127=>270 | 131=>256 | 137=>336 | 138=>337 | 139=>338 | 146=>276 | 164=>307 | 165=>308 | 166=>309 | n=>n,fun n=>n⟩
theorem Tryz.joinLaid:JL Tryz.prog Tryz.jren:={
 mixed:=by kernel_rfl,
 f169:=Tryz.func147.trans (congrArg some (by kernel_rfl)),
 t0:=Tryz.underlying0,
 a0:=Tryz.isAgg0,
 z0:=Tryz.sizeOf0,
 v0:=Tryz.zeroValue0,
 t3:=Tryz.underlying3,
 a3:=Tryz.isAgg3,
 z3:=Tryz.sizeOf3,
 v3:=Tryz.zeroValue3,
 t9:=Tryz.underlying9,
 a9:=Tryz.isAgg9,
 z9:=Tryz.sizeOf9,
 v9:=Tryz.zeroValue9,
 t37:=Tryz.underlying223,
 a37:=Tryz.isAgg223,
 z37:=Tryz.sizeOf223,
 v37:=Tryz.zeroValue223,
 t70:=Tryz.underlying222,
 a70:=Tryz.isAgg222,
 z70:=Tryz.sizeOf222,
 v70:=Tryz.zeroValue222,
 t72:=Tryz.underlying225,
 a72:=Tryz.isAgg225,
 z72:=Tryz.sizeOf225,
 v72:=Tryz.zeroValue225,
 t127:=Tryz.underlying270,
 a127:=Tryz.isAgg270,
 z127:=Tryz.sizeOf270,
 v127:=Tryz.zeroValue270,
 f241:=Tryz.func192.trans (congrArg some (by kernel_rfl)),
 f277:=Tryz.func222.trans (congrArg some (by kernel_rfl)),
 sizeBuilder:=by kernel_rfl,
 liesBuilder:=by kernel_rfl,
 t5:=Tryz.underlying5,
 a5:=Tryz.isAgg5,
 z5:=Tryz.sizeOf5,
 v5:=Tryz.zeroValue5,
 infoByte:=by kernel_rfl,
 cellsByte:=by kernel_rfl,
 sizeByte:=by kernel_rfl,
 neB5:=by decide,
 f156:=Tryz.func95.trans (congrArg some (by kernel_rfl)),
 f165:=Tryz.func145.trans (congrArg some (by kernel_rfl)),
 f166:=Tryz.func146.trans (congrArg some (by kernel_rfl)),
 t4:=Tryz.underlying4,
 a4:=Tryz.isAgg4,
 z4:=Tryz.sizeOf4,
 v4:=Tryz.zeroValue4,
 t20:=Tryz.underlying20,
 a20:=Tryz.isAgg20,
 z20:=Tryz.sizeOf20,
 v20:=Tryz.zeroValue20,
 t31:=Tryz.underlying177,
 a31:=Tryz.isAgg177,
 z31:=Tryz.sizeOf177,
 v31:=Tryz.zeroValue177,
 t75:=Tryz.underlying227,
 a75:=Tryz.isAgg227,
 z75:=Tryz.sizeOf227,
 v75:=Tryz.zeroValue227,
 t76:=Tryz.underlying228,
 a76:=Tryz.isAgg228,
 z76:=Tryz.sizeOf228,
 v76:=Tryz.zeroValue228,
 t164:=Tryz.underlying307,
 a164:=Tryz.isAgg307,
 z164:=Tryz.sizeOf307,
 v164:=Tryz.zeroValue307,
 e240:=enters_of Tryz.func191 (by kernel_rfl) rfl,
 c240:=fun B b bs w h=>Tryz.bCheck B b bs w h,
 c240f:=fun b w h0 h1 h2=>Tryz.bCheck_fresh b w h0 h1 h2 }
end Go.Proofs
namespace Go.Proofs.YtjhilbodpmnbmaaGreatDoor
open Go.Ab
theorem join_ok:∀xs r,prim183 xs=some r→Zbb Tryz.prog (nu 183) xs (·=r):=by
 have e:nu 183=Tryz.jren.f 156:=by kernel_rfl
 rw[e];exact join_pcall Tryz.joinLaid
end Go.Proofs.YtjhilbodpmnbmaaGreatDoor
end
namespace Go.Ab
section
open Go.ChangeShapes Go.WideShapes Go.ChangeAt Go.RowKit
theorem zkn{H:Type}{enc:TypeId×Value→H}{P:Program}{f:Func}{s:ChangeSpec}{apart fresh handsOn again:Bool}{W W':World}{args:Array Value}{v:Value}{ds gs:List (DataW H)}{before pa pv:List MemPlace}
  (hW:DataW.Whole enc P f.params.toList s.vars apart W args.toList ds gs before)
  (hres:∀(b:Nat) (sp:Nat→Bool) (hd:Bool),DataW.TrodAll enc P W' b sp hd f.resultTypes.toList (v.resultList f.resultTypes.size) (s.fn H (ds++gs)).results [])
  (hargs:∀sp:Nat→Bool,(∀p∈before,sp p.block=true)→DataW.TrodAll enc P W' 0 sp true f.params.toList args.toList (s.fn H (ds++gs)).args pa)
  (hvars:∀sp:Nat→Bool,(∀p∈before,sp p.block=true)→DataW.TrodVars enc P W' sp s.vars (s.fn H (ds++gs)).vars pv)
  (hps:before=pa++pv) (hw:Below W.heap.size W W')
  (hok:∀(j:Nat) (t:TypeId) (r:Value),f.resultTypes[j]? = some t→(v.resultList f.resultTypes.size)[j]? = some r→Value.okWide P W' .any 0 t r) :
  s.post enc P f apart fresh handsOn again W args v W':=by
 have hold:∀p∈before,(fun b=>decide (b<W.heap.size)) p.block=true:=fun p hp=>by simpa using hW.lt p hp
 have hlt:∀p∈before,p.block<W.heap.size:=fun p hp=>hW.lt p hp;refine⟨ds,gs,before,[],pa,pv,hW,hres _ _ _,hargs _ hold,hvars _ hold,World.keptBut_mono (fun p hp=>⟨hp,?_⟩) (hw.frame (·∈before)),fun _=>?_⟩
 ·rw[hps,Yaq]at hp;exact Or.inr hp
 ·obtain⟨_,_,_,_,_,hz,hn⟩:=hW;refine⟨hok,_,_,([]++pa)++pv,⟨[]++pa,pv,trodAll_append (hargs _ (fun _ _=>rfl)) (hres _ _ _),hvars _ (fun _ _=>rfl),rfl,?_,?_⟩,?_⟩
  ·intro b off hp;have hp':MemPlace.cell b off∈before:=by rw[hps];simpa using hp
   rw[hw.frozen (p:=⟨b,off,none⟩) (hlt _ hp')];exact hz b off hp'
  ·intro ha;have:=hn ha;rw[hps]at this;simpa using this
  ·intro p hp _;rw[hps];simpa using hp
end
section
open Go.ChangeShapes Go.WideShapes Go.ChangeAt Go.RowKit
inductive Ty where
 | int (k:IntKind)
 | bool
 | str
 | sl (r:Ty)
 | nil
 | cons (a:Ty) (r:Ty)
def Ty.z:Ty→Nat
 | .nil=>0
 | .cons a r=>a.z+r.z
 | _=>1
def Ok:Ty→List AV→Prop
 | .int k,cs=>∃n,cs=[.i k n]∧(Lit.int k n).wf=true
 | .bool,cs=>∃b,cs=[.b b]
 | .str,cs=>∃l,cs=[.s l]∧l.length≤maxLen
 | .sl r,cs=>∃els f,cs=[.sl els f]∧els.length≤maxLen∧(f=.nl∧els=[]∨f=.so)∧∀row∈els,Ok r row
 | .nil,cs=>cs=[]
 | .cons a r,cs=>∃c1 c2,cs=c1++c2∧Ok a c1∧Ok r c2
theorem Ok.len:∀{ty:Ty} {cs:List AV},Ok ty cs→cs.length=ty.z
 | .int _,_,⟨_,h,_⟩=>by rw[h];rfl
 | .bool,_,⟨_,h⟩=>by rw[h];rfl
 | .str,_,⟨_,h,_⟩=>by rw[h];rfl
 | .sl _,_,⟨_,_,h,_⟩=>by rw[h];rfl
 | .nil,_,h=>by rw[show _=[] from h];rfl
 | .cons _ _,_,⟨_,_,h,h1,h2⟩=>by rw[h,Ya6,h1.len,h2.len];rfl
def Zdk(w:World)(S:Nat→Nat→Prop)(cs:List Value)(xs:List AV):Prop:=
 xs.length=cs.length∧∀(j:Nat) (v:Value) (c:AV),cs[j]? = some v→xs[j]? = some c→CP w S v c∧v.oneCell'=true
section
variable{H:Type}{enc:TypeId×Value→H}{P:Program}{w:World}{base:Nat}{held:Bool}{S:Nat→Nat→Prop}
theorem Zdk.nil:Zdk w S [] []:=⟨rfl,fun j v c h=>by grind⟩
theorem Zdk.one{v:Value}{c:AV}(h:CP w S v c)(h1:v.oneCell'=true):Zdk w S [v] [c]:=by
 refine⟨rfl,fun j v' c' hv hc=>?_⟩
 grind
theorem Zdk.append{cs cs':List Value}{xs xs':List AV}(h:Zdk w S cs xs)(h':Zdk w S cs' xs'):Zdk w S (cs++cs') (xs++xs'):=by
 refine⟨by rw[Ya6,Ya6,h.1,h'.1],fun j v c hv hc=>?_⟩;by_cases hj:j<cs.length
 ·rw[Ym hj]at hv;rw[Ym (by rw[h.1];omega)]at hc;exact h.2 j v c hv hc
 ·rw[Yg (by omega)]at hv;rw[Yg (by rw[h.1];omega),h.1]at hc;exact h'.2 _ v c hv hc
def Zfp(P:Program)(g:TypeId→Option Ty)(tot:Nat):Nat→List Field→Option Ty
 | off,[]=>if off=tot then some .nil else none
 | off,f::fs=>(g f.type).bind fun a=>if f.offset=off∧a.z=P.cellsOf f.type then (Zfp P g tot (off+a.z) fs).map (.cons a) else none
def Zkb:Nat→Ty→Ty
 | 0,_=>.nil
 | n+1,a=>.cons a (Zkb n a)
def Zgl(P:Program):Nat→TypeId→Option Ty
 | 0,_=>none
 | n+1,t=>
  match P.underlying t with
  | some .bool=>some .bool
  | some (.int k)=>some (.int k)
  | some .string=>some .str
  | some (.slice e)=>(Zgl P n e).bind fun r=>if r.z=P.cellsOf e∧0<r.z then some (.sl r) else none
  | some (.struct fs)=>Zfp P (Zgl P n) (P.cellsOf t) 0 fs.toList
  | some (.array k e)=>(Zgl P n e).bind fun a=>if a.z=P.cellsOf e∧k*a.z=P.cellsOf t then some (Zkb k a) else none
  | _=>none
theorem ztu{α:Type}{Q:Nat→α→Prop}:∀(n:Nat),(∀i,i<n→∃x,Q i x)→∃l:List α,l.length=n∧∀i x,l[i]? = some x→Q i x
 | 0,_=>⟨[],rfl,fun i x h=>by grind⟩
 | n+1,h=>by
  obtain⟨l,hl,hq⟩:=ztu n fun i hi=>h i (by omega);obtain⟨x,hx⟩:=h n (by omega);refine⟨l++[x],by grind,fun i y hy=>?_⟩
  grind
def Zfg(S:Nat→Nat→Prop)(ps:List MemPlace):Prop:=∀k o,MemPlace.cell k o∈ps→S k o
theorem zht{n:Nat}{g:TypeId→Option Ty}{cs:List Value}
  (ih:∀t cs x ty,DataW.trod enc P w base (fun _=>true) held n t cs=some x→g t=some ty→Zfg S x.2→∃xs,Ok ty xs∧Zdk w S cs xs) :
  ∀(fs:List Field) (off:Nat) (ty:Ty) (ys:List (DataW H×List MemPlace)),
   ys.length=fs.length→(∀(i:Nat) (f:Field),fs[i]? = some f→DataW.trod enc P w base (fun _=>true) held n f.type ((cs.drop f.offset).take (P.cellsOf f.type))=ys[i]?) →
   Zfp P g cs.length off fs=some ty→Zfg S (ys.flatMap (·.2))→∃xs,Ok ty xs∧Zdk w S (cs.drop off) xs
 | [],off,ty,ys,hl,hm,ht,hp=>by
  simp only[Zfp]at ht;split at ht<;>cases ht;rename_i ho;exact⟨[],rfl,by rw[ho,Yaf];exact Zdk.nil⟩
 | f::fs,off,ty,[],hl,hm,ht,hp=>by grind
 | f::fs,off,ty,y::ys1,hl,hm,ht,hp=>by
  obtain⟨a,ha,ht1⟩:=bind_some ht;split at ht1
  ·rename_i hc;obtain⟨ho,hz⟩:=hc;obtain⟨r,hr,rfl⟩:=map_some ht1;have hy:=hm 0 f rfl;rw[ho,←hz]at hy;obtain⟨xs1,ho1,hr1⟩:=ih _ _ _ _ hy ha fun k o h=>hp k o (by grind);obtain⟨xs2,ho2,hr2⟩:=zht ih fs _ r ys1 (by grind) (fun i f' hf=>by simpa using hm (i+1) f' (by grind)) hr fun k o h=>hp k o (by
    grind)
   refine⟨xs1++xs2,⟨xs1,xs2,rfl,ho1,ho2⟩,?_⟩;have e:cs.drop off=(cs.drop off).take a.z++cs.drop (off+a.z):=by rw[←Ydq,Yam]
   rw[e];exact hr1.append hr2
  grind
theorem zjp{n:Nat}{e:TypeId}{r:Ty}(ih:∀cs x,DataW.trod enc P w base (fun _=>true) held n e cs=some x→Zfg S x.2→∃xs,Ok r xs∧Zdk w S cs xs) :
  ∀(k:Nat) (cs:List Value) (ys:List (DataW H×List MemPlace)),ys.length=k→cs.length=k*r.z →
   (∀(i:Nat),i<k→DataW.trod enc P w base (fun _=>true) held n e ((cs.drop (i*r.z)).take r.z)=ys[i]?)→Zfg S (ys.flatMap (·.2))→∃xs,Ok (Zkb k r) xs∧Zdk w S cs xs
 | 0,cs,ys,hl,hc,hm,hp=>by
  rw[Ycf,List.length_eq_zero_iff]at hc;subst hc;exact⟨[],rfl,Zdk.nil⟩
 | k+1,cs,[],hl,hc,hm,hp=>by grind
 | k+1,cs,y::ys,hl,hc,hm,hp=>by
  have hy:=hm 0 (by omega);rw[Ycf,Yar]at hy;obtain⟨xs1,ho1,hr1⟩:=ih _ _ hy fun k o h=>hp k o (by grind);obtain⟨xs2,ho2,hr2⟩:=zjp ih k (cs.drop r.z) ys (by grind) (by grind) (fun i hi=>by
   grind[List.drop_drop]) fun k o h=>hp k o (by
    grind)
  refine⟨xs1++xs2,⟨xs1,xs2,rfl,ho1,ho2⟩,?_⟩;have e:cs=cs.take r.z++cs.drop r.z:=(Yam ..).symm;rw[e];exact hr1.append hr2
theorem zpu{a:Addr}{m z:Nat}{cs:List Value}(h:w.cells? base (a.add m) z=some cs)(j:Nat)(hj:j<z):w.cell? ((a.add m).add j)=cs[j]? := (World.cells?_some h).2.2 j hj
theorem ztv{a:Addr}{v:Value}(h:w.cell? a=some v):a.spot=none:=by
 unfold World.cell? at h;split at h
 all_goals simp_all
theorem zfu:∀(n m:Nat) (t:TypeId) (cs:List Value) (x:DataW H×List MemPlace) (ty:Ty),
  DataW.trod enc P w base (fun _=>true) held n t cs=some x→Zgl P m t=some ty→Zfg S x.2→∃xs,Ok ty xs∧Zdk w S cs xs
 | 0,_,_,_,_,_,h,_,_=>by simp[DataW.trod]at h
 | n+1,0,_,_,_,_,_,ht,_=>by simp[Zgl]at ht
 | n+1,m+1,t,cs,x,ty,h,ht,hp=>by
  simp only[Zgl]at ht;split at ht
  ·rename_i hu;cases ht;obtain⟨b,rfl,rfl⟩:=DataW.trod_bool hu h;exact⟨[.b b],⟨b,rfl⟩,Zdk.one (.b b) rfl⟩
  ·rename_i k hu;cases ht;obtain⟨z,rfl,rfl,hw⟩:=DataW.trod_int hu h;exact⟨[.i k z],⟨z,rfl,hw⟩,Zdk.one (.i k z) rfl⟩
  ·rename_i hu;cases ht;obtain⟨s,rfl,rfl,hs⟩:=DataW.trod_string hu h;exact⟨[.s s.data.toList],⟨_,rfl,by simp_all⟩,Zdk.one (.s s.data.toList) rfl⟩
  ·rename_i e hu;obtain⟨r,hr,ht1⟩:=bind_some ht;split at ht1
   ·rename_i hz;cases ht1;obtain⟨hz,hzp⟩:=hz;rcases DataW.trod_slice hu h with ⟨rfl,rfl⟩ | ⟨a,len,cap,elems,rest,n',hn',rfl,rfl,hb,hl,hmx,hlen,hel,hsp,hns⟩
    ·exact⟨[.sl [] .nl],⟨[],.nl,rfl,Yr _,.inl ⟨rfl,rfl⟩,fun row h=>by grind⟩,Zdk.one (.slnil _ (.inl rfl)) rfl⟩
    ·obtain⟨hrl,hrest⟩:=hsp rfl;have hall:∀i,i<cap→∃y cs',y∈elems++rest∧w.cells? base (a.add (i*P.cellsOf e)) (P.cellsOf e)=some cs'∧DataW.trod enc P w base (fun _=>true) held n e cs'=some y:=by
      intro i hi;by_cases hil:i<len
      ·have h1:=hel i hil;rw[Ya (by omega)]at h1;obtain⟨cs',h2,h3⟩:=bind_some h1
       grind
      ·have h1:=hrest (i-len) (by omega);rw[Ya (by omega),show len+(i-len)=i by omega]at h1;obtain⟨cs',h2,h3⟩:=bind_some h1
       grind
     by_cases hcap:cap=0
     ·have hl0:len=0:=by omega
      subst hcap;subst hl0;exact⟨[.sl [] .so],⟨[],.so,rfl,Yr _,.inr rfl,fun row h=>by grind⟩,Zdk.one (.slz a _ (.inl rfl)) rfl⟩
     ·have hspot:a.spot=none:=by
       obtain⟨y,cs',_,h2,_⟩:=hall 0 (by omega);have h3:=zpu h2 0 (by omega)
       grind[World.cells?_some,ztv,Addr.add]
      obtain⟨blk,off,sp⟩:=a;have hrows:∀i,i<len→∃xs,Ok r xs∧∃cs',w.cells? base ((⟨blk,off,none⟩:Addr).add (i*P.cellsOf e)) (P.cellsOf e)=some cs'∧Zdk w S cs' xs:=by
       intro i hi;obtain⟨y,cs',hy,h2,h3⟩:=hall i (by omega);obtain⟨xs,ho,hrc⟩:=zfu n m e cs' y r h3 hr fun k o hk=>hp k o (by
        grind)
       grind
      obtain⟨els,hels,hq⟩:=ztu len hrows;refine⟨[.sl els .so],⟨els,.so,rfl,by omega,.inr rfl,fun row hrow=>?_⟩,Zdk.one ?_ rfl⟩
      ·grind[List.getElem?_of_mem]
      ·have hcell:∀i j,i<els.length→j<r.z→∃v,w.cell? ⟨blk,off+i*r.z+j,none⟩=some v∧v.oneCell'=true∧∀row c,els[i]? = some row→row[j]? = some c→CP w S v c:=by
        intro i j hi hj;obtain⟨ho,cs',h2,hrc⟩:=hq i _ (Ya hi);have h3:=zpu h2 j (by omega);have h4:=(World.cells?_some h2).2.1;rw[zbn,zbn,←hz,Ya (by omega)]at h3;have hlr:=ho.len;have h5:=hrc.2 j _ _ (Ya (by omega)) (Ya (by omega))
        grind
       have hS:∀i j,i<els.length→j<r.z→S blk (off+i*r.z+j):=by
        intro i j hi hj;refine hp _ _ ?_;rw[Yaq];left;unfold MemPlace.row;rw[Y2];refine⟨i*r.z+j,?_,by rw[Yan]⟩;have h1:(i+1)*r.z≤(elems.length+rest.length)*r.z:=Yv _ (by omega)
        grind
       have:=CP.sl (w:=w) (S:=S) blk off r.z cap els .so (fun i j=>(w.cell? ⟨blk,off+i*r.z+j,none⟩).getD undef) (by simp) (by simp) (by omega) hmx
        (fun i row hrow=>(hq i row hrow).1.len) (fun i j hi hj=>?_) (fun i row j c hrow hc=>?_)
       ·grind
       ·grind
       ·have hi:=(Yd.1 hrow).1;have hj:=(Yd.1 hc).1;rw[(hq i row hrow).1.len]at hj
        grind
   grind
  ·rename_i fs hu;obtain⟨xs,n',hn',rfl,hcl,hxl,hx⟩:=DataW.trod_struct hu h;cases hn';rw[←hcl]at ht;have:=zht (S:=S) (g:=Zgl P m) (cs:=cs) (n:=n) (fun t cs x ty h1 h2 h3=>zfu n m t cs x ty h1 h2 h3) fs.toList 0 ty xs (by omega) (fun i f hf=>hx i f (by grind)) ht hp
   grind
  ·rename_i k e hu;obtain⟨r,hr,ht1⟩:=bind_some ht;split at ht1
   ·rename_i hz;cases ht1;obtain⟨hz,hzt⟩:=hz;obtain⟨xs,n',hn',rfl,hcl,hxl,hx⟩:=DataW.trod_array hu h;cases hn';rw[←hz]at hx;exact zjp (S:=S) (n:=n) (e:=e) (r:=r) (fun cs x h1 h3=>zfu n m e cs x r h1 hr h3) k cs xs hxl (by omega) hx hp
   grind
  grind
end
end
section
open Go.ChangeShapes Go.WideShapes Go.ChangeAt Go.RowKit
def isAgg(P:Program)(t:TypeId):Bool:=match P.underlying t with | some (.struct _)=>true | some (.array _ _)=>true | _=>false
def Zkc(P:Program)(m:Nat):List TypeId→Option (List (Bool×Ty))
 | []=>some []
 | t::ts=>(Zgl P m t).bind fun a=>(Zkc P m ts).map fun r=>(isAgg P t,a)::r
def Zin:Bool×Ty→AV→Prop
 | (true,ty),x=>∃cs,x=.agg cs∧Ok ty cs
 | (false,ty),x=>Ok ty [x]
def Zh7:List (Bool×Ty)→List AV→Prop
 | [],xs=>xs=[]
 | a::r,xs=>∃x ys,xs=x::ys∧Zin a x∧Zh7 r ys
section
variable{H:Type}{enc:TypeId×Value→H}{P:Program}{w:World}{S:Nat→Nat→Prop}
theorem zx3{m:Nat}{t:TypeId}{v:Value}{d:DataW H}{p:List MemPlace}{ty:Ty}{base:Nat}(hA:DataW.Trod enc P w 0 (fun _=>true) true t v d p)(hT:Zgl P m t=some ty)
  (hval:Value.okWide P w .any base t v) (hp:Zfg S p):∃x,Zin (isAgg P t,ty) x∧CP w S v x:=by
 obtain⟨fuel,hf⟩:=hA;obtain⟨xs,ho,hrc⟩:=zfu (S:=S) fuel m t _ _ ty hf hT hp;have hlen:=ho.len;cases hu:P.underlying t with
 | none=>cases m<;>simp[Zgl,hu]at hT
 | some desc=>
  have one:∀(hag:isAgg P t=false) (hz:ty.z=1) (hv:v.cells=#[v]),∃x,Zin (isAgg P t,ty) x∧CP w S v x:=by
   intro hag hz hv;rw[hag]
   match xs,hlen with
   | [x],_=>
    refine⟨x,ho,?_⟩;have:=hrc.2 0 v x (by grind) rfl
    grind
   | [],h=>grind
   | _::_::_,h=>grind
  cases m with
  | zero=>simp[Zgl]at hT
  | succ m=>
  cases desc<;>simp only[Zgl,hu]at hT<;>try (cases hT;done)
  case struct fs=>
   have hag:isAgg P t=true:=by simp[isAgg,hu]
   rw[hag];unfold Value.okWide at hval;rw[hu]at hval;obtain⟨cs,rfl,hcs,_⟩:=hval;refine⟨.agg xs,⟨xs,rfl,ho⟩,.agg cs xs ?_ ?_ ?_⟩
   ·have:=hrc.1;simpa[Value.cells]using this.symm
   ·intro j u hu;have hl:=hrc.1;have hj:j<cs.size:=(Yc2.1 hu).1;have hj':j<xs.length:=by rw[hl];simpa[Value.cells]using hj
    exact(hrc.2 j u _ (by simpa[Value.cells]using hu) (Ya hj')).2
   ·intro j u c hu hc;exact(hrc.2 j u c (by simpa[Value.cells]using hu) hc).1
  case array k e=>
   have hag:isAgg P t=true:=by simp[isAgg,hu]
   rw[hag];unfold Value.okWide at hval;rw[hu]at hval;obtain⟨cs,rfl,hcs,_⟩:=hval;refine⟨.agg xs,⟨xs,rfl,ho⟩,.agg cs xs ?_ ?_ ?_⟩
   ·have:=hrc.1;simpa[Value.cells]using this.symm
   ·intro j u hu;have hl:=hrc.1;have hj:j<cs.size:=(Yc2.1 hu).1;have hj':j<xs.length:=by rw[hl];simpa[Value.cells]using hj
    exact(hrc.2 j u _ (by simpa[Value.cells]using hu) (Ya hj')).2
   ·intro j u c hu hc;exact(hrc.2 j u c (by simpa[Value.cells]using hu) hc).1
  case bool=>
   cases hT;unfold Value.okWide Cell.okWide Cell.ok at hval;refine one (by simp[isAgg,hu]) rfl ?_;cases v<;>first | rfl | grind
  case int k=>
   cases hT;unfold Value.okWide Cell.okWide Cell.ok at hval;rw[hu]at hval;refine one (by simp[isAgg,hu]) rfl ?_;cases v<;>first | rfl | grind
  case string=>
   cases hT;unfold Value.okWide Cell.okWide Cell.ok at hval;rw[hu]at hval;refine one (by simp[isAgg,hu]) rfl ?_;cases v<;>first | rfl | grind
  case slice e=>
   obtain⟨r,hr,ht1⟩:=bind_some hT;split at ht1<;>cases ht1;unfold Value.okWide Cell.okWide Cell.ok at hval;rw[hu]at hval;refine one (by simp[isAgg,hu]) rfl ?_;cases v<;>first | rfl | grind
theorem zlx{m base:Nat}:∀(ts:List TypeId) (vs:List Value) (ds:List (DataW H)) (p:List MemPlace) (tys:List (Bool×Ty)),DataW.TrodAll enc P w 0 (fun _=>true) true ts vs ds p→Zkc P m ts=some tys →
  (∀(j:Nat) t v,ts[j]? = some t→vs[j]? = some v→Value.okWide P w .any base t v)→Zfg S p →
  ∃xs,Zh7 tys xs∧vs.length=xs.length∧∀(j:Nat) (v:Value) (c:AV),vs[j]? = some v→xs[j]? = some c→CP w S v c
 | [],vs,ds,p,tys,hA,hT,hval,hp=>by
  obtain⟨rfl,_,_⟩:=trodAll_nil hA;cases hT;exact⟨[],rfl,rfl,fun j v c h=>by grind⟩
 | t::ts,vs,ds,p,tys,hA,hT,hval,hp=>by
  obtain⟨v,vs1,d,ds1,a,b,rfl,rfl,rfl,h1,h2⟩:=trodAll_cons hA;obtain⟨ty,hty,hT1⟩:=bind_some hT;obtain⟨r,hr,rfl⟩:=map_some hT1;obtain⟨x,hx,hC⟩:=zx3 (S:=S) h1 hty (hval 0 t v rfl rfl) fun k o h=>hp k o (Yay _ h);obtain⟨xs,ho,hl,hc⟩:=zlx (m:=m) (base:=base) ts vs1 ds1 b r h2 hr (fun j t v ht hv=>hval (j+1) t v (by grind) (by grind)) fun k o h=>hp k o (Yav _ h);refine⟨x::xs,⟨x,xs,rfl,hx,ho⟩,by grind,fun j u c hu hcc=>?_⟩
  grind
theorem zpv(hl:laidOutB P=true){W W':World}(hb:Below W.heap.size W W'){sp:Nat→Bool}:∀(ts:List TypeId) (vs:List Value) (ds:List (DataW H)) (p:List MemPlace),
  (ts.all fun t=>P.readableRec t&&decide (t<P.types.size))=true→DataW.TrodAll enc P W 0 (fun _=>true) true ts vs ds p→(∀x∈p,x.block<W.heap.size)→(∀x∈p,sp x.block=true)→DataW.TrodAll enc P W' 0 sp true ts vs ds p
 | [],_,_,_,_,hA,_,_=>by
  obtain⟨rfl,rfl,rfl⟩:=trodAll_nil hA;exact rfl
 | t::ts,vs,ds,p,hr,hA,hlt,hsp=>by
  obtain⟨v,vs1,d,ds1,a,b,rfl,rfl,rfl,h1,h2⟩:=trodAll_cons hA;rw[Yb1,Yj,Yj,decide_eq_true_eq]at hr;exact⟨a,b,WideElems.Trod_stays hl hr.1.1 hr.1.2 h1 (fun x hx=>hb.same (hlt x (Yay _ hx))) (fun x hx=>hsp x (Yay _ hx)),
   zpv hl hb ts vs1 ds1 b hr.2 h2 (fun x hx=>hlt x (Yav _ hx)) (fun x hx=>hsp x (Yav _ hx)),rfl⟩
theorem ztw:∀(ts:List TypeId) (vs:List Value) (ds:List (DataW H)) (p:List MemPlace),DataW.TrodAll enc P w 0 (fun _=>true) true ts vs ds p→ds.length=ts.length
 | [],_,_,_,hA=>by
  obtain⟨rfl,rfl,rfl⟩:=trodAll_nil hA
  rfl
 | t::ts,vs,ds,p,hA=>by
  obtain⟨v,vs1,d,ds1,a,b,rfl,rfl,rfl,h1,h2⟩:=trodAll_cons hA;simp[ztw ts vs1 ds1 b h2]
theorem zx4{f:FuncId}{fn:Func}{s:ChangeSpec}{m tb:Nat}{tys:List (Bool×Ty)}{fresh handsOn again:Bool}(hvars:s.vars=[])(hT:Zkc P m fn.params.toList=some tys)(hl:laidOutB P=true)
  (hread:(fn.params.toList.all fun t=>P.readableRec t&&decide (t<P.types.size))=true) (hr:fn.resultTypes=#[tb]) (hb:P.underlying tb=some .bool)
  (hfn:∀ds:List (DataW H),ds.length=fn.params.toList.length→s.fn H ds={ results:=[.lit (.bool true)],args:=ds })
  (hcall:∀xs,Zh7 tys xs→Zbb P f xs (·=.b true)) {W:World} {args:Array Value} {ds gs:List (DataW H)} {before:List MemPlace} {base:Nat}
  (hval:∀(j:Nat) t v,fn.params[j]? = some t→args[j]? = some v→Value.okWide P W .any base t v) (hW:DataW.Whole enc P fn.params.toList s.vars false W args.toList ds gs before) :
  Calls P f args W fun e W'=>∃v,e=.returned v∧s.post enc P fn false fresh handsOn again W args v W':=by
 have hW':=hW;obtain⟨p,q,hA,hV,rfl,hfz,hnd⟩:=hW;rw[hvars]at hV;obtain⟨rfl,rfl⟩:=trodVars_none hV;have hlt:∀x∈p,x.block<W.heap.size:=fun x hx=>hW'.lt x (Yay _ hx);obtain⟨xs,ho,hlen,hC⟩:=zlx (S:=fun k o=>MemPlace.cell k o∈p) _ _ _ _ _ hA hT (fun j t v ht hv=>hval j t v (by grind) (by grind)) (fun k o h=>h);have hc:=(hcall xs ho).2 W (fun k o=>MemPlace.cell k o∈p) args (by omega) (fun j v c hv hc=>hC j v c (by grind) hc) (fun k o h=>hlt _ h);refine hc.mono fun e W' ⟨v,r,he,hrr,hbel,hCr⟩=>?_;subst he hrr;have hv:v=.bool true:=by cases hCr;rfl
 subst hv;have hlf:=hfn ds (ztw _ _ _ _ hA);refine⟨_,rfl,zkn (pa:=p) (pv:=[]) hW' (fun b sp hd=>?_) (fun sp hsp=>?_) (fun sp _=>?_) rfl hbel (ok_one hr rfl (okWide_bool_mk hb _))⟩
 ·rw[Ybh,hlf,hr];exact trodAll_mk1 (shut_bool hb _)
 ·grind[zpv]
 ·rw[Ybh,hlf,hvars];exact rfl
end
end
theorem zkz:∀(els:List (List AV)),(∀row∈els,Ok (.int .u32) row)→∃l:List UInt32,els=Za l
 | [],_=>⟨[],rfl⟩
 | r::els,h=>by
  obtain⟨l,rfl⟩:=zkz els fun row hr=>h row (Ys _ hr);obtain⟨n,rfl,hw⟩:=h r Yaa;have h1:0≤n∧n<4294967296:=by
   simp[Lit.wf,IntKind.min,IntKind.max,IntKind.signed,IntKind.bits]at hw;omega
  refine⟨w32 n.toNat::l,?_⟩;have:(w32 n.toNat).toNat=n.toNat:=zag (by omega);simp only[Za,Y1,this,u32];rw[Int.toNat_of_nonneg h1.1]
theorem zyf{P:Program}{ν:Nat→FuncId}{T:Tbl}(hT:TOk P ν T)(hm:P.follows .mixedOrders=true){u:Nat}{af:AFx}{xs ys:List AV}{r:AV}(hu:T u=some af)(hl:af.lent=none)(h:Zb T u ys=some r)(hx:xs.map wkA=ys):Zbb P (ν u) xs (·=r):=by
 subst hx;have h1:=zh8 hT hm hu hl h;exact Zbb.wk (ex:=false) h1
abbrev Fz:=Bool×List UInt32×List UInt32
abbrev Zbq(x:Fz):List AV:=[.b x.1,.sl (Za x.2.1) .an,.sl (Za x.2.2) .an]
abbrev efz(x:Fz):AV:=.agg (Zbq x)
def fv(x:Fz):Rat:=mkRat (wv x.1 x.2.1) (val x.2.2)
def fz(q:Rat):Fz:=(decide (q.num<0),ofN q.num.natAbs,ofN q.den)
@[simp] theorem zbe(q:Rat):fv (fz q)=q:=by
 unfold fv fz;rw[zfj,zae,Rat.mkRat_self]
def fsz(x:Fz):Nat:=max x.2.1.length x.2.2.length
theorem zc4(x:Fz):x.2.1.length≤fsz x:=Ydl ..
theorem zc7(x:Fz):x.2.2.length≤fsz x:=Yc8 ..
def sz(q:Rat):Nat:=max (ofN q.num.natAbs).length (ofN q.den).length
theorem zgc(q:Rat):(ofN q.num.natAbs).length≤sz q:=Ydl ..
theorem zgd(q:Rat):(ofN q.den).length≤sz q:=Yc8 ..
theorem ziz{n:Nat}(h:n≠0):1≤(ofN n).length:=by
 have:ofN n≠[]:=fun e=>h (zau.1 e);exact Ycm.2 this
theorem z03(q:Rat):1≤sz q:=Yc (ziz q.den_nz) (zgd q)
theorem z04{z:Int}{d:Nat}(h:d≠0):(mkRat z d).num.natAbs=z.natAbs/Nat.gcd z.natAbs d:=by
 rw[Rat.num_mkRat,if_neg h,Int.natAbs_ediv_of_dvd (Int.ofNat_dvd_left.2 (Nat.gcd_dvd_right ..)),Yee,Yb3]
theorem z05{z:Int}{d:Nat}(h:d≠0):(mkRat z d).den=d/Nat.gcd z.natAbs d:=by
 rw[Rat.den_mkRat,if_neg h,Yb3]
theorem z06{z:Int}{d:Nat}(h:d≠0):sgI (mkRat z d).num=sgI z:=by
 rw[Rat.num_mkRat,if_neg h];have hg:0<Nat.gcd d z.natAbs:=Nat.gcd_pos_of_pos_left _ (Yai h);obtain⟨k,hk⟩:((Nat.gcd d z.natAbs:Nat):Int) ∣ z:=Int.ofNat_dvd_left.2 (Nat.gcd_dvd_right ..);generalize Nat.gcd d z.natAbs=g at *
 have hg':(0:Int)<g:=by omega
 subst hk;rw[Int.mul_ediv_cancel_left _ (by omega)];unfold sgI;rcases Int.lt_trichotomy k 0 with h1 | h1 | h1
 ·have:=Int.mul_neg_of_pos_of_neg hg' h1;rw[if_pos h1,if_pos this]
 ·subst h1;simp
 ·have:=Int.mul_pos hg' h1;rw[if_neg (by omega),if_neg (by omega),if_neg (by omega),if_neg (by omega)]
theorem zxh(z:Int):decide (z<0)=decide (sgI z<0):=by
 unfold sgI;split
 ·simp[*]
 ·split<;>simp[*]
theorem z9u{z:Int}{d:Nat}(h:d≠0):decide ((mkRat z d).num<0)=decide (z<0):=by
 rw[zxh,zxh z,z06 h]
theorem z9v(n:Bool)(x:Nat){d:Nat}(h:d≠0):fz (mkRat (sg n x) d)=(n&&decide (x≠0),ofN (x/Nat.gcd x d),ofN (d/Nat.gcd x d)):=by
 unfold fz;rw[z9u h,z04 h,z05 h,zqn,zqo]
theorem zfl:ofN 1=[1]:=by
 rw[zgx (by decide),show 1/4294967296=0 from rfl,zd4]
 rfl
theorem zxi:fz 0=(false,[],[1]):=by
 unfold fz;rw[Rat.zero_num,Rat.zero_den,zfl];simp
theorem zb9:sz 0=1:=by
 unfold sz;rw[Rat.zero_num,Rat.zero_den,zfl];simp
theorem zaw(q:Rat):fsz (fz q)=sz q:=rfl
theorem z4c{z:Int}{d L:Nat}(hz:(ofN z.natAbs).length≤L)(hd:(ofN d).length≤L)(h1:1≤L):sz (mkRat z d)≤L:=by
 unfold sz;by_cases h:d=0
 ·subst h;rw[Ye6,Rat.zero_num,Rat.zero_den,zfl];simp;omega
 ·rw[z04 h,z05 h];exact Ye5.2 ⟨Yc (zat (Ybx _ _)) hz,Yc (zat (Ybx _ _)) hd⟩
theorem za6{x:Fz}{L:Nat}(h:fsz x≤L)(h1:1≤L):sz (fv x)≤L:=
 z4c (Yc (zbx _ _) (Yc (zc4 x) h)) (Yc (zac _) (Yc (zc7 x) h)) h1
theorem za5{x y L M:Nat}(hx:(ofN x).length≤L)(hy:(ofN y).length≤M):(ofN (x*y)).length≤L+M:=by
 have:=za4 (x:=(x:Int)) (y:=(y:Int)) (L:=L) (M:=M) (by simpa using hx) (by simpa using hy);simpa[Yeg]using this
theorem zd7(p q:Rat):sz (p+q)≤sz p+sz q+1:=by
 rw[Rat.add_def'];have h1:=zgc p;have h2:=zgd p;have h3:=zgc q;have h4:=zgd q;have h5:=z03 p;refine z4c ?_ (Yc (za5 h2 h4) (by omega)) (by omega);refine zb8 ?_ ?_
 ·exact za4 h1 (by simpa using h4)
 ·rw[Ybf];exact za4 h3 (by simpa using h2)
theorem zbf(p q:Rat):sz (p*q)≤sz p+sz q:=by
 rw[Rat.mul_def'];have h1:=zgc p;have h2:=zgd p;have h3:=zgc q;have h4:=zgd q;have h5:=z03 p;exact z4c (za4 h1 h3) (za5 h2 h4) (by omega)
theorem zi0(p:Rat):sz (-p)=sz p:=by
 unfold sz;rw[Rat.neg_num,Rat.neg_den,Ye7]
theorem zqs(p q:Rat):sz (p-q)≤sz p+sz q+1:=by
 rw[Yed];have:=zd7 p (-q)
 rwa [zi0]at this
theorem z07(p:Rat):sz p⁻¹≤sz p:=by
 unfold sz;rw[Rat.num_inv,Rat.den_inv];by_cases h:p.num=0
 ·simp[h,zfl];have:=ziz p.den_nz;omega
 ·rw[if_neg h,Yeg,Yd8 h,Ycn,Yee,Nat.max_comm];exact Yh _
theorem ze7(p q:Rat):sz (p/q)≤sz p+sz q:=by
 rw[Yfa];exact Yc (zbf _ _) (Nat.add_le_add_left (z07 q) _)
def sgQ(q:Rat):Int:=sgI q.num
theorem z08{z:Int}{d:Nat}(h:d≠0):sgQ (mkRat z d)=sgI z:=z06 h
theorem zz3{z:Int}:sgI z=0↔z=0:=by
 unfold sgI;split
 ·constructor<;>intro h<;>omega
 ·split<;>constructor<;>intro h<;>omega
theorem zge{q:Rat}:sgQ q=0↔q=0:=by
 unfold sgQ;rw[zz3,Rat.num_eq_zero]
def Zd(l:List Fz):List (List AV):=l.map Zbq
@[simp] theorem zi1(l:List Fz):(Zd l).length=l.length:=by simp[Zd]
@[simp] theorem zgz(l:List Fz):wkL (Zd l)=Zd l:=by rw[zbq];simp[Zd,wkR,wkA]
@[simp] theorem rowF_get?(l:List Fz)(i:Nat):(Zd l)[i]? = (l[i]?).map Zbq:=by simp[Zd]
@[simp] theorem zac3(l:List Fz)(i:Nat)(h:i<(Zd l).length):(Zd l)[i]=Zbq (l[i]'(by simpa using h)):=by simp[Zd]
theorem zi2(l:List Fz)(x:Fz):Zd l++[Zbq x]=Zd (l++[x]):=by simp[Zd]
theorem zz4(l:List Fz)(i:Nat)(x:Fz):(Zd l).set i (Zbq x)=Zd (l.set i x):=by simp[Zd,Ycw]
@[simp] theorem z9w(l:List Fz)(n:Nat):(Zd l).take n=Zd (l.take n):=by simp[Zd]
@[simp] theorem zb5:Zd []=[]:=rfl
def Zu(m:List (List Fz)):List (List AV):=m.map fun r=>[.sl (Zd r) .an]
@[simp] theorem z4d(l:List (List Fz)):(Zu l).length=l.length:=by simp[Zu]
@[simp] theorem z4e(l:List (List Fz)):wkL (Zu l)=Zu l:=by rw[zbq];simp[Zu,wkR,wkA]
@[simp] theorem matF_get?(l:List (List Fz))(i:Nat):(Zu l)[i]? = (l[i]?).map fun r=>[.sl (Zd r) .an]:=by simp[Zu]
@[simp] theorem zac4(l:List (List Fz))(i:Nat)(h:i<(Zu l).length):(Zu l)[i]=[.sl (Zd (l[i]'(by simpa using h))) .an]:=by simp[Zu]
theorem znr(l:List (List Fz))(r:List Fz):Zu l++[[.sl (Zd r) .an]]=Zu (l++[r]):=by simp[Zu]
@[simp] theorem z9x(l:List (List Fz))(n:Nat):(Zu l).take n=Zu (l.take n):=by simp[Zu]
@[simp] theorem z9y(l:List (List Fz))(n:Nat):(Zu l).drop n=Zu (l.drop n):=by simp[Zu]
@[simp] theorem zgf:Zu []=[]:=rfl
abbrev tyF:Ty:=.cons .bool (.cons (.sl (.int .u32)) (.cons (.sl (.int .u32)) .nil))
theorem z0r{cs:List AV}(h:Ok tyF cs):∃x:Fz,wkR cs=Zbq x:=by
 obtain⟨c1,c2,rfl,⟨b,rfl⟩,c3,c4,rfl,⟨els,f,rfl,_,_,he⟩,c5,c6,rfl,⟨els2,f2,rfl,_,_,he2⟩,rfl⟩:=h;obtain⟨l,rfl⟩:=zkz els he;obtain⟨l2,rfl⟩:=zkz els2 he2;refine⟨(b,l,l2),?_⟩;simp[wkA,wkR]
theorem zmn:∀(els:List (List AV)),(∀r∈els,Ok tyF r)→∃l:List Fz,wkL els=Zd l
 | [],_=>⟨[],rfl⟩
 | r::els,h=>by
  obtain⟨l,hl⟩:=zmn els fun r hr=>h r (Ys _ hr);obtain⟨x,hx⟩:=z0r (h r Yaa);refine⟨x::l,?_⟩;simp only[wkL,hx,hl]
  rfl
theorem zf0{cs:List AV}(h:Ok (.sl tyF) cs):∃l:List Fz,wkR cs=[.sl (Zd l) .an]:=by
 obtain⟨els,f,rfl,_,_,he⟩:=h;obtain⟨l,hl⟩:=zmn els he;exact⟨l,by simp[wkR,wkA,hl]⟩
theorem zmo:∀(els:List (List AV)),(∀r∈els,Ok (.sl tyF) r)→∃m:List (List Fz),wkL els=Zu m
 | [],_=>⟨[],rfl⟩
 | r::els,h=>by
  obtain⟨m,hm⟩:=zmo els fun r hr=>h r (Ys _ hr);obtain⟨l,hl⟩:=zf0 (h r Yaa);refine⟨l::m,?_⟩;simp only[wkL,hl,hm]
  rfl
theorem zrl{P:Program}{ν:Nat→FuncId}{l l':List (Nat×AFx)}(hT:TOk P ν fun u=>l'.lookup u)(hp:Part l l')(hm:P.follows .mixedOrders=true){u:Nat}{af:AFx}{xs ys:List AV}{r:AV}
  (hu:l'.lookup u=some af) (hl:af.lent=none) (h:Zb (fun u=>l.lookup u) u ys=some r) (hx:xs.map wkA=ys):Zbb P (ν u) xs (·=r):=
 zyf hT hm hu hl (hp.call (by rw[hu];rfl) h) hx
class Zl5 (T:Tbl):Prop where
theorem cop2{X:Nat}(h:X%2=1)(k:Nat):Nat.Coprime (2^k) X:=by
 refine Nat.Coprime.pow_left k ?_;unfold Nat.Coprime;rw[Ye8,h]
 rfl
theorem zi3{k m Y:Nat}(hY:Y%2=1):Nat.gcd (2^k*m) Y=Nat.gcd m Y:=Nat.Coprime.gcd_mul_left_cancel m (cop2 hY k)
theorem z4f{m n X Y:Nat}(hX:X%2=1)(hY:Y%2=1):Nat.gcd (2^m*X) (2^n*Y)=2^(min m n)*Nat.gcd X Y:=by
 rcases Nat.le_total m n with h | h
 ·rw[Yc0 h,show n=m+(n-m) by omega,Ybk,Yx,Nat.gcd_mul_left,Yb3 X,zi3 hX,Yb3 Y]
 ·rw[Nat.min_eq_right h,show m=n+(m-n) by omega,Ybk,Yx,Nat.gcd_mul_left,zi3 hY]
theorem zqt{X Y k m:Nat}(hY:Y%2=1)(h:Y≤X)(e:X-Y=2^k*m):Nat.gcd m Y=Nat.gcd X Y:=by
 rw[←zi3 hY (k:=k),←e,Nat.gcd_sub_self_left h]
theorem zz5{n:Nat}(h:n≠0):∃k m,n=2^k*m∧m%2=1:=by
 induction n using Nat.strongRecOn with
 | _ n ih=>
  by_cases h2:n%2=1
  ·exact⟨0,n,by simp,h2⟩
  ·obtain⟨k,m,e,hm⟩:=ih (n/2) (by omega) (by omega);refine⟨k+1,m,?_,hm⟩;rw[Yw,Yad (2^k),Yx,←e];omega
section
variable{T:Tbl}
theorem zi9(G:Nat):∀y:Nat×Nat,(y.1<18446744073709551616∧y.2<18446744073709551616∧Nat.gcd y.1 y.2=G) →
  Zn T 0 0 (.norm false [0]) l198_0 ⟨[(0,u64 y.1),(1,u64 y.2)],[],2⟩=some (.n,⟨[(0,u64 G)],[],2⟩):=by
 refine zaz (fun y:Nat×Nat=>⟨[(0,u64 y.1),(1,u64 y.2)],[],2⟩) _ (fun y=>y.2) _ ?_
 rintro⟨x,y⟩ ⟨hx,hy,hG⟩
 simp only at hx hy hG ⊢;by_cases h:y=0
 ·right;subst h;rw[Yec]at hG;subst hG;constructor<;>simp -implicitDefEqProofs[l198_0]
 ·left;have hm:=Ya3 x (Yai h);refine⟨(y,x%y),⟨hy,by simp only;omega,by simp only;rw[←hG,Yb3 y,←Ye8,Yb3]⟩,hm,?_,trivial⟩;simp -implicitDefEqProofs[l198_0,h]
end
section
variable{T:Tbl}[Zl T]
theorem zmq(x y:Nat)(hx:x<18446744073709551616)(hy:y<18446744073709551616):Zb T 198 [u64 x,u64 y]=some (u64 (Nat.gcd x y)):=by
 have h:=zi9 (T:=T) (Nat.gcd x y) (x,y) ⟨hx,hy,rfl⟩;simp only at h;rw[zaa Zl.h198 rfl,b198];simp -implicitDefEqProofs[h]
theorem zrn(a:List UInt32):Zb T 200 [.sl (Za (ofN (val a))) .an]=some (.b (decide (val a=1))):=by
 rw[zaa Zl.h200 rfl,b200];generalize val a=n;by_cases h0:n=0
 ·subst h0;simp -implicitDefEqProofs
 ·rw[zgx h0];by_cases h1:n/4294967296=0
  ·have e:ofN (n/4294967296)=[]:=zau.2 h1;have e2:n%4294967296=n:=Yi (by omega);simp -implicitDefEqProofs[e,Za,zb4,e2]
  ·have h2:¬ ofN (n/4294967296)=[]:=fun e=>h1 (zau.1 e);have h3:¬ n=1:=by rintro rfl;simp at h1
   have h4:¬ ((ofN (n/4294967296)).length:Int)+1=1:=by
    have:=Ycm.2 h2;omega
   simp -implicitDefEqProofs[Za,h3,h4]
end
section
variable{T:Tbl}[Zs T][Zw T][Zx T][Zt T][Zv T][Zl T]
theorem zyo(G:Nat):∀y:List UInt32×List UInt32,(y.1.length≤90000∧y.2.length≤90000∧(∃n,y.1=ofN n)∧(∃n,y.2=ofN n)∧Nat.gcd (val y.1) (val y.2)=G) →
  ∃r,(∃a b:List UInt32,r=(Ex.n,(⟨[(0,.sl (Za a) .an),(1,.sl (Za b) .an)],[],2⟩:St))∧a.length≤90000∧b.length≤2∧(∃n,a=ofN n)∧(∃n,b=ofN n)∧Nat.gcd (val a) (val b)=G) ∧
   Zn T 0 0 (.norm false [0,1]) l199_0 ⟨[(0,.sl (Za y.1) .an),(1,.sl (Za y.2) .an)],[],2⟩=some r:=by
 refine zaq (fun y:List UInt32×List UInt32=>⟨[(0,.sl (Za y.1) .an),(1,.sl (Za y.2) .an)],[],2⟩) _ (fun y=>val y.2) _ ?_
 rintro⟨a,b⟩ ⟨ha,hb,hk,hn,hG⟩
 simp only at ha hb hk hn hG ⊢;by_cases h:2<b.length
 ·left;have h':(2:Int)<b.length:=by omega
  have hv:val b≠0:=by
   obtain⟨n,rfl⟩:=hn;rw[zae]
   rintro rfl
   simp at h
  have hd:=zf8 (T:=T) a b ha hb;rw[if_neg hv]at hd;have hm:=Ya3 (val a) (Yai hv);refine⟨(b,ofN (val a%val b)),⟨hb,?_,hn,⟨_,rfl⟩,?_⟩,?_,?_⟩
  ·have:=zat (Ycg hm);have:=zac b;simp only;omega
  ·simp only;rw[zae,←hG,Yb3 (val b),←Ye8,Yb3]
  ·simp only[zae];exact hm
  ·clear hG hm hn hv hk;simp -implicitDefEqProofs[l199_0,h',hd]
 ·right;have h':¬ (2:Int)<b.length:=by omega
  refine⟨_,⟨a,b,rfl,ha,by omega,hk,hn,hG⟩,?_,?_⟩<;>clear hG<;>simp -implicitDefEqProofs[l199_0,h']
theorem zoh(a b:List UInt32)(ha:a.length≤90000)(hb:b.length≤90000):Zb T 199 [.sl (Za a) .an,.sl (Za b) .an]=some (.sl (Za (ofN (Nat.gcd (val a) (val b)))) .an):=by
 have h1:=zbw (T:=T) a (by omega);have h2:=zbw (T:=T) b (by omega);have la:=zac a;have lb:=zac b;obtain⟨G,hG⟩:∃G,G=Nat.gcd (val a) (val b):=⟨_,rfl⟩;obtain⟨_,⟨x,y,rfl,hx,hy,⟨m,rfl⟩,⟨n,rfl⟩,hg⟩,hr⟩:=zyo (T:=T) G (ofN (val a),ofN (val b)) ⟨by simp only;omega,by simp only;omega,⟨_,rfl⟩,⟨_,rfl⟩,by simp only[zae];exact hG.symm⟩;simp only at hr;rw[zae,zae]at hg;rw[zaa Zl.h199 rfl,b199,←hG];clear hG;by_cases h0:n=0
 ·subst h0;rw[Yec]at hg;subst hg;simp -implicitDefEqProofs[h1,h2,hr]
 ·have hv:val (ofN n)≠0:=by rw[zae];exact h0
  have hd:=zf8 (T:=T) (ofN m) (ofN n) hx (by omega);rw[if_neg hv,zae,zae]at hd;have hn64:n<18446744073709551616:=by
   have:=zay (ofN n);rw[zae]at this;exact Yz this (Y0 (by decide) hy)
  have hm:=Ya3 m (Yai h0);have s1:=zmy (T:=T) (ofN n) (by omega);rw[zae,if_pos hn64]at s1;have s2:=zmy (T:=T) (ofN (m%n)) (by have:=zat (Ycg hm);omega);rw[zae,if_pos (by omega)]at s2;have s3:=zmq (T:=T) n (m%n) hn64 (by omega);have e:Nat.gcd n (m%n)=G:=by rw[←hg,Yb3 n,←Ye8,Yb3]
  rw[e]at s3;have s4:=zg4 (T:=T) G (by
   rw[←hg];exact Yb8 (Nat.gcd_le_right _ (Yai h0)) hn64)
  have hl:¬ ofN n=[]:=fun e=>h0 (zau.1 e);simp -implicitDefEqProofs[h1,h2,hr,hd,s1,s2,s3,s4,hl,h0]
theorem zja(a b:List UInt32)(ha:a.length≤90000)(hb:b.length≤90000):Zb T 201 [.sl (Za a) .an,.sl (Za b) .an] =
  some (.tup [.sl (Za (ofN (val a/Nat.gcd (val a) (val b)))) .an,.sl (Za (ofN (val b/Nat.gcd (val a) (val b)))) .an]):=by
 have hg:=zoh (T:=T) a b ha hb;have ho:=zrn (T:=T) (ofN (Nat.gcd (val a) (val b)));rw[zae]at ho;have ll:(ofN (Nat.gcd (val a) (val b))).length≤90000:=by
  by_cases h:val a=0
  ·rw[h,Nat.gcd_zero_left];have:=zac b;omega
  ·have:=zat (Nat.gcd_le_left (val b) (Yai h));have:=zac a;omega
 have d1:=zf8 (T:=T) a (ofN (Nat.gcd (val a) (val b))) ha ll;have d2:=zf8 (T:=T) b (ofN (Nat.gcd (val a) (val b))) hb ll;have n1:=zbw (T:=T) a (by omega);have n2:=zbw (T:=T) b (by omega);rw[zae]at d1 d2;rw[zaa Zl.h201 rfl,b201];by_cases h0:Nat.gcd (val a) (val b)=0
 ·rw[h0]at hg ⊢;simp only[zd4]at hg;simp -implicitDefEqProofs[hg]
 ·rw[if_neg h0]at d1 d2;have hl:¬ ofN (Nat.gcd (val a) (val b))=[]:=fun e=>h0 (zau.1 e);by_cases h1:Nat.gcd (val a) (val b)=1
  ·rw[h1]at hg ho hl ⊢;simp -implicitDefEqProofs[hg,ho,n1,n2,hl]
  ·generalize Nat.gcd (val a) (val b)=g at *
   simp -implicitDefEqProofs[hg,ho,d1,d2,hl,h0,h1]
end
section
variable{T:Tbl}[Zf T]
theorem zbh(n:Bool)(k:Nat):Zb T 55 [.b n,.sl (Za (ofN k)) .an]=some (ez (sg n k)):=by
 rw[zaa Zf.h55 rfl,b55,zxa];have h:(0<(ofN k).length)=(k≠0):=by
  rw[eq_iff_iff,Ycm];exact not_congr zau
 cases n<;>simp -implicitDefEqProofs[h]
end
section
variable{T:Tbl}[Zs T][Zf T]
theorem zgw(n:Bool)(a:List UInt32)(ha:a.length≤1000000):Zb T 38 [wh n a]=some (ez (wv n a)):=by
 have h:=zbw (T:=T) a (by omega);have hs:=zbh (T:=T) n (val a);rw[zaa Zf.h38 rfl,b38];simp -implicitDefEqProofs[h,hs,wv]
end
section
variable{T:Tbl}[Zs T][Zf T]
theorem zng(n:Bool)(a:List UInt32)(ha:a.length≤1000000):Zb T 40 [wh n a]=some (ez (-wv n a)):=by
 have h:=zbw (T:=T) a (by omega);have hs:=zbh (T:=T) (!n) (val a);rw[z9s]at hs;rw[zaa Zf.h40 rfl,b40];simp -implicitDefEqProofs[h,hs,wv]
end
section
variable{T:Tbl}[Zs T][Zf T]
theorem zka(n m:Bool)(a b:List UInt32)(ha:a.length≤90000)(hb:b.length≤90000):Zb T 23 [wh n a,wh m b]=some (ez (wv n a+wv m b)):=by
 rw[zaa Zf.h23 rfl,b23];by_cases h:n=m
 ·subst h;have hn:=zy4 (T:=T) [a,b] (by simp) (by simp;omega);have hs:=zbh (T:=T) n (val a+val b);rw[ziw]at hs;have e:lls [a,b]=[[.sl (Za a) .an],[.sl (Za b) .an]]:=rfl;have e2:Ze2 [a,b]=val a+val b:=by simp[Ze2]
  rw[e,e2]at hn;simp -implicitDefEqProofs[hn,hs,wv]
 ·have hg:=z28 (T:=T) a b (by omega) (by omega);by_cases hlt:val a<val b
  ·have hs:=zbh (T:=T) m (val b-val a);rw[znm h hlt]at hs;simp -implicitDefEqProofs[h,hg,hlt,zc0,hs,wv]
  ·have hs:=zbh (T:=T) n (val a-val b);rw[znn h hlt]at hs;simp -implicitDefEqProofs[h,hg,hlt,zc0,hs,wv]
end
section
variable{T:Tbl}[Zs T][Zf T]
theorem zkb(n m:Bool)(a b:List UInt32)(ha:a.length≤90000)(hb:b.length≤90000):Zb T 25 [wh n a,wh m b]=some (ez (wv n a-wv m b)):=by
 obtain⟨z,hz⟩:∃z,z=-wv m b:=⟨_,rfl⟩;have h1:=zng (T:=T) m b (by omega);have hl:=zbx m b;rw[←zix,←hz]at hl;have h2:=zka (T:=T) n (decide (z<0)) a (ofN z.natAbs) (by omega) (by omega);have e:wv n a-wv m b=wv n a+z:=by omega
 rw[zfj,←e]at h2;rw[←hz]at h1;rw[zaa Zf.h25 rfl,b25];simp -implicitDefEqProofs[h1,h2]
end
section
variable{T:Tbl}[Zw T][Zf T]
theorem znh(n m:Bool)(a b:List UInt32)(ha:a.length≤100000)(hb:b.length≤100000):Zb T 27 [wh n a,wh m b]=some (ez (wv n a*wv m b)):=by
 have h1:=zex (T:=T) a b ha hb;have hs:=zbh (T:=T) (n != m) (val a*val b);rw[zqp]at hs;rw[zaa Zf.h27 rfl,b27];simp -implicitDefEqProofs[h1,hs,wv]
end
section
variable{T:Tbl}[Zs T][Zf T]
theorem ze0(n:Bool)(a:List UInt32)(ha:a.length≤1000000):Zb T 37 [wh n a]=some (.i .i64 (sgI (wv n a))):=by
 have h1:=zf7 (T:=T) a (by omega);rw[zaa Zf.h37 rfl,b37];unfold wv;rw[z02];by_cases h:val a=0
 ·simp -implicitDefEqProofs[h1,h]
 ·cases n<;>simp -implicitDefEqProofs[h1,h]
end
section
variable{T:Tbl}[Zs T][Zf T]
theorem zsv(n m:Bool)(a b:List UInt32)(ha:a.length≤90000)(hb:b.length≤90000):Zb T 36 [wh n a,wh m b]=some (.i .i64 (sgI (wv n a-wv m b))):=by
 have h1:=zkb (T:=T) n m a b ha hb;have hl:=zb8 (x:=wv n a) (y:=-wv m b) (L:=90000) (by have:=zbx n a;omega) (by rw[zix];have:=zbx m b;omega);rw[←Int.sub_eq_add_neg]at hl;have h2:=ze0 (T:=T) (decide (wv n a-wv m b<0)) (ofN (wv n a-wv m b).natAbs) (show (ofN (wv n a-wv m b).natAbs).length≤1000000 by omega);rw[zfj]at h2;rw[zaa Zf.h36 rfl,b36];simp -implicitDefEqProofs[h1,h2]
end
section
variable{T:Tbl}[Zs T][Zf T]
theorem zzy(k:Int)(h1:-9223372036854775808≤k)(h2:k<9223372036854775808):Zb T 41 [.i .i64 k]=some (ez k):=by
 rw[zaa Zf.h41 rfl,b41];by_cases h:k<0
 ·have hn:=zg4 (T:=T) k.natAbs (by omega);have hs:=zbh (T:=T) true k.natAbs;have e:sg true k.natAbs=k:=by simp[sg];omega
  have e2:Zdo 0 (k%18446744073709551616).toNat=k.natAbs:=by unfold Zdo;omega
  rw[e]at hs;simp -implicitDefEqProofs[h,e2,hn,hs]
 ·have hn:=zg4 (T:=T) k.natAbs (by omega);have hs:=zbh (T:=T) false k.natAbs;have e:sg false k.natAbs=k:=by simp[sg];omega
  have e2:(k%18446744073709551616).toNat=k.natAbs:=by omega
  rw[e]at hs;simp -implicitDefEqProofs[h,e2,hn,hs]
end
section
variable{T:Tbl}[Zs T][Zau T][Zf T]
theorem zsw(n:Bool)(a:List UInt32)(ha:a.length≤1000):Zb T 34 [wh n a]=some (.s (Ze9 (wv n a))):=by
 have h1:Zb T 68 [.sl (Za a) .an]=some (.s (Zay (val a))):=by rw[p68,znk a ha]
 have h2:=ze0 (T:=T) n a (by omega);have h3:=zfk ha;have h4:1+(Zay (val a)).length≤9223372036854775807:=by omega
 rw[zaa Zf.h34 rfl,b34];unfold Ze9;rw[z01];by_cases h:wv n a<0
 ·have h5:sgI (wv n a)=-1:=by unfold sgI;rw[if_pos h]
  simp -implicitDefEqProofs[h1,h2,h,h5,h4]
 ·have h5:¬ sgI (wv n a)<0:=by unfold sgI;rw[if_neg h];split<;>omega
  simp -implicitDefEqProofs[h1,h2,h,h5]
end
section
variable{T:Tbl}[Zs T][Zw T][Zx T][Zt T][Zv T][Zf T][Zl T][Zq T]
theorem zoj(p q:Int)(hp:(ofN p.natAbs).length≤90000)(hq:(ofN q.natAbs).length≤90000):Zb T 23 [ez p,ez q]=some (ez (p+q)):=by
 have:=zka (T:=T) (decide (p<0)) (decide (q<0)) _ _ hp hq
 rwa [zfj,zfj]at this
theorem zok(p q:Int)(hp:(ofN p.natAbs).length≤90000)(hq:(ofN q.natAbs).length≤90000):Zb T 25 [ez p,ez q]=some (ez (p-q)):=by
 have:=zkb (T:=T) (decide (p<0)) (decide (q<0)) _ _ hp hq
 rwa [zfj,zfj]at this
theorem zol(p q:Int)(hp:(ofN p.natAbs).length≤90000)(hq:(ofN q.natAbs).length≤90000):Zb T 36 [ez p,ez q]=some (.i .i64 (sgI (p-q))):=by
 have:=zsv (T:=T) (decide (p<0)) (decide (q<0)) _ _ hp hq
 rwa [zfj,zfj]at this
theorem zro(p:Int)(hp:(ofN p.natAbs).length≤1000000):Zb T 40 [ez p]=some (ez (-p)):=by
 have:=zng (T:=T) (decide (p<0)) _ hp
 rwa [zfj]at this
theorem zrp{x d:Nat}(h:d≠0):decide (x/Nat.gcd x d≠0)=decide (x≠0):=by
 have hg:0<Nat.gcd x d:=Yem _ (Yai h);obtain⟨k,hk⟩:=Nat.gcd_dvd_left x d;generalize Nat.gcd x d=g at *
 subst hk;rw[Yer _ hg,decide_eq_decide];have:g≠0:=by omega
 exact⟨fun h1 h2=>h1 ((Nat.mul_eq_zero.1 h2).resolve_left this),fun h1 h2=>h1 (by rw[h2,Yac])⟩
theorem zch(n:Bool)(a d:List UInt32)(ha:a.length≤90000)(hd:d.length≤90000)(h:val d≠0) :
  Zb T 202 [wh n a,.sl (Za d) .an]=some (efz (fz (mkRat (wv n a) (val d)))):=by
 have e:=z9v n (val a) h
 change fz (mkRat (wv n a) (val d))=_ at e
 have hc:=zja (T:=T) a d ha hd;have hl:(ofN (val a/Nat.gcd (val a) (val d))).length≤1000000:=by
  have:=zat (Ybx (val a) (Nat.gcd (val a) (val d)));have:=zac a;omega
 have hn:=zgw (T:=T) n _ hl;have e2:wv n (ofN (val a/Nat.gcd (val a) (val d)))=sg n (val a/Nat.gcd (val a) (val d)):=by unfold wv;rw[zae]
 rw[e2,zxa,zrp h]at hn;rw[e,zaa Zq.h202 rfl,b202];generalize ofN (val a/Nat.gcd (val a) (val d))=A at *
 generalize ofN (val d/Nat.gcd (val a) (val d))=D at *
 clear e e2;simp -implicitDefEqProofs[hc,hn]
theorem za9(x:Fz)(hx:fsz x≤100000):∃y:Fz,val y.2.2≠0∧fv y=fv x∧fsz y≤max 1 (fsz x)∧Zb T 203 [efz x]=some (.tup [wh y.1 y.2.1,.sl (Za y.2.2) .an]):=by
 obtain⟨n,a,d⟩:=x;have h1:=zc4 (n,a,d);have h2:=zc7 (n,a,d);simp only at h1 h2;have hz:=zf7 (T:=T) d (by omega);by_cases h:val d=0
 ·refine⟨(false,[],[1]),by simp,?_,?_,?_⟩
  ·unfold fv;simp only[h,Ye6]
   rfl
  ·show 1≤_;omega
  ·have ho:=zg4 (T:=T) 1 (by decide);rw[zfl]at ho;rw[zaa Zq.h203 rfl,b203];simp -implicitDefEqProofs[hz,h,ho]
 ·refine⟨(n,a,d),h,rfl,by omega,?_⟩;rw[zaa Zq.h203 rfl,b203];simp -implicitDefEqProofs[hz,h]
theorem zgo(k:Int)(h1:-9223372036854775808≤k)(h2:k<9223372036854775808):Zb T 205 [.i .i64 k]=some (efz (fz (k:Rat))):=by
 have hw:=zzy (T:=T) k h1 h2;have ho:=zg4 (T:=T) 1 (by decide);have e:fz (k:Rat)=(decide (k<0),ofN k.natAbs,ofN 1):=rfl;rw[e,zaa Zq.h205 rfl,b205];simp -implicitDefEqProofs[hw,ho]
theorem zcm:Zb T 205 [.i .i64 0]=some (efz (fz 0)):=zgo 0 (by decide) (by decide)
theorem zp7:Zb T 205 [.i .i64 1]=some (efz (fz 1)):=zgo 1 (by decide) (by decide)
theorem zew(x:Fz)(hx:fsz x≤90000):Zb T 207 [efz x]=some (efz (fz (fv x))):=by
 obtain⟨⟨n,a,d⟩,h1,h2,h3,hp⟩:=za9 (T:=T) x (by omega);simp only at h1 hp;have la:=zc4 (n,a,d);have ld:=zc7 (n,a,d);simp only at la ld;have hc:=zch (T:=T) n a d (by omega) (by omega) h1;rw[←h2]
 change _=some (efz (fz (mkRat (wv n a) (val d))))
 rw[zaa Zq.h207 rfl,b207];generalize fz (mkRat (wv n a) (val d))=R at *
 clear h1 h2 h3;simp -implicitDefEqProofs[hp,hc]
theorem zci(x:Fz)(hx:fsz x≤10000):Zb T 207 [efz x]=some (efz (fz (fv x))):=zew (T:=T) x (Yc hx (by decide))
theorem zrq(x:Fz)(hx:fsz x≤90000):Zb T 209 [efz x]=some (.i .i64 (sgQ (fv x))):=by
 obtain⟨⟨n,a,d⟩,h1,h2,h3,hp⟩:=za9 (T:=T) x (by omega);simp only at h1 hp;have la:=zc4 (n,a,d);simp only at la;have hc:=ze0 (T:=T) n a (by omega);rw[←h2];unfold fv;rw[z08 h1,zaa Zq.h209 rfl,b209];clear h1 h2 h3;simp -implicitDefEqProofs[hp,hc]
theorem zmr(x:Fz)(hx:fsz x≤10000):Zb T 209 [efz x]=some (.i .i64 (sgQ (fv x))):=zrq (T:=T) x (Yc hx (by decide))
theorem zb0(n:Bool)(a d:List UInt32)(ha:a.length≤90000)(hd:d.length≤90000):Zb T 210 [wh n a,.sl (Za d) .an]=some (ez (wv n a*(val d:Int))):=by
 have hm:=znh (T:=T) n false a d (by omega) (by omega);rw[show wv false d=(val d:Int) from rfl]at hm;generalize wv n a*(val d:Int)=z at *
 rw[zaa Zq.h210 rfl,b210];simp -implicitDefEqProofs[hm]
theorem zu6(x x':Fz)(hx:fsz x≤30000)(hx':fsz x'≤30000):Zb T 211 [efz x,efz x']=some (.i .i64 (sgQ (fv x-fv x'))):=by
 obtain⟨⟨n,a,d⟩,h1,h2,h3,hp⟩:=za9 (T:=T) x (by omega);obtain⟨⟨m,b,e⟩,h1',h2',h3',hp'⟩:=za9 (T:=T) x' (by omega);simp only at h1 hp h1' hp';have la:=zc4 (n,a,d);have ld:=zc7 (n,a,d);have lb:=zc4 (m,b,e);have le:=zc7 (m,b,e);simp only at la ld lb le;have c1:=zb0 (T:=T) n a e (by omega) (by omega);have c2:=zb0 (T:=T) m b d (by omega) (by omega);have l1:(ofN (wv n a*(val e:Int)).natAbs).length≤60000:=by
  have:=za4 (x:=wv n a) (y:=(val e:Int)) (L:=30000) (M:=30000) (Yc (zbx n a) (by omega)) (Yc (zbx false e) (by omega));omega
 have l2:(ofN (wv m b*(val d:Int)).natAbs).length≤60000:=by
  have:=za4 (x:=wv m b) (y:=(val d:Int)) (L:=30000) (M:=30000) (Yc (zbx m b) (by omega)) (Yc (zbx false d) (by omega));omega
 have e1:sgQ (fv x-fv x')=sgI (wv n a*(val e:Int)-wv m b*(val d:Int)):=by
  rw[←h2,←h2',Yed];unfold fv;rw[Rat.neg_mkRat,Ydd _ _ h1 h1',z08 (Ycy h1 h1'),Ye9]
  rfl
 generalize wv n a*(val e:Int)=z1 at *
 generalize wv m b*(val d:Int)=z2 at *
 have c3:=zol (T:=T) z1 z2 (by omega) (by omega);rw[e1,zaa Zq.h211 rfl,b211];clear h1 h2 h3 h1' h2' h3' e1;simp -implicitDefEqProofs[hp,hp',c1,c2,c3]
theorem zrr(x x':Fz)(hx:fsz x≤30000)(hx':fsz x'≤30000):Zb T 212 [efz x,efz x']=some (.b (decide (fv x=fv x'))):=by
 have hc:=zu6 (T:=T) x x' hx hx';have e:(sgQ (fv x-fv x') == 0)=decide (fv x=fv x'):=by
  rw[Ybb];simp only[beq_iff_eq,decide_eq_true_eq,zge];constructor
  ·intro h;have:=Rat.sub_add_cancel (a:=fv x) (b:=fv x');rw[h,Rat.zero_add]at this;exact this.symm
  ·intro h;rw[h,Rat.sub_self]
 rw[zaa Zq.h212 rfl,b212];simp -implicitDefEqProofs[hc,e]
theorem zu7(x x':Fz)(hx:fsz x≤1000)(hx':fsz x'≤1000):Zb T 212 [efz x,efz x']=some (.b (decide (fv x=fv x'))):=zrr (T:=T) x x' (Yc hx (by decide)) (Yc hx' (by decide))
theorem zu8(x:Fz)(hx:fsz x≤90000):Zb T 213 [efz x]=some (efz (fz (-fv x))):=by
 have h1:=zew (T:=T) x hx;have hl:(ofN (fv x).num.natAbs).length≤1000000:=by
  have:=za6 (x:=x) (L:=90000) hx (by decide);have:=zgc (fv x);omega
 have h2:Zb T 40 [.agg [.b (decide ((fv x).num<0)),.sl (Za (ofN (fv x).num.natAbs)) .an]]=some (.agg [.b (decide (-(fv x).num<0)),.sl (Za (ofN (-(fv x).num).natAbs)) .an]):=zro (T:=T) (fv x).num hl;generalize fv x=q at *
 have e:fz (-q)=(decide (-q.num<0),ofN (-q.num).natAbs,ofN q.den):=rfl;have e':fz q=(decide (q.num<0),ofN q.num.natAbs,ofN q.den):=rfl;rw[e,zaa Zq.h213 rfl,b213];rw[e']at h1;generalize ofN q.num.natAbs=A at *
 generalize ofN q.den=D at *
 simp -implicitDefEqProofs[h1,h2]
theorem zf1(x:Fz)(hx:fsz x≤10000):Zb T 213 [efz x]=some (efz (fz (-fv x))):=zu8 (T:=T) x (Yc hx (by decide))
theorem zcz(x x':Fz)(hx:fsz x≤30000)(hx':fsz x'≤30000):Zb T 215 [efz x,efz x']=some (efz (fz (fv x+fv x'))):=by
 obtain⟨⟨n,a,d⟩,h1,h2,h3,hp⟩:=za9 (T:=T) x (by omega);obtain⟨⟨m,b,e⟩,h1',h2',h3',hp'⟩:=za9 (T:=T) x' (by omega);simp only at h1 hp h1' hp';have la:=zc4 (n,a,d);have ld:=zc7 (n,a,d);have lb:=zc4 (m,b,e);have le:=zc7 (m,b,e);simp only at la ld lb le;have c1:=zb0 (T:=T) n a e (by omega) (by omega);have c2:=zb0 (T:=T) m b d (by omega) (by omega);have c4:=zex (T:=T) d e (by omega) (by omega);have l1:(ofN (wv n a*(val e:Int)).natAbs).length≤60000:=by
  have:=za4 (x:=wv n a) (y:=(val e:Int)) (L:=30000) (M:=30000) (Yc (zbx n a) (by omega)) (Yc (zbx false e) (by omega));omega
 have l2:(ofN (wv m b*(val d:Int)).natAbs).length≤60000:=by
  have:=za4 (x:=wv m b) (y:=(val d:Int)) (L:=30000) (M:=30000) (Yc (zbx m b) (by omega)) (Yc (zbx false d) (by omega));omega
 have l3:(ofN (val d*val e)).length≤60000:=by
  have:=za5 (x:=val d) (y:=val e) (L:=30000) (M:=30000) (Yc (zac d) (by omega)) (Yc (zac e) (by omega));omega
 have e1:fv x+fv x'=mkRat (wv n a*(val e:Int)+wv m b*(val d:Int)) (val d*val e):=by
  rw[←h2,←h2'];exact Ydd _ _ h1 h1'
 have hne:=Ycy h1 h1';generalize wv n a*(val e:Int)=z1 at *
 generalize wv m b*(val d:Int)=z2 at *
 generalize val d*val e=D at *
 have c3:=zoj (T:=T) z1 z2 (by omega) (by omega);have c5:=zch (T:=T) (decide (z1+z2<0)) (ofN (z1+z2).natAbs) (ofN D) (by have:=zb8 l1 l2;omega) (by omega) (by rw[zae];exact hne);rw[zfj,zae,←e1]at c5;generalize fv x+fv x'=q at *
 generalize z1+z2=z at *
 rw[zaa Zq.h215 rfl,b215];clear h1 h2 h3 h1' h2' h3' e1 l1 l2 l3 hne;simp -implicitDefEqProofs[hp,hp',c1,c2,c3,c4,c5]
theorem zf2(x x':Fz)(hx:fsz x≤1000)(hx':fsz x'≤1000):Zb T 215 [efz x,efz x']=some (efz (fz (fv x+fv x'))):=zcz (T:=T) x x' (Yc hx (by decide)) (Yc hx' (by decide))
theorem zu9(x x':Fz)(hx:fsz x≤30000)(hx':fsz x'≤30000):Zb T 216 [efz x,efz x']=some (efz (fz (fv x-fv x'))):=by
 obtain⟨⟨n,a,d⟩,h1,h2,h3,hp⟩:=za9 (T:=T) x (by omega);obtain⟨⟨m,b,e⟩,h1',h2',h3',hp'⟩:=za9 (T:=T) x' (by omega);simp only at h1 hp h1' hp';have la:=zc4 (n,a,d);have ld:=zc7 (n,a,d);have lb:=zc4 (m,b,e);have le:=zc7 (m,b,e);simp only at la ld lb le;have c1:=zb0 (T:=T) n a e (by omega) (by omega);have c2:=zb0 (T:=T) m b d (by omega) (by omega);have c4:=zex (T:=T) d e (by omega) (by omega);have l1:(ofN (wv n a*(val e:Int)).natAbs).length≤60000:=by
  have:=za4 (x:=wv n a) (y:=(val e:Int)) (L:=30000) (M:=30000) (Yc (zbx n a) (by omega)) (Yc (zbx false e) (by omega));omega
 have l2:(ofN (wv m b*(val d:Int)).natAbs).length≤60000:=by
  have:=za4 (x:=wv m b) (y:=(val d:Int)) (L:=30000) (M:=30000) (Yc (zbx m b) (by omega)) (Yc (zbx false d) (by omega));omega
 have l3:(ofN (val d*val e)).length≤60000:=by
  have:=za5 (x:=val d) (y:=val e) (L:=30000) (M:=30000) (Yc (zac d) (by omega)) (Yc (zac e) (by omega));omega
 have e1:fv x-fv x'=mkRat (wv n a*(val e:Int)-wv m b*(val d:Int)) (val d*val e):=by
  rw[←h2,←h2',Yed];unfold fv;rw[Rat.neg_mkRat,Ydd _ _ h1 h1',Ye9]
  rfl
 have hne:=Ycy h1 h1';generalize wv n a*(val e:Int)=z1 at *
 generalize wv m b*(val d:Int)=z2 at *
 generalize val d*val e=D at *
 have c3:=zok (T:=T) z1 z2 (by omega) (by omega);have c5:=zch (T:=T) (decide (z1-z2<0)) (ofN (z1-z2).natAbs) (ofN D) (by
  have:=zb8 (x:=z1) (y:=-z2) (L:=60000) l1 (by rw[Ye7];exact l2);rw[←Int.sub_eq_add_neg]at this;omega) (by omega) (by rw[zae];exact hne)
 rw[zfj,zae,←e1]at c5;generalize fv x-fv x'=q at *
 generalize z1-z2=z at *
 rw[zaa Zq.h216 rfl,b216];clear h1 h2 h3 h1' h2' h3' e1 l1 l2 l3 hne;simp -implicitDefEqProofs[hp,hp',c1,c2,c3,c4,c5]
theorem zhe(x x':Fz)(hx:fsz x≤1000)(hx':fsz x'≤1000):Zb T 216 [efz x,efz x']=some (efz (fz (fv x-fv x'))):=zu9 (T:=T) x x' (Yc hx (by decide)) (Yc hx' (by decide))
theorem zic(x x':Fz)(hx:fsz x≤30000)(hx':fsz x'≤30000):Zb T 217 [efz x,efz x']=some (efz (fz (fv x*fv x'))):=by
 obtain⟨⟨n,a,d⟩,h1,h2,h3,hp⟩:=za9 (T:=T) x (by omega);obtain⟨⟨m,b,e⟩,h1',h2',h3',hp'⟩:=za9 (T:=T) x' (by omega);simp only at h1 hp h1' hp';have la:=zc4 (n,a,d);have ld:=zc7 (n,a,d);have lb:=zc4 (m,b,e);have le:=zc7 (m,b,e);simp only at la ld lb le;have c3:=znh (T:=T) n m a b (by omega) (by omega);have c4:=zex (T:=T) d e (by omega) (by omega);have l1:(ofN (wv n a*wv m b).natAbs).length≤60000:=by
  have:=za4 (x:=wv n a) (y:=wv m b) (L:=30000) (M:=30000) (Yc (zbx n a) (by omega)) (Yc (zbx m b) (by omega));omega
 have l3:(ofN (val d*val e)).length≤60000:=by
  have:=za5 (x:=val d) (y:=val e) (L:=30000) (M:=30000) (Yc (zac d) (by omega)) (Yc (zac e) (by omega));omega
 have e1:fv x*fv x'=mkRat (wv n a*wv m b) (val d*val e):=by
  rw[←h2,←h2'];exact Rat.mkRat_mul_mkRat _ _ _ _
 have hne:=Ycy h1 h1';generalize wv n a*wv m b=z at *
 generalize val d*val e=D at *
 have c5:=zch (T:=T) (decide (z<0)) (ofN z.natAbs) (ofN D) (by omega) (by omega) (by rw[zae];exact hne);rw[zfj,zae,←e1]at c5;generalize fv x*fv x'=q at *
 rw[zaa Zq.h217 rfl,b217];clear h1 h2 h3 h1' h2' h3' e1 l1 l3 hne;simp -implicitDefEqProofs[hp,hp',c3,c4,c5]
theorem zbz(x x':Fz)(hx:fsz x≤1000)(hx':fsz x'≤1000):Zb T 217 [efz x,efz x']=some (efz (fz (fv x*fv x'))):=zic (T:=T) x x' (Yc hx (by decide)) (Yc hx' (by decide))
theorem z2x{n m:Bool}{x y:Nat}{d e:Nat}(hy:y≠0) :
  mkRat (sg n x) d/mkRat (sg m y) e=mkRat (sg (decide (sg n x*(e:Int)<0) != m) (sg n x*(e:Int)).natAbs) (d*y):=by
 have h1:sg (decide (sg n x*(e:Int)<0) != m) (sg n x*(e:Int)).natAbs=sg n x*(e:Int)*sg m 1:=by
  have:=zqp (decide (sg n x*(e:Int)<0)) m (sg n x*(e:Int)).natAbs 1;rw[Ycl]at this;rw[this];congr 1;generalize sg n x*(e:Int)=z;by_cases h:z<0
  ·simp only[h,decide_true,sg,if_true];omega
  ·simp only[h,decide_false,sg,Yab,if_false];omega
 rw[h1,Yfa,←Yda,←Yda,←Yda,Rat.inv_divInt,Rat.divInt_mul_divInt];cases m
 ·simp only[sg,Yab,if_false,Int.mul_one,Ydg,Yd5]
 ·simp only[sg,if_true,Yd5,Int.mul_neg,Int.mul_one,Ydg];rw[←Rat.neg_divInt_neg,Int.neg_neg]
theorem zms(x x':Fz)(hx:fsz x≤30000)(hx':fsz x'≤30000):Zb T 218 [efz x,efz x']=some (.tup [efz (fz (fv x/fv x')),.b (decide (fv x'≠0))]):=by
 obtain⟨⟨n,a,d⟩,h1,h2,h3,hp⟩:=za9 (T:=T) x (by omega);obtain⟨⟨m,b,e⟩,h1',h2',h3',hp'⟩:=za9 (T:=T) x' (by omega);simp only at h1 hp h1' hp';have la:=zc4 (n,a,d);have ld:=zc7 (n,a,d);have lb:=zc4 (m,b,e);have le:=zc7 (m,b,e);simp only at la ld lb le;have cs:=ze0 (T:=T) m b (by omega);rw[show wv m b=sg m (val b) from rfl,z02]at cs;by_cases hb:val b=0
 ·have e0:fv x'=0:=by
   rw[←h2'];unfold fv;rw[Yen h1'];show sg m (val b)=0;rw[hb];cases m<;>rfl
  have ho:=zcm (T:=T);rw[if_pos hb]at cs;rw[e0,Yfa,Rat.inv_zero,Rat.mul_zero,zaa Zq.h218 rfl,b218];clear h1 h2 h3 h1' h2' h3' e0;generalize fz 0=R at *
  simp -implicitDefEqProofs[hp,hp',cs,ho]
 ·rw[if_neg hb]at cs;have c1:=zb0 (T:=T) n a e (by omega) (by omega);have c4:=zex (T:=T) d b (by omega) (by omega);have l1:(ofN (wv n a*(val e:Int)).natAbs).length≤60000:=by
   have:=za4 (x:=wv n a) (y:=(val e:Int)) (L:=30000) (M:=30000) (Yc (zbx n a) (by omega)) (Yc (zbx false e) (by omega));omega
  have l3:(ofN (val d*val b)).length≤60000:=by
   have:=za5 (x:=val d) (y:=val b) (L:=30000) (M:=30000) (Yc (zac d) (by omega)) (Yc (zac b) (by omega));omega
  have hne0:fv x'≠0:=by
   rw[←h2'];unfold fv;rw[Ne,Yen h1'];show ¬ sg m (val b)=0;cases m<;>simp[sg,hb]
  have e1:fv x/fv x'=mkRat (sg (decide (wv n a*(val e:Int)<0) != m) (wv n a*(val e:Int)).natAbs) (val d*val b):=by
   rw[←h2,←h2'];exact z2x hb
  have hne:=Ycy h1 hb;generalize wv n a*(val e:Int)=z at *
  generalize val d*val b=D at *
  have c5:=zch (T:=T) (decide (z<0) != m) (ofN z.natAbs) (ofN D) (by omega) (by omega) (by rw[zae];exact hne);rw[show wv (decide (z<0) != m) (ofN z.natAbs)=sg (decide (z<0) != m) z.natAbs by unfold wv;rw[zae],zae,←e1]at c5;have hdec:decide (fv x'≠0)=true:=by simpa using hne0
  have hs:((if m=true then (-1:Int) else 1) == 0)=false:=by cases m<;>rfl
  rw[hdec];generalize fv x/fv x'=q at *
  rw[zaa Zq.h218 rfl,b218];clear h1 h2 h3 h1' h2' h3' e1 l1 l3 hne hne0 hdec;have hs2:¬ (if m=true then (-1:Int) else 1)=0:=by cases m<;>decide
  generalize (if m=true then (-1:Int) else 1)=sgn at *
  simp -implicitDefEqProofs[hp,hp',cs,c1,c4,c5,hs,hs2]
theorem zf3(x x':Fz)(hx:fsz x≤1000)(hx':fsz x'≤1000):Zb T 218 [efz x,efz x']=some (.tup [efz (fz (fv x/fv x')),.b (decide (fv x'≠0))]):=zms (T:=T) x x' (Yc hx (by decide)) (Yc hx' (by decide))
end
def nrm(l:List Fz):List Fz:=l.map fun x=>fz (fv x)
def fzs(l:List Rat):List Fz:=l.map fz
theorem zcj{m:List Fz}{n:Nat}(h:m.length=n)(x:Fz):wkL (Zd (List.take n m)++[Zbq x])=Zd (m++[x]):=by
 rw[Yb (by omega),zi2,zgz]
theorem zbj{α β:Type}(l:List α)(f:α→β){i:Nat}(h:i<l.length):(l.take (i+1)).map f=(l.take i).map f++[f (l[i]'h)]:=by
 rw[Ybs h,Yce];rfl
@[simp] theorem zwj:Zby []=[]:=rfl
def Zgk(q:Rat):List UInt8:=if q.den=1 then Ze9 q.num else Ze9 q.num++47::Zay q.den
section
variable{T:Tbl}[Zs T][Zw T][Zx T][Zt T][Zv T][Zau T][Zf T][Zl T][Zq T][Zax T][Za6 T]
theorem zo0(x:Fz)(hx:fsz x≤900):Zb T 251 [efz x]=some (.s (Zgk (fv x))):=by
 have h1:=zci (T:=T) x (by omega);have hs:=za6 (x:=x) (L:=900) hx (by decide);generalize fv x=q at *
 have l1:=zgc q;have l2:=zgd q;have e':fz q=(decide (q.num<0),ofN q.num.natAbs,ofN q.den):=rfl;have h2:=zsw (T:=T) (decide (q.num<0)) (ofN q.num.natAbs) (by omega);rw[zfj]at h2;have h3:=zg4 (T:=T) 1 (by decide);have h4:=zgr (T:=T) (ofN q.den) (ofN 1) (by omega) (by rw[zfl];decide);rw[zae,zae]at h4;have h5:Zb T 68 [.sl (Za (ofN q.den)) .an]=some (.s (Zay q.den)):=by
  rw[p68,znk _ (by omega),zae]
 have t1:(Zay q.den).length≤10000:=by
  have:=zfk (a:=ofN q.den) (by omega)
  rwa [zae]at this
 have t2:(Ze9 q.num).length≤20000:=by
  have:=zfk (a:=ofN q.num.natAbs) (by omega);rw[zae]at this;unfold Ze9;split
  ·simp;omega
  ·omega
 rw[zaa Za6.h251 rfl,b251];rw[e']at h1;unfold Zgk;obtain⟨D,hD⟩:∃D,D=ofN q.den:=⟨_,rfl⟩;rw[←hD]at h1 h4 h5;obtain⟨A,hA⟩:∃A,A=ofN q.num.natAbs:=⟨_,rfl⟩;rw[←hA]at h1 h2;obtain⟨O,hO⟩:∃O,O=ofN 1:=⟨_,rfl⟩;rw[←hO]at h3 h4;have c1:¬ 9223372036854775807<(Zay q.den).length:=by omega
 by_cases hd:q.den=1
 ·have hc:Zcm q.den 1=0:=by rw[hd];rfl
  rw[hc]at h4;rw[if_pos hd];clear hD hA hO hc e';simp -implicitDefEqProofs[h1,h2,h3,h4]
 ·have hc:Zcm q.den 1=1:=by
   unfold Zcm;have:=q.den_pos;rw[if_neg (by omega),if_pos (by omega)]
  rw[hc]at h4;rw[if_neg hd];have b1:1+(Zay q.den).length≤9223372036854775807:=by omega
  have b2:(Ze9 q.num).length+((Zay q.den).length+1)≤9223372036854775807:=by omega
  have b3:(Zay q.den).length+1≤9223372036854775807:=by omega
  clear hD hA hO hc e';generalize Zay q.den=t at *
  generalize Ze9 q.num=s at *
  simp -implicitDefEqProofs[h1,h2,h3,h4,h5,b1,b2,b3,Zjl]
def Zjs(n i:Nat):St:=⟨[(3,.bs (.loc 9) 1 3 0 n),(10,.i .i64 n),(11,.i .i64 i)],[(.loc 9,⟨1,.own,3,Zd (List.replicate i (fz 0))++List.replicate (n-i) [.b false,.sl [] .an,.sl [] .an]⟩)],3⟩
theorem zna(n:Nat)(hn:n≤300):Zn T 0 0 (.norm false [3]) l263_0 (Zjs n 0)=some (.n,⟨[(3,.bs (.loc 9) 1 3 0 n)],[(.loc 9,⟨1,.own,3,Zd (List.replicate n (fz 0))⟩)],3⟩):=by
 refine za0 (Zjs n) n _ (fun i hi=>?_) ?_
 ·have h0:=zcm (T:=T);have hw:=zbs hi (by omega);have e:(Zd (List.replicate i (fz 0))++List.replicate (n-i) [AV.b false,.sl [] .an,.sl [] .an]).set i (Zbq (fz 0))=Zd (List.replicate (i+1) (fz 0))++List.replicate (n-(i+1)) [AV.b false,.sl [] .an,.sl [] .an]:=by
   rw[Yaw _ _ (by simp),zi1,Ya1,Ybn,show n-i=(n-(i+1))+1 by omega,Yco (n:=n-(i+1)),Yct,Yd0 (n:=i),←zi2,Yax]
   rfl
  have hl:(Zd (List.replicate i (fz 0))++List.replicate (n-i) [AV.b false,.sl [] .an,.sl [] .an]).length=n:=by simp;omega
  have hk:wkL ((Zd (List.replicate i (fz 0))++List.replicate (n-i) [AV.b false,.sl [] .an,.sl [] .an]).set i (Zbq (fz 0)))=(Zd (List.replicate i (fz 0))++List.replicate (n-i) [AV.b false,.sl [] .an,.sl [] .an]).set i (Zbq (fz 0)):=by
   rw[e,zbq,Yce,←zbq,zgz];simp[wkR,wkA]
  have hg:(Zd (List.replicate i (fz 0))++List.replicate (n-i) [AV.b false,.sl [] .an,.sl [] .an])[i]? = some [AV.b false,.sl [] .an,.sl [] .an]:=by
   rw[Yg (by simp),zi1,Ya1,Ybn,Ych,if_pos (by omega)]
  unfold Zjs;rw[←e];clear e;generalize Zd (List.replicate i (fz 0))++List.replicate (n-i) [AV.b false,.sl [] .an,.sl [] .an]=B at *
  obtain⟨hb,hgE⟩:=Yd.1 hg;generalize fz 0=z at *
  simp -implicitDefEqProofs[l263_0,hi,hw,h0,hl,hk,hg,hgE]
 ·have e:Zd (List.replicate n (fz 0))++List.replicate (n-n) [AV.b false,.sl [] .an,.sl [] .an]=Zd (List.replicate n (fz 0)):=by simp
  unfold Zjs;rw[e];constructor<;>simp -implicitDefEqProofs[l263_0]
theorem zqe(n:Nat)(hn:n≤300):Zb T 263 [.i .i64 n]=some (.sl (Zd (List.replicate n (fz 0))) .an):=by
 have h:=zna (T:=T) n hn;unfold Zjs at h;simp only[Yde,zb5,Yae,Yeb,Yo]at h;have m1:¬ (n:Int)<0:=by omega
 have m2:¬ (300:Int)<n:=by omega
 have m3:(n:Int)≤4294967296:=by omega
 have hz:wkL (List.replicate n [AV.b false,.sl [] .nl,.sl [] .nl])=List.replicate n [AV.b false,.sl [] .an,.sl [] .an]:=by rw[zbq,Ycs];simp[wkR,wkA]
 rw[zaa Za6.h263 rfl,b263];simp -implicitDefEqProofs[m1,m2,m3,h,mm2,hz]
def Zoe(l:List Fz)(i:Nat):St:=⟨[(3,.bs (.loc 3) 1 3 0 i),(6,.sl (Zd l) .an),(7,.i .i64 l.length),(8,.i .i64 i)],[(.loc 3,⟨1,.own,3,Zd (nrm (l.take i))⟩)],3⟩
def scl(c:Rat)(l:List Fz):List Fz:=l.map fun x=>fz (c*fv x)
def Zof(c:Fz)(l:List Fz)(i:Nat):St:=⟨[(2,.ptr (.loc 2) 1 3 0 0),(5,.bs (.loc 5) 2 3 0 i),(8,.sl (Zd l) .an),(9,.i .i64 l.length),(10,.i .i64 i)],[(.loc 2,⟨1,.str,3,[Zbq c]⟩),(.loc 5,⟨2,.own,3,Zd (scl (fv c) (l.take i))⟩)],4⟩
def Zah:List Fz→List Fz→Rat
 | x::a,y::b=>fv x*fv y+Zah a b
 | _,_=>0
def Zdi(a b:List Fz)(i:Nat):Rat:=Zah (a.take i) (b.take i)
theorem znb:∀(a b:List Fz) (x y:Fz),a.length=b.length→Zah (a++[x]) (b++[y])=Zah a b+fv x*fv y
 | [],[],x,y,_=>by simp[Zah,Rat.add_zero,Rat.zero_add]
 | u::a,v::b,x,y,h=>by
  have ih:=znb a b x y (by simpa using h);simp only[Yb7,Zah,ih,Rat.add_assoc]
theorem zis{a b:List Fz}(hab:a.length=b.length){i:Nat}(hi:i<a.length):Zdi a b (i+1)=Zdi a b i+fv (a[i]'hi)*fv (b[i]'(by omega)):=by
 unfold Zdi;rw[Ybs hi,Ybs (show i<b.length by omega)];exact znb _ _ _ _ (by simp;omega)
theorem zo1{a b:List Fz}(hab:a.length=b.length){B:Nat}(ha:∀x∈a,fsz x≤B)(hb:∀x∈b,fsz x≤B)(hB:1≤B):∀i,i≤a.length→sz (Zdi a b i)≤i*(2*B+1)+1
 | 0,_=>by
  have:Zdi a b 0=0:=rfl;rw[this,zb9];omega
 | i+1,hi=>by
  have ih:=zo1 hab ha hb hB i (by omega);rw[zis hab hi];have h1:=zd7 (Zdi a b i) (fv (a[i]'hi)*fv (b[i]'(by omega)));have h2:=zbf (fv (a[i]'hi)) (fv (b[i]'(by omega)));have h3:=za6 (ha _ (Yn hi)) hB;have h4:=za6 (hb _ (Yn (show i<b.length by omega))) hB;rw[Ya9];omega
abbrev Zeu:List AV:=[.b false,.sl [] .an,.sl [] .an]
def Zky(a b:List Fz)(i:Nat):St:=⟨[(1,.sl (Zd b) .an),(4,.ptr (.loc 4) 1 3 0 0),(6,.ptr (.loc 6) 2 3 0 0),(16,.sl (Zd a) .an),(17,.i .i64 a.length),(18,.i .i64 i)],
 [(.loc 4,⟨1,.str,3,[Zeu]⟩),(.loc 6,⟨2,.str,3,[Zbq (fz (Zdi a b i))]⟩)],4⟩
theorem zzk(a b:List Fz)(hab:a.length=b.length){B:Nat}(ha:∀x∈a,fsz x≤B)(hb:∀x∈b,fsz x≤B)(hB:1≤B)(hB2:a.length*(2*B+1)+1≤1000) :
  Zn T 0 0 (.norm false [4,6]) l270_0 (Zky a b 0)=some (.n,⟨[(4,.ptr (.loc 4) 1 3 0 0),(6,.ptr (.loc 6) 2 3 0 0)],[(.loc 4,⟨1,.str,3,[Zeu]⟩),(.loc 6,⟨2,.str,3,[Zbq (fz (Zdi a b a.length))]⟩)],4⟩):=by
 refine za0 (Zky a b) a.length _ (fun i hi=>?_) ?_
 ·have hlen:a.length*3≤1000:=Yc (Yak _ (show 3≤2*B+1 by omega)) (by omega);have hBB:2*B+1≤1000:=Yc (Yb6 _ (show 0<a.length by omega)) (by omega);have hga:a[i]? = some (a[i]'hi):=Ya hi;have hib:i<b.length:=by omega
  have hgb:b[i]? = some (b[i]'hib):=Ya hib;have hws:=zbs hi (by omega);have ha1:=ha _ (Yn hi);have hb1:=hb _ (Yn hib);have c1:=zbz (T:=T) (a[i]'hi) (b[i]'hib) (by omega) (by omega);have s1:=zo1 hab ha hb hB i (by omega);have s2:i*(2*B+1)≤a.length*(2*B+1):=Yv _ (by omega);have s3:=zbf (fv (a[i]'hi)) (fv (b[i]'hib));have s4:=za6 ha1 hB;have s5:=za6 hb1 hB;have c2:=zf2 (T:=T) (fz (Zdi a b i)) (fz (fv (a[i]'hi)*fv (b[i]'hib))) (by rw[zaw];omega) (by rw[zaw];omega);rw[zbe,zbe,←zis hab hi]at c2;unfold Zky;generalize fz (Zdi a b i)=z at *
  generalize fz (Zdi a b (i+1))=z' at *
  generalize fz (fv (a[i]'hi)*fv (b[i]'hib))=y at *
  clear s1 s2 s3 s4 s5 hBB ha hb hB2;have hib':(i:Int)<b.length:=by omega
  simp -implicitDefEqProofs[l270_0,hi,hga,hgb,hws,c1,c2,hib,hib']
 ·unfold Zky;constructor<;>simp -implicitDefEqProofs[l270_0]
theorem zwk(a b:List Fz){B:Nat}(ha:∀x∈a,fsz x≤B)(hb:∀x∈b,fsz x≤B)(hB:1≤B)(hB2:a.length*(2*B+1)+1≤1000) :
  Zb T 270 [.sl (Zd a) .an,.sl (Zd b) .an]=some (.tup (if a.length=b.length then [efz (fz (Zah a b)),.b true] else [efz (fz 0),.b false])):=by
 have h0:=zcm (T:=T);rw[zaa Za6.h270 rfl,b270];by_cases hab:a.length=b.length
 ·have h:=zzk (T:=T) a b hab ha hb hB hB2;unfold Zky at h;have e0:Zdi a b 0=0:=rfl;have e1:Zdi a b a.length=Zah a b:=by unfold Zdi;rw[Yb (Yh _),Yb (by omega)]
  rw[e0,e1]at h;simp at h;rw[if_pos hab];generalize fz (Zah a b)=q at *
  generalize fz 0=z at *
  clear hB2 ha hb e0 e1;have hab':(b.length:Int)=a.length:=by omega
  simp -implicitDefEqProofs[h0,hab',h]
 ·rw[if_neg hab];have hab':¬ (a.length:Int)=b.length:=by omega
  generalize fz 0=z at *
  clear hB2 ha hb;simp -implicitDefEqProofs[h0,hab,hab']
def Zjt(a b:List Fz)(i:Nat):St:=⟨[(0,.sl (Zd a) .an),(1,.sl (Zd b) .an),(12,.i .i64 a.length),(13,.i .i64 i)],[],2⟩
theorem zwl(a b:List Fz)(hab:a.length=b.length)(hl:a.length≤1000)(ha:∀x∈a,fsz x≤1000)(hb:∀x∈b,fsz x≤1000) :
  Zn T 0 0 (.norm false []) l265_0 (Zjt a b 0)=if (a.drop 0).map fv=(b.drop 0).map fv then some (.n,⟨[],[],2⟩) else some (.r,⟨[(4,.b false)],[],2⟩):=by
 refine zbd (Zjt a b) a.length (fun i=>if (a.drop i).map fv=(b.drop i).map fv then some (.n,⟨[],[],2⟩) else some (.r,⟨[(4,.b false)],[],2⟩)) (fun i hi=>?_) ?_
 ·have hga:a[i]? = some (a[i]'hi):=Ya hi;have hib:i<b.length:=by omega
  have hgb:b[i]? = some (b[i]'hib):=Ya hib;have hws:=zbs hi (by omega);have c:=zu7 (T:=T) (a[i]'hi) (b[i]'hib) (ha _ (Yn hi)) (hb _ (Yn hib));have hib':(i:Int)<b.length:=by omega
  have key:((a.drop i).map fv=(b.drop i).map fv)↔(fv (a[i]'hi)=fv (b[i]'hib)∧(a.drop (i+1)).map fv=(b.drop (i+1)).map fv):=by
   rw[Yf hi,Yf hib,Y1,Y1,List.cons.injEq]
  by_cases he:fv (a[i]'hi)=fv (b[i]'hib)
  ·left;refine⟨?_,by simp only[key,he,true_and]⟩;unfold Zjt;simp -implicitDefEqProofs[l265_0,hi,hga,hgb,hws,c,he,hib,hib']
  ·right;rw[if_neg (fun h=>he (key.1 h).1)];unfold Zjt;constructor<;>simp -implicitDefEqProofs[l265_0,hi,hga,hgb,hws,c,he,hib,hib']
 ·rw[Yaf,if_pos (by rw[hab,Yaf])];unfold Zjt;constructor<;>simp -implicitDefEqProofs[l265_0]
theorem zqf(a b:List Fz)(hl:a.length≤1000)(ha:∀x∈a,fsz x≤1000)(hb:∀x∈b,fsz x≤1000) :
  Zb T 265 [.sl (Zd a) .an,.sl (Zd b) .an]=some (.b (decide (a.map fv=b.map fv))):=by
 rw[zaa Za6.h265 rfl,b265];by_cases hab:a.length=b.length
 ·have h:=zwl (T:=T) a b hab hl ha hb;rw[Yar,Yar]at h;unfold Zjt at h;simp at h;have hab':(b.length:Int)=a.length:=by omega
  by_cases he:a.map fv=b.map fv
  ·rw[if_pos he]at h;simp -implicitDefEqProofs[hab',h,he]
  ·rw[if_neg he]at h;simp -implicitDefEqProofs[hab',h,he]
 ·have he:¬ a.map fv=b.map fv:=fun h=>hab (by simpa using congrArg List.length h);have hab':¬ (a.length:Int)=b.length:=by omega
  simp -implicitDefEqProofs[hab,hab',he]
def Zd6(l:List Fz):List (List UInt8):=l.map fun x=>Zgk (fv x)
def Zkz(l:List Fz)(i:Nat):St:=⟨[(3,.bs (.loc 3) 1 1 0 i),(6,.sl (Zd l) .an),(7,.i .i64 l.length),(8,.i .i64 i)],[(.loc 3,⟨1,.own,1,Zby (Zd6 (l.take i))⟩)],3⟩
theorem znc(l:List Fz)(hl:l.length≤1000)(hw:∀x∈l,fsz x≤400) :
  Zn T 0 0 (.norm false [3]) l274_0 (Zkz l 0)=some (.n,⟨[(3,.bs (.loc 3) 1 1 0 l.length)],[(.loc 3,⟨1,.own,1,Zby (Zd6 l)⟩)],3⟩):=by
 refine za0 (Zkz l) l.length _ (fun i hi=>?_) ?_
 ·have hg:l[i]? = some (l[i]'hi):=Ya hi;have hws:=zbs hi (by omega);have hn:=zo0 (T:=T) (l[i]'hi) (Yc (hw _ (Yn hi)) (by decide));have e:Zd6 (l.take (i+1))=Zd6 (l.take i)++[Zgk (fv (l[i]'hi))]:=zbj l _ hi;have hml:(Zd6 (l.take i)).length=i:=by simp[Zd6];omega
  have hp:=zsz (Zd6 (l.take i)) (Zgk (fv (l[i]'hi)));rw[hml]at hp;unfold Zkz;rw[e];clear e;generalize Zd6 (l.take i)=M at *
  generalize Zgk (fv (l[i]'hi))=z at *
  have hb:i≤4294967295:=by omega
  simp -implicitDefEqProofs[l274_0,hi,hg,hws,hn,hp,hml,hb]
 ·unfold Zkz;rw[Yb (Yh _)];generalize Zd6 l=M;constructor<;>simp -implicitDefEqProofs[l274_0]
theorem zwm{q:Rat}(h:sz q≤400):(Zgk q).length≤10000:=by
 have key:∀{a:List UInt32},a.length≤400→(Zay (val a)).length≤4000:=by
  intro a ha;obtain⟨K,hK⟩:∃K,K=3999:=⟨_,rfl⟩;have h1:=zay a;have h2:4294967296^a.length≤(10^10)^a.length:=Yd7 (by decide) _;rw[←Ydo]at h2;have h3:10^(10*a.length)≤10^(K+1):=Y0 (by decide) (by omega);have h4:=zno (k:=K) (Yz h1 (Yc h2 h3));clear h1 h2 h3;omega
 have h1:=key (a:=ofN q.num.natAbs) (Yc (zgc q) h);have h2:=key (a:=ofN q.den) (Yc (zgd q) h);rw[zae]at h1 h2;have h3:(Ze9 q.num).length≤4001:=by
  unfold Ze9;split
  ·simp;omega
  ·omega
 unfold Zgk;split
 ·omega
 ·simp;omega
theorem zzl(l:List Fz)(hl:l.length≤1000)(hw:∀x∈l,fsz x≤400):Zb T 274 [.sl (Zd l) .an]=some (.s (List.intercalate [44] (Zd6 l))):=by
 have h:=znc (T:=T) l hl hw;unfold Zkz at h;have e:Zd6 (l.take 0)=[]:=rfl;rw[e]at h;simp only[zwj,Yo]at h;have hj:Zb T 183 [.sl (Zby (Zd6 l)) .an,.s [44]]=some (.s (List.intercalate [44] (Zd6 l))):=by
  rw[p183,zs0 _ _ (fun t ht=>?_) (by simp[Zd6,hl]) (by decide)];obtain⟨x,hx,rfl⟩:=Y2.1 ht;exact zwm (Yc (za6 (hw x hx) (by decide)) (Yh _))
 have ht:List.take l.length (Zby (Zd6 l))=Zby (Zd6 l):=Yb (by simp[Zd6]);have hl2:(Zd6 l).length=l.length:=by simp[Zd6]
 rw[zaa Za6.h274 rfl,b274];simp -implicitDefEqProofs[h,ht,hl2,hj]
end
theorem zgu{l:List Rat}{i:Nat}{q:Rat}(h:l[i]? = some q):(fzs l)[i]? = some (fz q):=by
 unfold fzs;rw[Ya4,h]
 rfl
theorem z3t(l:List Rat)(i:Nat)(q:Rat):(fzs l).set i (fz q)=fzs (l.set i q):=by
 unfold fzs;rw[Ycw]
@[simp] theorem zai(l:List Rat):(fzs l).length=l.length:=by simp[fzs]
theorem zo2(l:List Fz):nrm l=fzs (l.map fv):=by unfold nrm fzs;rw[Yb2];rfl
@[simp] theorem znd(l:List Rat):(fzs l).map fv=l:=by unfold fzs;rw[Yb2];simp[Function.comp_def]
def Zm4(c:Rat)(acc:List Rat)(r:List Fz):List Rat:=List.zipWith (fun q x=>q+c*fv x) acc r
def Zju(acc:List Rat)(r:List Fz):List Rat:=List.zipWith (fun q x=>q+fv x) acc r
section
variable{T:Tbl}[Zs T][Zw T][Zx T][Zt T][Zv T][Zau T][Zf T][Zl T][Zq T][Zax T][Za6 T]
def Zog(k j n:Nat)(rest:List (List Fz))(r:List Fz)(L acc:List Rat)(i:Nat):St:=
 ⟨[(4,.bs (.fld (.loc 15) 3) 1 3 0 n),(17,.sl (Zu rest) .an),(18,.i .i64 k),(19,.i .i64 j),(28,.sl (Zd r) .an),(29,.i .i64 n),(30,.i .i64 i)],
  [(.fld (.loc 15) 3,⟨1,.own,3,Zd (fzs (L.take i++acc.drop i))⟩)],3⟩
def Zoh(n:Nat)(rest:List (List Fz))(acc:List Rat)(j:Nat):St:=
 ⟨[(4,.bs (.fld (.loc 15) 3) 1 3 0 n),(17,.sl (Zu rest) .an),(18,.i .i64 rest.length),(19,.i .i64 j)],[(.fld (.loc 15) 3,⟨1,.own,3,Zd (fzs ((rest.take j).foldl Zju acc))⟩)],3⟩
end
def Zmy(p:List (Fz×List Fz))(acc:List Rat):List Rat:=p.foldl (fun a q=>Zm4 (fv q.1) a q.2) acc
section
variable{T:Tbl}[Zs T][Zw T][Zx T][Zt T][Zv T][Zau T][Zf T][Zl T][Zq T][Zax T][Za6 T]
def Zn7(C:List Fz)(k j n:Nat)(l:List (List Fz))(r:List Fz)(L acc:List Rat)(i:Nat):St:=
 ⟨[(0,.sl (Zd C) .an),(10,.bs (.fld (.loc 40) 9) 1 3 0 n),(11,.i .i64 k),(41,.sl (Zu l) .an),(42,.i .i64 j),(43,.i .i64 k),(54,.sl (Zd r) .an),(55,.i .i64 n),(56,.i .i64 i)],
  [(.fld (.loc 40) 9,⟨1,.own,3,Zd (fzs (L.take i++acc.drop i))⟩)],3⟩
def Zn8(C:List Fz)(n:Nat)(l:List (List Fz))(acc:List Rat)(k:Nat):St:=
 ⟨[(0,.sl (Zd C) .an),(10,.bs (.fld (.loc 40) 9) 1 3 0 n),(41,.sl (Zu l) .an),(42,.i .i64 l.length),(43,.i .i64 k)],[(.fld (.loc 40) 9,⟨1,.own,3,Zd (fzs (Zmy ((C.zip l).take k) acc))⟩)],3⟩
def Zn9(C:List Fz)(l:List (List Fz))(n i:Nat):St:=⟨[(0,.sl (Zd C) .an),(1,.sl (Zu l) .an),(2,.i .i64 n),(28,.sl (Zu l) .an),(29,.i .i64 l.length),(30,.i .i64 i)],[],2⟩
end
abbrev agS(t h:Fz)(y0 y1 f0 f1:List Fz):AV:=
 .agg [.b t.1,.sl (Za t.2.1) .an,.sl (Za t.2.2) .an,.b h.1,.sl (Za h.2.1) .an,.sl (Za h.2.2) .an,.sl (Zd y0) .an,.sl (Zd y1) .an,.sl (Zd f0) .an,.sl (Zd f1) .an]
def Zme(l:List Fz):Rat:=l.foldl (fun p x=>p*fv x) 1
section
variable{T:Tbl}[Zs T][Zw T][Zx T][Zt T][Zv T][Zau T][Zf T][Zl T][Zq T][Zax T][Za6 T][Zl5 T]
def Zoo(l:List Fz)(i:Nat):St:=⟨[(2,.ptr (.loc 2) 1 3 0 0),(3,.ptr (.loc 3) 2 3 0 0),(7,.sl (Zd l) .an),(8,.i .i64 l.length),(9,.i .i64 i)],[(.loc 2,⟨1,.str,3,[Zeu]⟩),(.loc 3,⟨2,.str,3,[Zbq (fz (Zme (l.take i)))]⟩)],4⟩
def Zm7(h:Fz)(y0 y1 f0 f1:List Fz):Bool:=decide (0<fv h)&&decide (y0.length≤300)&&decide (y1.length=y0.length)&&decide (f0.length=y0.length)&&decide (f1.length=y0.length)
end
theorem zjv(a b:List AV):wkR (a++b)=wkR a++wkR b:=by rw[zkt,zkt,zkt,Yce]
abbrev tyS:Ty:=.cons tyF (.cons tyF (.cons (.sl tyF) (.cons (.sl tyF) (.cons (.sl tyF) (.cons (.sl tyF) .nil)))))
class Zl4 (T:Tbl):Prop where
end Go.Ab
section
namespace Go.Ab
end Go.Ab
end
namespace Go.Ab
section
variable{T:Tbl}
theorem zsa(m:Nat)(hm:m%2=1)(K:Nat)(hK:2^K*m<4294967296)(hK2:K≤32):∀v:Nat,v≤K →
  Zn T 0 0 (.norm false [3]) l224_0 ⟨[(0,u32 (2^v*m)),(3,.i .i64 (K-v:Nat))],[],2⟩=some (.n,⟨[(3,.i .i64 K)],[],2⟩):=by
 refine zaz (fun v:Nat=>⟨[(0,u32 (2^v*m)),(3,.i .i64 (K-v:Nat))],[],2⟩) _ (fun v=>v) _ ?_;intro v hv;cases v with
 | zero=>
  right;rw[Yds,Ycn,Yeb];constructor<;>simp -implicitDefEqProofs[l224_0,hm]
 | succ v=>
  left;have hle:2^(v+1)*m≤2^K*m:=Yv _ (Y0 (by decide) hv);have e:2^(v+1)*m=2^v*m*2:=by rw[Yw,Yx,Yad 2 m,Yx]
  have hw:IntKind.wrap .i64 (((K-(v+1):Nat):Int)+1)=((K-v:Nat):Int):=by rw[zad _ (by omega)];omega
  refine⟨v,by omega,Y4 v,?_,rfl⟩;rw[e]at hle ⊢;generalize 2^v*m=x at *
  have e1:x*2%2=0:=by omega
  have e2:x*2/2%4294967296=x:=by omega
  have e3:x<4294967296:=by omega
  simp -implicitDefEqProofs[l224_0,e1,e2,e3,hw]
end
section
variable{T:Tbl}[Zac T]
theorem zou(m K:Nat)(hm:m%2=1)(hK:2^K*m<4294967296):Zb T 224 [u32 (2^K*m)]=some (.i .i64 K):=by
 have hK2:K≤32:=by
  rcases Yq 32 K with h | h
  ·have h1:2^32≤2^K:=Y0 (by decide) (by omega);have h2:2^K≤2^K*m:=Yci _ (by omega);have h3:(2:Nat)^32=4294967296:=rfl;omega
  ·exact h
 have h:=zsa (T:=T) m hm K hK hK2 K (Yh _);rw[Ybn]at h;simp only[Yo]at h;have h0:2^K*m≠0:=Ycy (by have:=Ya2 (n:=K) (show 0<2 by decide);omega) (by omega);rw[zaa Zac.h224 rfl,b224];generalize 2^K*m=x at *
 simp -implicitDefEqProofs[h,h0]
end
theorem zov{P m a S:List UInt32}{i:Nat}(hm:m.length=i)(hi:i<a.length):(P++(m++(a.drop i++S)))[P.length+i]? = some (a[i]'hi):=by
 rw[Yg (by omega),Yal,Yg (by omega),hm,Ybn,Yf hi]
 rfl
theorem zzg{P m a S:List UInt32}{i:Nat}(hm:m.length=i)(hi:i+1<a.length):(P++(m++(a.drop i++S)))[P.length+(i+1)]? = some (a[i+1]'hi):=by
 rw[Yg (by omega),Yal,Yg (by omega),hm,Yal,Yf (show i<a.length by omega),Yf hi]
 rfl
theorem zow{P m a S:List UInt32}{i:Nat}(hm:m.length=i)(hi:i<a.length)(w:UInt32):(P++(m++(a.drop i++S))).set (P.length+i) w=P++((m++[w])++(a.drop (i+1)++S)):=by
 rw[Yaw _ _ (by omega),Yal,Yaw _ _ (by omega),hm,Ybn,Yf hi,Yb7,Yct];simp
section
variable{T:Tbl}
def Zhp(Q:List UInt32)(o n s i:Nat):St:=⟨[(0,.bs (.bor 0) 0 1 o n),(1,.i .i64 s),(5,.i .i64 i)],[(.bor 0,⟨0,.own,1,Za Q⟩)],4⟩
theorem zzh(Q:List UInt32)(o n s i:Nat)(x y:UInt32)(hi:i+1<n)(hn:n≤1000000)(hs:s<32)(hx:Q[o+i]? = some x)(hy:Q[o+(i+1)]? = some y) :
  evX (orc T) T 1 l225_0 (Zhp Q o n s i)=some (.n,Zhp (Q.set (o+i) (w32 ((x.toNat+y.toNat*4294967296)/2^s%4294967296))) o n s (i+1)):=by
 have h1:(i:Int)<n:=by omega
 have h2:(i:Int)+1<n:=by omega
 have hw:IntKind.wrap .i64 ((i:Int)+1)=((i+1:Nat):Int):=zad _ (by omega);have lx:=zam x;have ly:=zam y;have m2:y.toNat*4294967296%18446744073709551616=y.toNat*4294967296:=Yi (by omega);have m3:(y.toNat*4294967296+x.toNat)%18446744073709551616=x.toNat+y.toNat*4294967296:=by rw[Ybf];exact Yi (by omega)
 have hmin:min s 64=s:=by omega
 obtain⟨b1,hgx⟩:=Yd.1 hx;have i1:i<n:=by omega
 unfold Zhp;simp -implicitDefEqProofs[l225_0,h1,h2,i1,hi,hw,hx,hy,m2,m3,hmin,b1,hgx,zez]
theorem zzi(Q:List UInt32)(o n s i:Nat)(x:UInt32)(hi:i+1=n)(hn:n≤1000000)(hs:s<32)(hx:Q[o+i]? = some x) :
  evX (orc T) T 1 l225_0 (Zhp Q o n s i)=some (.n,Zhp (Q.set (o+i) (w32 (x.toNat/2^s%4294967296))) o n s (i+1)):=by
 have h1:(i:Int)<n:=by omega
 have h2:¬ (i:Int)+1<n:=by omega
 have hw:IntKind.wrap .i64 ((i:Int)+1)=((i+1:Nat):Int):=zad _ (by omega);have hmin:min s 64=s:=by omega
 obtain⟨b1,hgx⟩:=Yd.1 hx;have i1:i<n:=by omega
 have i2:¬ i+1<n:=by omega
 unfold Zhp;simp -implicitDefEqProofs[l225_0,h1,h2,i1,i2,hw,hx,hmin,b1,hgx,zez]
theorem z3p(P a S:List UInt32)(s:Nat)(hs:s<32)(hl:a.length≤1000000):∀y:Nat×List UInt32,
  (y.1≤a.length∧y.2.length=y.1∧val y.2+4294967296^y.1*(val (a.drop y.1)/2^s)=val a/2^s) →
  ∃r,(∃m:List UInt32,r=(Ex.n,(⟨[(0,.bs (.bor 0) 0 1 P.length a.length)],[(.bor 0,⟨0,.own,1,Za (P++(m++S))⟩)],4⟩:St))∧m.length=a.length∧val m=val a/2^s) ∧
   Zn T 1 0 (.norm false [0]) l225_0 (Zhp (P++(y.2++(a.drop y.1++S))) P.length a.length s y.1)=some r:=by
 refine zaq (fun y:Nat×List UInt32=>Zhp (P++(y.2++(a.drop y.1++S))) P.length a.length s y.1) _ (fun y=>a.length-y.1) _ ?_
 rintro⟨i,m⟩ ⟨hi,hm,hv⟩
 simp only at hi hm hv;by_cases h0:i<a.length
 ·left;have hx:=zam (a[i]'h0);have hd:=Yf h0;have fin:∀y R:Nat,val (a.drop (i+1))=y+4294967296*R→val (m++[w32 (((a[i]'h0).toNat+y*4294967296)/2^s%4294967296)])+4294967296^(i+1)*(val (a.drop (i+1))/2^s)=val a/2^s:=by
   intro y R hR;have hmod:((a[i]'h0).toNat+y*4294967296)/2^s%4294967296<4294967296:=Ya3 _ (by decide);have hdw:=znj (x:=(a[i]'h0).toNat) (y:=y) (R:=R) hs hx;rw[hd,zan,hR,hdw,←hR]at hv;rw[zaj,hm,Yw];rw[zan,za8,Yac,Yt,zag hmod];rw[Yu]at hv;rw[←hv,Yx,Yan]
  by_cases h1:i+1<a.length
  ·have hd1:=Yf h1;refine⟨(i+1,m++[w32 (((a[i]'h0).toNat+(a[i+1]'h1).toNat*4294967296)/2^s%4294967296)]),⟨h0,by simp[hm],fin _ (val (a.drop (i+1+1))) (by rw[hd1,zan])⟩,by simp only;omega,?_⟩;simp only;rw[zzh _ _ _ _ _ _ _ h1 hl hs (zov hm h0) (zzg hm h1),zow hm h0]
  ·have f0:=fin 0 0 (by rw[Yao (by omega),za8,Yac]);rw[Ycf,Yt]at f0;refine⟨(i+1,m++[w32 ((a[i]'h0).toNat/2^s%4294967296)]),⟨h0,by simp[hm],f0⟩,by simp only;omega,?_⟩;simp only;rw[zzi _ _ _ _ _ _ (by omega) hl hs (zov hm h0),zow hm h0]
 ·right;have:i=a.length:=by omega
  subst this;rw[Yaf,za8,Nat.zero_div,Yac,Yt]at hv;refine⟨_,⟨m,rfl,hm,hv⟩,?_,?_⟩<;>simp -implicitDefEqProofs[l225_0,Zhp]
theorem zsb(P a S:List UInt32)(hl:a.length≤1000000){n:Nat}(hn:n≤a.length)(h0:∀(i:Nat) (x:UInt32),n≤i→a[i]? = some x→x.toNat=0)(h1:∀x:UInt32,0<n→a[n-1]? = some x→x.toNat≠0) :
  ∀k:Nat,(n≤k∧k≤a.length)→Zn T 1 2 (.norm false [0]) l225_1 ⟨[(0,.bs (.bor 0) 0 1 P.length k)],[(.bor 0,⟨0,.own,1,Za (P++(a++S))⟩)],4⟩ =
   some (.n,⟨[(0,.bs (.bor 0) 0 1 P.length n)],[(.bor 0,⟨0,.own,1,Za (P++(a++S))⟩)],4⟩):=by
 refine zaz (fun k:Nat=>⟨[(0,.bs (.bor 0) 0 1 P.length k)],[(.bor 0,⟨0,.own,1,Za (P++(a++S))⟩)],4⟩) _ (fun k=>k) _ ?_
 rintro k ⟨hk,hka⟩
 have hget:∀j,j<a.length→(P++(a++S))[P.length+j]? = a[j]? := by
  intro j hj;rw[Yg (by omega),Yal,Ym hj]
 by_cases h2:k=0
 ·right;have:n=0:=by omega
  subst this;subst h2;generalize P++(a++S)=Q at *
  constructor<;>simp -implicitDefEqProofs[l225_1]
 ·have hw:IntKind.wrap .i64 ((k:Int)-1)=((k-1:Nat):Int):=by rw[zad _ (by omega)];omega
  have hg:a[k-1]? = some (a[k-1]'(by omega)):=Ya _;have hq:=hget (k-1) (by omega);rw[hg]at hq;have hpos:0<k:=by omega
  have hlt:k-1<k:=by omega
  generalize P++(a++S)=Q at *
  by_cases h3:k=n
  ·right;subst h3;have hx:=h1 _ hpos hg;constructor<;>simp -implicitDefEqProofs[l225_1,hpos,hw,hq,hx,hlt]
  ·left;have hx:=h0 (k-1) _ (by omega) hg;refine⟨k-1,⟨by omega,by omega⟩,hlt,?_,rfl⟩;simp -implicitDefEqProofs[l225_1,hpos,hw,hq,hx,hlt]
end
section
variable{T:Tbl}[Zac T]
theorem zsc(P a S:List UInt32)(s:Nat)(hs:s<32)(hl:a.length≤1000000) :
  ∃S',S'.length+(ofN (val a/2^s)).length=a.length+S.length ∧
   Zaa T 225 [.bs (.bor 0) 0 1 P.length a.length,.i .i64 s] [(.bor 0,⟨0,.own,1,Za (P++(a++S))⟩)] =
    some (.bs (.bor 0) 0 1 P.length (ofN (val a/2^s)).length,[(.bor 0,⟨0,.own,1,Za (P++(ofN (val a/2^s)++S'))⟩)]):=by
 obtain⟨_,⟨m,rfl,hm,hv⟩,hr⟩:=z3p (T:=T) P a S s hs hl (0,[]) ⟨Yr _,rfl,by simp⟩;obtain⟨n,h1,h2,h3,h4⟩:=zgb m;have ht:=zsb (T:=T) P m S (by omega) h1 h3 h4 m.length ⟨h1,Yh _⟩;rw[hv]at h2;have hlen:(ofN (val a/2^s)).length=n:=by rw[←h2];simp;omega
 have e:P++(m++S)=P++(ofN (val a/2^s)++(m.drop n++S)):=by rw[←h2,←Yax (m.take n),Yam]
 refine⟨m.drop n++S,by simp;omega,?_⟩;rw[hlen,←e];rw[hm]at ht;unfold Zhp at hr;simp only[Yae,Yar,Yo]at hr;rw[zah Zac.h225 rfl,b225];clear e h3 h4 h2;generalize P++(m++S)=Q at *
 generalize P++(a++S)=R at *
 simp -implicitDefEqProofs[hr,ht]
theorem ziq{P a S:List UInt32}{j:Nat}(hj:j<a.length):(P++(a++S))[P.length+j]? = a[j]? := by
 rw[Yg (by omega),Yal,Ym hj]
theorem zsd(Q:List UInt32)(o n j0:Nat)(hn:n≤1000000)(hj:j0<n)(hz:∀j,j<j0→∃x:UInt32,Q[o+j]? = some x∧x.toNat=0)(h1:∃x:UInt32,Q[o+j0]? = some x∧x.toNat≠0) :
  ∀j:Nat,j≤j0→Zn T 1 0 (.norm false [0,4]) l226_0 ⟨[(0,.bs (.bor 0) 0 1 (o+j) (n-j)),(4,.i .i64 (32*j:Nat))],[(.bor 0,⟨0,.own,1,Za Q⟩)],4⟩ =
   some (.n,⟨[(0,.bs (.bor 0) 0 1 (o+j0) (n-j0)),(4,.i .i64 (32*j0:Nat))],[(.bor 0,⟨0,.own,1,Za Q⟩)],4⟩):=by
 refine zaz (fun j:Nat=>⟨[(0,.bs (.bor 0) 0 1 (o+j) (n-j)),(4,.i .i64 (32*j:Nat))],[(.bor 0,⟨0,.own,1,Za Q⟩)],4⟩) _ (fun j=>j0-j) _ ?_;intro j hj2;have hpos:0<n-j:=by omega
 by_cases h:j=j0
 ·right;subst h;obtain⟨x,hx,hx0⟩:=h1;constructor<;>simp -implicitDefEqProofs[l226_0,hpos,hx,hx0]
 ·left;obtain⟨x,hx,hx0⟩:=hz j (by omega);have hw:IntKind.wrap .i64 (((32*j:Nat):Int)+32)=((32*(j+1):Nat):Int):=by rw[zad _ (by omega)];omega
  have e1:1<n-j:=by omega
  have e2:n-j-1=n-(j+1):=by omega
  have e3:(1:Int)≤((n-j:Nat):Int):=by omega
  refine⟨j+1,by omega,by show j0-(j+1)<j0-j;omega,?_,rfl⟩;generalize 32*j=c at *
  generalize 32*(j+1)=c' at *
  rw[←Yan,←e2];generalize n-j=k at *
  have e4:1≤k:=by omega
  simp -implicitDefEqProofs[l226_0,hpos,hx,hx0,hw,e1,e3,e4]
theorem zm6:∀(a:List UInt32),val a≠0→∃j,∃h:j<a.length,(∀i (hi:i<j),(a[i]'(by omega)).toNat=0)∧(a[j]'h).toNat≠0∧val a=4294967296^j*val (a.drop j)
 | [],h=>by simp at h
 | x::a,h=>by
  by_cases hx:x.toNat=0
  ·have h2:val a≠0:=by
    intro e;apply h;rw[zan,hx,e]
   obtain⟨j,hj,h3,h4,h5⟩:=zm6 a h2;refine⟨j+1,by simpa using hj,?_,by simpa using h4,?_⟩
   ·intro i hi;cases i with
    | zero=>simpa using hx
    | succ i=>simpa using h3 i (by omega)
   ·rw[zan,hx,h5,List.drop_succ_cons,Yw,Yaj,Yad (4294967296^j) 4294967296,Yx]
  ·exact⟨0,by simp,fun i hi=>by omega,by simpa using hx,by simp⟩
theorem zf9(P a S:List UInt32)(hl:a.length≤100000)(h:val a≠0):∃(P' S':List UInt32) (m k:Nat),val a=2^k*m∧m%2=1∧k≤32*a.length∧(ofN m).length≤a.length∧P'.length+(ofN m).length+S'.length=P.length+a.length+S.length ∧
  Zaa T 226 [.bs (.bor 0) 0 1 P.length a.length] [(.bor 0,⟨0,.own,1,Za (P++(a++S))⟩)] =
   some (.tup [.bs (.bor 0) 0 1 P'.length (ofN m).length,.i .i64 k],[(.bor 0,⟨0,.own,1,Za (P'++(ofN m++S'))⟩)]):=by
 obtain⟨j,hj,hz,hne,hv⟩:=zm6 a h;obtain⟨s,c,hsc,hc⟩:=zz5 hne;have hx:=zam (a[j]'hj);have hs:s<32:=by
  rcases Yq s 32 with h1 | h1
  ·exact h1
  ·have h2:2^32≤2^s:=Y0 (by decide) h1;have h3:2^s≤2^s*c:=Yci _ (by omega);have h4:(2:Nat)^32=4294967296:=rfl;omega
 have hd:=Yf hj
 -- the rest is odd
 have hm:∃m,val (a.drop j)=2^s*m∧m%2=1:=by
  refine⟨c+2^(32-s)*val (a.drop (j+1)),?_,?_⟩
  ·rw[hd,zan,hsc,Yu,←Yx,←Ybk,show s+(32-s)=32 by omega]
  ·have:2^(32-s)=2*2^(31-s):=by rw[←Nat.pow_succ'];congr 1;omega
   rw[this,Yx];omega
 obtain⟨m,hm1,hm2⟩:=hm;have hdiv:val (a.drop j)/2^s=m:=by rw[hm1,Yer _ (Ya2 (by decide))]
 have hlen:(a.drop j).length=a.length-j:=by simp
 obtain⟨S',hS',hdown⟩:=zsc (T:=T) (P++a.take j) (a.drop j) S s hs (by omega);rw[hdiv]at hS' hdown;have hPl:(P++a.take j).length=P.length+j:=by simp;omega
 have hbox:(P++a.take j)++(a.drop j++S)=P++(a++S):=by
  rw[Yax,←Yax (a.take j),Yam]
 rw[hPl,hlen,hbox]at hdown;have hml:(ofN m).length≤a.length:=by
  have h1:m≤val (a.drop j):=by rw[hm1];exact Yb6 _ (Ya2 (by decide))
  have h2:=zat h1;have h3:=zac (a.drop j);omega
 refine⟨P++a.take j,S',m,32*j+s,?_,hm2,by omega,hml,by simp at hS' ⊢;omega,?_⟩
 ·rw[hv,hm1,zo9,Ybk,Yx]
 ·have hst:=zsd (T:=T) (P++(a++S)) P.length a.length j (by omega) hj (fun i hi=>⟨_,by rw[ziq (by omega)];exact Ya (by omega),hz i hi⟩) ⟨_,by rw[ziq hj];exact Ya hj,hne⟩ 0 (Yr _);have hzr:=zou (T:=T) c s hc (by rw[←hsc];exact hx);rw[←hsc]at hzr;have hg:(P++(a++S))[P.length+j]? = some (a[j]'hj):=by rw[ziq hj];exact Ya hj
  have hpos:0<a.length-j:=by omega
  have hw:IntKind.wrap .i64 (((32*j:Nat):Int)+s)=((32*j+s:Nat):Int):=by rw[zad _ (by omega)];omega
  simp only[Yac,Yt,Yeb,Yo]at hst;rw[hPl,zah Zac.h226 rfl,b226];generalize a[j]'hj=x at *
  clear hsc hv hm1 hd hz hne hbox hS' h hdiv hx;generalize 32*j=c1 at *
  generalize c1+s=c2 at *
  generalize P++(a++S)=Q at *
  generalize P++a.take j++(ofN m++S')=Q' at *
  simp -implicitDefEqProofs[hst,hzr,hg,hpos,hw,hdown]
end
theorem z0w{P m a S b:List UInt32}{i c s d:Nat}(hm:m.length=i)(h0:i<a.length)(hv:val m+val (b.take i)=val (a.take i)+4294967296^i*c)(hs:s<4294967296)(h:s+(atW b i+c)=(a[i]'h0).toNat+4294967296*d) :
  val (m++[w32 s])+val (b.take (i+1))=val (a.take (i+1))+4294967296^(i+1)*d:=by
 have e1:=zaf (Ya h0);have e2:=zbg b i;rw[zaj,hm,e1,e2,Yw];simp only[zan,za8,Yac,Yt,zag hs];generalize 4294967296^i=p at *
 have e3:p*s+p*(atW b i+c)=p*(a[i]'h0).toNat+p*4294967296*d:=by rw[←Yu,h,Yu,Yx]
 rw[Yu]at e3;omega
section
variable{T:Tbl}[Zai T][Za5 T][Zak T][Zbf T][Zac T]
def Zi9(Q R:List UInt32)(o n o2 n2 c i:Nat):St:=⟨[(0,.bs (.bor 0) 0 1 o n),(1,.bs (.bor 1) 1 1 o2 n2),(4,u64 c),(5,.i .i64 i)],[(.bor 0,⟨0,.own,1,Za Q⟩),(.bor 1,⟨1,.own,1,Za R⟩)],6⟩
theorem z3q(Q R b:List UInt32)(o n o2 n2 c i:Nat)(x:UInt32)(hi:i<n)(hn:n≤1000000)(hb:b.length≤1000000)(hc:c≤1)(hx:Q[o+i]? = some x)(hR:List.take n2 (List.drop o2 R)=b)(hR2:o2+n2≤R.length) :
  evX (orc T) T 2 l2097_0 (Zi9 Q R o n o2 n2 c i)=some (.n,Zi9 (Q.set (o+i) (w32 (if x.toNat<atW b i+c then x.toNat+4294967296-(atW b i+c) else x.toNat-(atW b i+c)))) R o n o2 n2 (if x.toNat<atW b i+c then 1 else 0) (i+1)):=by
 have h1:(i:Int)<n:=by omega
 have hw:IntKind.wrap .i64 ((i:Int)+1)=((i+1:Nat):Int):=zad _ (by omega);have cb:=zde (T:=T) b i hb;have lx:=zam x;have lb:=zin b i;generalize atW b i=y at *
 have m2:y%18446744073709551616=y:=Yi (by omega);have m3:(y+c)%18446744073709551616=y+c:=Yi (by omega);have m4:(x.toNat+4294967296)%18446744073709551616=x.toNat+4294967296:=Yi (by omega);obtain⟨b1,hgx⟩:=Yd.1 hx;unfold Zi9;by_cases hlt:x.toNat<y+c
 ·have hs:Zdo (x.toNat+4294967296) (y+c)=x.toNat+4294967296-(y+c):=zev (by omega) (by omega);simp -implicitDefEqProofs[l2097_0,h1,hi,hw,cb,m2,m3,m4,hx,b1,hgx,hR,hR2,hlt,hs]
 ·have hs:Zdo x.toNat (y+c)=x.toNat-(y+c):=zev (by omega) (by omega);simp -implicitDefEqProofs[l2097_0,h1,hi,hw,cb,m2,m3,m4,hx,b1,hgx,hR,hR2,hlt,hs]
theorem z3r(P a S R b:List UInt32)(o2 n2:Nat)(hl:a.length≤1000000)(hb:b.length≤1000000)(hR:List.take n2 (List.drop o2 R)=b)(hR2:o2+n2≤R.length):∀y:Nat×Nat×List UInt32,
  (y.1≤a.length∧y.2.1≤1∧y.2.2.length=y.1∧val y.2.2+val (b.take y.1)=val (a.take y.1)+4294967296^y.1*y.2.1) →
  ∃r,(∃(c:Nat) (m:List UInt32),r=(Ex.n,(⟨[],[(.bor 0,⟨0,.own,1,Za (P++(m++S))⟩),(.bor 1,⟨1,.own,1,Za R⟩)],6⟩:St)) ∧
   m.length=a.length∧c≤1∧val m+val (b.take a.length)=val a+4294967296^a.length*c) ∧
   Zn T 2 0 (.norm false []) l2097_0 (Zi9 (P++(y.2.2++(a.drop y.1++S))) R P.length a.length o2 n2 y.2.1 y.1)=some r:=by
 refine zaq (fun y:Nat×Nat×List UInt32=>Zi9 (P++(y.2.2++(a.drop y.1++S))) R P.length a.length o2 n2 y.2.1 y.1) _ (fun y=>a.length-y.1) _ ?_
 rintro⟨i,c,m⟩ ⟨hi,hc,hm,hv⟩
 simp only at hi hc hm hv;by_cases h0:i<a.length
 ·left;have lx:=zam (a[i]'h0);have lb:=zin b i;have hstep:=z3q (T:=T) (P++(m++(a.drop i++S))) R b P.length a.length o2 n2 c i (a[i]'h0) h0 hl hb hc (zov hm h0) hR hR2;rw[zow hm h0]at hstep;by_cases hlt:(a[i]'h0).toNat<atW b i+c
  ·rw[if_pos hlt,if_pos hlt]at hstep;exact⟨(i+1,1,m++[w32 ((a[i]'h0).toNat+4294967296-(atW b i+c))]),⟨h0,Yh _,by simp[hm],by simp only;exact z0w (P:=P) (S:=S) hm h0 hv (by omega) (by omega)⟩,by simp only;omega,hstep⟩
  ·rw[if_neg hlt,if_neg hlt]at hstep;exact⟨(i+1,0,m++[w32 ((a[i]'h0).toNat-(atW b i+c))]),⟨h0,Yr _,by simp[hm],by simp only;exact z0w (P:=P) (S:=S) hm h0 hv (by omega) (by omega)⟩,by simp only;omega,hstep⟩
 ·right;have:i=a.length:=by omega
  subst this;rw[Yb (Yh a.length)]at hv;refine⟨_,⟨c,m,rfl,hm,hc,hv⟩,?_,?_⟩<;>simp -implicitDefEqProofs[l2097_0,Zi9]
theorem zir(P a S P2 b S2:List UInt32)(hl:a.length≤1000000)(hb:b.length≤a.length)(hab:val b≤val a) :
  ∃m:List UInt32,m.length=a.length∧val m=val a-val b ∧
   Zaa T 2097 [.bs (.bor 0) 0 1 P.length a.length,.bs (.bor 1) 1 1 P2.length b.length] [(.bor 0,⟨0,.own,1,Za (P++(a++S))⟩),(.bor 1,⟨1,.own,1,Za (P2++(b++S2))⟩)] =
    some (.tup [],[(.bor 0,⟨0,.own,1,Za (P++(m++S))⟩),(.bor 1,⟨1,.own,1,Za (P2++(b++S2))⟩)]):=by
 obtain⟨_,⟨c,m,rfl,hm,hc,hv⟩,hr⟩:=z3r (T:=T) P a S (P2++(b++S2)) b P2.length b.length hl (by omega) (by simp) (by simp) (0,0,[]) ⟨Yr _,Yr _,rfl,by simp⟩;rw[Yb hb]at hv;have hlo:=zay m;rw[hm]at hlo;have hval:val m=val a-val b:=by
  rcases Ya0 c with h1 | h1
  ·subst h1;omega
  ·have:c=1:=by omega
   subst this;omega
 refine⟨m,hm,hval,?_⟩;unfold Zi9 at hr;simp only[Yae,Yar,Yo]at hr;rw[zah Zac.h2097 rfl,b2097];generalize P++(a++S)=Q at *
 generalize P++(m++S)=Q2 at *
 generalize P2++(b++S2)=R at *
 clear hv hlo hval;simp -implicitDefEqProofs[hr]
theorem zm7(a:List UInt32):Zb T 229 [.sl (Za (ofN (val a))) .an]=some (.b (decide (val a=1))):=by
 rw[zaa Zac.h229 rfl,b229];generalize val a=n;by_cases h0:n=0
 ·subst h0;simp -implicitDefEqProofs
 ·rw[zgx h0];by_cases h1:n/4294967296=0
  ·have e:ofN (n/4294967296)=[]:=zau.2 h1;have e2:n%4294967296=n:=Yi (by omega);simp -implicitDefEqProofs[e,Za,zb4,e2]
  ·have h2:¬ ofN (n/4294967296)=[]:=fun e=>h1 (zau.1 e);have h3:¬ n=1:=by rintro rfl;simp at h1
   have h4:¬ ((ofN (n/4294967296)).length:Int)+1=1:=by
    have:=Ycm.2 h2;omega
   simp -implicitDefEqProofs[Za,h3,h4]
theorem zj3(a g:List UInt32)(ha:a.length≤10000)(hg:g.length≤10000)(h0:val g≠0):Zb T 230 [.sl (Za a) .an,.sl (Za (ofN (val g))) .an]=some (.sl (Za (ofN (val a/val g))) .an):=by
 have ho:=zm7 (T:=T) g;have hn:=zbm (T:=T) a (by omega);have hd:=zwb (T:=T) a (ofN (val g)) (by omega) (by have:=zac g;omega) (by rw[zae];omega);rw[zae]at hd;rw[zaa Zac.h230 rfl,b230];by_cases h1:val g=1
 ·rw[h1]at ho hd ⊢;simp -implicitDefEqProofs[ho,hn]
 ·simp -implicitDefEqProofs[ho,h1,hd]
theorem zm8(a:List UInt32)(k:Nat)(ha:a.length≤10000)(hk:k≤1000000):Zb T 227 [.sl (Za a) .an,.i .i64 k]=some (.sl (Za (ofN (2^k*val a))) .an):=by
 have hq:(k:Int).tdiv 32=(k:Int)/32:=Yc3 (by omega);have hm2:(k:Int).tmod 32=(k:Int)%32:=Yc4 (by omega);have s0:¬ (k:Int)%32<0:=by omega
 have s1:((k:Int)%32).toNat=k%32:=by omega
 have s2:min (k%32) 32=k%32:=by omega
 have w1:IntKind.wrap .i64 ((k:Int)/32)=((k/32:Nat):Int):=by rw[zad (k/32) (by omega)];omega
 have h2:2^(k%32)<4294967296:=by
  have:=Nat.pow_lt_pow_right (show 1<2 by decide) (Ya3 k (show 0<32 by decide));have h4:(2:Nat)^32=4294967296:=rfl;omega
 have s3:2^(k%32)%4294967296=2^(k%32):=Yi h2;have hmul:=zdo (T:=T) (List.replicate (k/32) 0++a) [w32 (2^(k%32))] (by simp;omega) (by simp);have hv:val (List.replicate (k/32) 0++a)*val [w32 (2^(k%32))]=2^k*val a:=by
  rw[zaj,zbk,Ya1,zan,za8,zag h2,Yac,Yt,Yaj,zo9,Yad,←Yx,←Ybk,show k%32+32*(k/32)=k by omega]
 rw[hv]at hmul;have b2:k/32+a.length≤4294967296:=by omega
 have b3:((k/32:Nat):Int)≤4294967296:=by omega
 have hu:Za [w32 (2^(k%32))]=[[u32 (2^(k%32))]]:=by simp[Za,zag h2]
 rw[hu]at hmul;have ht:List.take (k/32+a.length) (List.replicate (k/32) 0++a)=List.replicate (k/32) 0++a:=Yb (by simp);rw[zaa Zac.h227 rfl,b227];generalize 2^k*val a=V at *
 clear hv hu;generalize k/32=q at *
 simp -implicitDefEqProofs[hq,hm2,w1,s0,s1,s2,s3,hmul,b2,b3,ht]
def nmX:BId:=.fld (.loc 12) 22
def nmY:BId:=.fld (.loc 14) 22
def nm2(f:Bool):BId×BId:=if f then (nmX,nmY) else (nmY,nmX)
def Zgo(f:Bool)(P a S P2 b S2:List UInt32)(m n:Nat):St:=
 ⟨[(5,.bs (nm2 f).1 1 1 P.length a.length),(6,.bs (nm2 f).2 2 1 P2.length b.length),(7,.i .i64 m),(8,.i .i64 n)],[((nm2 f).1,⟨1,.own,1,Za (P++(a++S))⟩),((nm2 f).2,⟨2,.own,1,Za (P2++(b++S2))⟩)],4⟩
theorem zahw(f:Bool)(P S P2 S2:List UInt32)(X Y m n:Nat)(hX:(ofN X).length≤10000)(hY:(ofN Y).length≤10000)(h:Y<X) :
  ∃(P' S':List UInt32) (k x:Nat),X-Y=2^k*x∧x%2=1 ∧
   evX (orc T) T 0 l228_0 (Zgo f P (ofN X) S P2 (ofN Y) S2 m n)=some (.n,Zgo f P' (ofN x) S' P2 (ofN Y) S2 m n):=by
 have hc:=zek (T:=T) (ofN X) (ofN Y) (by omega) (by omega);rw[zae,zae,show Zcm X Y=1 by unfold Zcm;rw[if_neg (by omega),if_pos h]]at hc;obtain⟨d,hd,hv,hless⟩:=zir (T:=T) P (ofN X) S P2 (ofN Y) S2 (by omega) (zat (Ycg h)) (by rw[zae,zae];omega);rw[zae,zae]at hv;obtain⟨P',S',x,k,e1,e2,e3,e4,e5,hodd⟩:=zf9 (T:=T) P d S (by omega) (by omega);refine⟨P',S',k,x,by omega,e2,?_⟩;have t1:List.take (ofN X).length (List.drop P.length (P++(ofN X++S)))=ofN X:=by simp
 have t2:List.take (ofN Y).length (List.drop P2.length (P2++(ofN Y++S2)))=ofN Y:=by simp
 have b1:P.length+(ofN X).length≤(P++(ofN X++S)).length:=by simp
 have b2:P2.length+(ofN Y).length≤(P2++(ofN Y++S2)).length:=by simp
 rw[hd]at hodd;unfold Zgo;clear hv e1 e3 e4 e5 hd hX hY;generalize P++(ofN X++S)=Q at *
 generalize P2++(ofN Y++S2)=R at *
 generalize P'++(ofN x++S')=Q' at *
 generalize P++(d++S)=Q2 at *
 generalize ofN X=A at *
 generalize ofN Y=B at *
 cases f<;>simp -implicitDefEqProofs[l228_0,nm2,nmX,nmY,hc,t1,t2,b1,b2,hless,hodd]
theorem zahx(f:Bool)(P S P2 S2:List UInt32)(X Y m n:Nat)(hX:(ofN X).length≤10000)(hY:(ofN Y).length≤10000)(h:X<Y) :
  ∃(P' S':List UInt32) (k x:Nat),Y-X=2^k*x∧x%2=1 ∧
   evX (orc T) T 0 l228_0 (Zgo f P (ofN X) S P2 (ofN Y) S2 m n)=some (.n,Zgo (!f) P' (ofN x) S' P (ofN X) S m n):=by
 have hc:=zek (T:=T) (ofN X) (ofN Y) (by omega) (by omega);rw[zae,zae,show Zcm X Y=-1 by unfold Zcm;rw[if_pos h]]at hc;obtain⟨d,hd,hv,hless⟩:=zir (T:=T) P2 (ofN Y) S2 P (ofN X) S (by omega) (zat (Ycg h)) (by rw[zae,zae];omega);rw[zae,zae]at hv;obtain⟨P',S',x,k,e1,e2,e3,e4,e5,hodd⟩:=zf9 (T:=T) P2 d S2 (by omega) (by omega);refine⟨P',S',k,x,by omega,e2,?_⟩;have t1:List.take (ofN X).length (List.drop P.length (P++(ofN X++S)))=ofN X:=by simp
 have t2:List.take (ofN Y).length (List.drop P2.length (P2++(ofN Y++S2)))=ofN Y:=by simp
 have b1:P.length+(ofN X).length≤(P++(ofN X++S)).length:=by simp
 have b2:P2.length+(ofN Y).length≤(P2++(ofN Y++S2)).length:=by simp
 rw[hd]at hodd;unfold Zgo;clear hv e1 e3 e4 e5 hd hX hY;generalize P++(ofN X++S)=Q at *
 generalize P2++(ofN Y++S2)=R at *
 generalize P'++(ofN x++S')=Q' at *
 generalize P2++(d++S2)=Q2 at *
 generalize ofN X=A at *
 generalize ofN Y=B at *
 cases f<;>simp -implicitDefEqProofs[l228_0,nm2,nmX,nmY,hc,t1,t2,b1,b2,hless,hodd]
theorem zahy(f:Bool)(P S P2 S2:List UInt32)(X m n:Nat)(hX:(ofN X).length≤10000){G:Option (Ex×St)}
  (hG:G=some (.n,⟨[(5,.bs (nm2 f).1 1 1 P.length (ofN X).length),(7,.i .i64 m),(8,.i .i64 n)],[((nm2 f).1,⟨1,.own,1,Za (P++(ofN X++S))⟩)],3⟩)) :
  Zd5 (evX (orc T) T 0 l228_0 (Zgo f P (ofN X) S P2 (ofN X) S2 m n))=true∧Zde 0 0 (Gh.norm false [5,7,8]) (evX (orc T) T 0 l228_0 (Zgo f P (ofN X) S P2 (ofN X) S2 m n))=G:=by
 subst hG;have hc:=zek (T:=T) (ofN X) (ofN X) (by omega) (by omega);rw[zae,show Zcm X X=0 by unfold Zcm;rw[if_neg (by omega),if_neg (by omega)]]at hc;have t1:List.take (ofN X).length (List.drop P.length (P++(ofN X++S)))=ofN X:=by simp
 have t2:List.take (ofN X).length (List.drop P2.length (P2++(ofN X++S2)))=ofN X:=by simp
 have b1:P.length+(ofN X).length≤(P++(ofN X++S)).length:=by simp
 have b2:P2.length+(ofN X).length≤(P2++(ofN X++S2)).length:=by simp
 unfold Zgo;generalize P++(ofN X++S)=Q at *
 generalize P2++(ofN X++S2)=R at *
 generalize ofN X=A at *
 cases f<;>constructor<;>simp -implicitDefEqProofs[l228_0,nm2,nmX,nmY,hc,t1,t2,b1,b2]
structure Gc where
 f:Bool
 P:List UInt32
 S:List UInt32
 P2:List UInt32
 S2:List UInt32
 X:Nat
 Y:Nat
theorem z3s(G m n:Nat):∀y:Gc,((ofN y.X).length≤10000∧(ofN y.Y).length≤10000∧y.X%2=1∧y.Y%2=1∧Nat.gcd y.X y.Y=G) →
  ∃r,(∃(f:Bool) (P S:List UInt32),r=(Ex.n,(⟨[(5,.bs (nm2 f).1 1 1 P.length (ofN G).length),(7,.i .i64 m),(8,.i .i64 n)],[((nm2 f).1,⟨1,.own,1,Za (P++(ofN G++S))⟩)],3⟩:St))) ∧
   Zn T 0 0 (.norm false [5,7,8]) l228_0 (Zgo y.f y.P (ofN y.X) y.S y.P2 (ofN y.Y) y.S2 m n)=some r:=by
 refine zaq (fun y:Gc=>Zgo y.f y.P (ofN y.X) y.S y.P2 (ofN y.Y) y.S2 m n) _ (fun y=>y.X+y.Y) _ ?_
 rintro⟨f,P,S,P2,S2,X,Y⟩ ⟨hX,hY,oX,oY,hG⟩
 simp only at hX hY oX oY hG ⊢;rcases Ybv X Y with h | h | h
 ·left;obtain⟨P',S',k,x,e1,e2,he⟩:=zahx (T:=T) f P S P2 S2 X Y m n hX hY h;have hle:x≤Y-X:=by rw[e1];exact Yb6 _ (Ya2 (by decide))
  refine⟨⟨!f,P',S',P,S,x,X⟩,⟨?_,hX,e2,oX,?_⟩,by simp only;omega,he⟩
  ·have:=zat (show x≤Y by omega);simp only;omega
  ·simp only;rw[zqt oX (Ycg h) e1,←hG,Yb3]
 ·right;subst h;rw[Nat.gcd_self]at hG;subst hG;obtain⟨h1,h2⟩:=zahy (T:=T) f P S P2 S2 X m n hX rfl;exact⟨_,⟨f,P,S,rfl⟩,h1,h2⟩
 ·left;obtain⟨P',S',k,x,e1,e2,he⟩:=zahw (T:=T) f P S P2 S2 X Y m n hX hY h;have hle:x≤X-Y:=by rw[e1];exact Yb6 _ (Ya2 (by decide))
  refine⟨⟨f,P',S',P2,S2,x,Y⟩,⟨?_,hY,e2,oY,?_⟩,by simp only;omega,he⟩
  ·have:=zat (show x≤X by omega);simp only;omega
  ·simp only;rw[zqt oY (Ycg h) e1,←hG]
theorem zwc(a b:List UInt32)(ha:a.length≤10000)(hb:b.length≤10000):Zb T 228 [.sl (Za a) .an,.sl (Za b) .an]=some (.sl (Za (ofN (Nat.gcd (val a) (val b)))) .an):=by
 have n1:=ze6 (T:=T) a (by omega);have n2:=ze6 (T:=T) b (by omega);have la:=zac a;have lb:=zac b;rw[zaa Zac.h228 rfl,b228];generalize val a=X at *
 generalize val b=Y at *
 have tX:List.take (ofN X).length (ofN X)=ofN X:=Yb (Yh _);have tY:List.take (ofN Y).length (ofN Y)=ofN Y:=Yb (Yh _);by_cases hX:X=0
 ·subst hX;rw[Nat.gcd_zero_left];simp only[zd4]at n1;generalize ofN Y=B at *
  simp -implicitDefEqProofs[n1,n2,tY]
 ·have eX:¬ ofN X=[]:=fun e=>hX (zau.1 e);by_cases hY:Y=0
  ·subst hY;rw[Yec];simp only[zd4]at n2;generalize ofN X=A at *
   simp -implicitDefEqProofs[n1,n2,eX,tX]
  ·have eY:¬ ofN Y=[]:=fun e=>hY (zau.1 e);obtain⟨P1,S1,x,m,e1,e2,e3,e4,e5,o1⟩:=zf9 (T:=T) [] (ofN X) [] (by omega) (by rw[zae];exact hX);obtain⟨P2,S2,y,n,g1,g2,g3,g4,g5,o2⟩:=zf9 (T:=T) [] (ofN Y) [] (by omega) (by rw[zae];exact hY);rw[zae]at e1 g1;obtain⟨_,⟨f,P,S,rfl⟩,hl⟩:=z3s (T:=T) (Nat.gcd x y) m n ⟨true,P1,S1,P2,S2,x,y⟩ ⟨by simp only;omega,by simp only;omega,e2,g2,rfl⟩;have hG:Nat.gcd X Y=2^(min m n)*Nat.gcd x y:=by rw[e1,g1];exact z4f e2 g2
   have hgl:(ofN (Nat.gcd x y)).length≤10000:=by
    have:=zat (Nat.gcd_le_left y (show 0<x by omega));omega
   have hdb:=zm8 (T:=T) (ofN (Nat.gcd x y)) (min m n) hgl (by omega);rw[zae,←hG]at hdb;simp only[Yae,Ybh,Ybo]at o1 o2;unfold Zgo at hl;have t1:List.take (ofN (Nat.gcd x y)).length (List.drop P.length (P++(ofN (Nat.gcd x y)++S)))=ofN (Nat.gcd x y):=by simp
   have b1:P.length+(ofN (Nat.gcd x y)).length≤(P++(ofN (Nat.gcd x y)++S)).length:=by simp
   have hmin:(if n<m then (n:Int) else (m:Int))=((min m n:Nat):Int):=by split<;>omega
   clear e1 e2 e3 e4 e5 g1 g2 g3 g4 g5 hG hgl;generalize min m n=K at *
   generalize P++(ofN (Nat.gcd x y)++S)=Q at *
   generalize P1++(ofN x++S1)=Q1 at *
   generalize P2++(ofN y++S2)=Q2 at *
   generalize ofN (Nat.gcd x y)=g at *
   generalize ofN (Nat.gcd X Y)=g' at *
   simp only[nm2,nmX,nmY,if_true]at hl;generalize ofN X=A at *
   generalize ofN Y=B at *
   cases f<;>simp only[Yab,if_false,if_true]at hl<;>simp -implicitDefEqProofs[n1,n2,eX,eY,o1,o2,hl,hdb,t1,b1,hmin,mm2]
end
section
variable{T:Tbl}[Zbk T]
theorem zse(n:Bool)(a:List UInt32)(ha:a.length≤1000000):Zb T 39 [wh n a]=some (ez (wv n a)):=by
 have h:=zbm (T:=T) a ha;have hl:(0<(ofN (val a)).length)=(val a≠0):=by
  rw[eq_iff_iff,Ycm];exact not_congr zau
 rw[zaa Zbk.h39 rfl,b39];unfold wv;rw[zxa];cases n<;>simp -implicitDefEqProofs[h,hl]
theorem zwd(n m:Bool)(a b:List UInt32)(ha:a.length≤10000)(hb:b.length≤10000):Zb T 24 [wh n a,wh m b]=some (ez (wv n a+wv m b)):=by
 have hc:=zek (T:=T) a b (by omega) (by omega);rw[zaa Zbk.h24 rfl,b24];have fin:∀(s:Bool) (k:Nat),sg s k=wv n a+wv m b→(ofN k).length≤1000000→Zb T 39 [wh s (ofN k)]=some (ez (wv n a+wv m b)):=by
  intro s k h1 h2;rw[zse (T:=T) s (ofN k) h2];have:wv s (ofN k)=sg s k:=by unfold wv;rw[zae]
  rw[this,h1]
 have hla:=zac a;have hlb:=zac b;obtain⟨z,hz⟩:∃z,z=wv n a+wv m b:=⟨_,rfl⟩;by_cases h:n=m
 ·subst h;have h1:=zm4 (T:=T) a b (by omega) (by omega);have h2:=fin n (val a+val b) (ziw _ _ _) (by
   have:=zb8 (x:=(val a:Int)) (y:=val b) (L:=10000) (by simpa using Yc hla ha) (by simpa using Yc hlb hb);have e:((val a:Int)+val b).natAbs=val a+val b:=by omega
   rw[e]at this;omega)
  rw[←hz]at h2 ⊢;simp -implicitDefEqProofs[h1,h2]
 ·by_cases hlt:val a<val b
  ·have h1:=zm5 (T:=T) b a (by omega) (by omega) (by omega);have h2:=fin m (val b-val a) (znm h hlt) (by have:=zat (Nat.sub_le (val b) (val a));omega);rw[←hz]at h2 ⊢;simp -implicitDefEqProofs[h,hc,zc0,hlt,h1,h2]
  ·have h1:=zm5 (T:=T) a b (by omega) (by omega) (by omega);have h2:=fin n (val a-val b) (znn h hlt) (by have:=zat (Nat.sub_le (val a) (val b));omega);rw[←hz]at h2 ⊢;simp -implicitDefEqProofs[h,hc,zc0,hlt,h1,h2]
end
theorem zwe(n:Bool)(x y:Nat):sg n (x*y)=sg n x*(y:Int):=by cases n<;>simp[sg,Ye9]
theorem z0x(q:Rat):val (fz q).2.2≠0:=by
 unfold fz;rw[zae];exact q.den_nz
section
variable{T:Tbl}[Zai T][Za5 T][Zak T][Zbf T][Zac T][Zbk T][Zae T]
theorem zb7(x:Fz)(hx:fsz x≤10000):Zb T 231 [efz x]=some (efz (fz (fv x))):=by
 obtain⟨n,a,d⟩:=x;have la:=zc4 (n,a,d);have ld:=zc7 (n,a,d);simp only at la ld;have n1:=zbm (T:=T) a (by omega);have n2:=zbm (T:=T) d (by omega);have la2:=zac a;have ld2:=zac d;have ho:=zm7 (T:=T) d;have hg:=zwc (T:=T) (ofN (val a)) (ofN (val d)) (by omega) (by omega);rw[zae,zae]at hg;show _=some (efz (fz (mkRat (sg n (val a)) (val d))));by_cases hd:val d=0
 ·rw[hd,Ye6,zxi,zaa Zae.h231 rfl,b231];rw[hd]at n2;simp only[zd4]at n2;simp -implicitDefEqProofs[n1,n2,show Za [1]=[[u32 1]] from rfl]
 ·by_cases ha:val a=0
  ·have e0:mkRat (sg n (val a)) (val d)=0:=by rw[Yen hd,ha];cases n<;>rfl
   have ed:¬ ofN (val d)=[]:=fun e=>hd (zau.1 e);rw[e0,zxi,zaa Zae.h231 rfl,b231];rw[ha]at n1;simp only[zd4]at n1;simp -implicitDefEqProofs[n1,n2,ed,show Za [1]=[[u32 1]] from rfl]
  ·have ea:¬ ofN (val a)=[]:=fun e=>ha (zau.1 e);have ed:¬ ofN (val d)=[]:=fun e=>hd (zau.1 e);rw[z9v n (val a) hd,show decide (val a≠0)=true by simpa using ha,Yd2];have gpos:Nat.gcd (val a) (val d)≠0:=by
    have:=Yem (val a) (Yai hd);omega
   have glen:(ofN (Nat.gcd (val a) (val d))).length≤10000:=by
    have:=zat (Nat.gcd_le_right (val a) (Yai hd));omega
   have o1:=zj3 (T:=T) (ofN (val a)) (ofN (Nat.gcd (val a) (val d))) (by omega) glen (by rw[zae];exact gpos);have o2:=zj3 (T:=T) (ofN (val d)) (ofN (Nat.gcd (val a) (val d))) (by omega) glen (by rw[zae];exact gpos);rw[zae,zae]at o1 o2;rw[zaa Zae.h231 rfl,b231];by_cases h1:val d=1
   ·rw[h1]at n2 ho ed ⊢;rw[Nat.gcd_one_right,Nat.div_one,Nat.div_one];generalize ofN (val a)=A at *
    generalize ofN 1=O at *
    simp -implicitDefEqProofs[n1,n2,ho,ea,ed]
   ·generalize ofN (val a/Nat.gcd (val a) (val d))=A' at *
    generalize ofN (val d/Nat.gcd (val a) (val d))=D' at *
    generalize ofN (Nat.gcd (val a) (val d))=G at *
    generalize ofN (val a)=A at *
    generalize ofN (val d)=D at *
    simp -implicitDefEqProofs[n1,n2,ho,ea,ed,h1,hg,o1,o2]
theorem zqd(n:Nat)(h:n<18446744073709551616):Zb T 353 [u64 n]=some (.sl (Za (ofN n)) .an):=by
 have e2:val [w32 n,w32 (n/4294967296)]=n:=by simp[zb4];omega
 have h2:=zbm (T:=T) [w32 n,w32 (n/4294967296)] (by simp);rw[e2]at h2;have h3:n/4294967296%4294967296=n/4294967296:=Yi (by omega);have h4:n/4294967296%18446744073709551616=n/4294967296:=Yi (by omega);rw[zaa Zae.h353 rfl,b353];simp -implicitDefEqProofs[h3,h4,zbi _ _ _ (show n/4294967296<4294967296 by omega),h2]
theorem zwf(k:Int)(h1:-9223372036854775808≤k)(h2:k<9223372036854775808):Zb T 232 [.i .i64 k]=some (efz (fz (k:Rat))):=by
 have hu:Za [1]=[[u32 1]]:=rfl;rw[zaa Zae.h232 rfl,b232];by_cases hk:k<0
 ·have w1:IntKind.wrap .i64 (k+1)=k+1:=zad _ (by omega);have w2:IntKind.wrap .i64 (-(k+1))=-(k+1):=zad _ (by omega);have w3:(-(k+1)%18446744073709551616).toNat=k.natAbs-1:=by omega
  have c1:=zqd (T:=T) (k.natAbs-1) (by omega);have c2:=zm4 (T:=T) (ofN (k.natAbs-1)) [1] (by have:=zap (n:=k.natAbs-1) (k:=2) (by show _<18446744073709551616;omega);omega) (by decide);have e1:val (ofN (k.natAbs-1))+val [1]=k.natAbs:=by rw[zae];show _+(1+4294967296*0)=_;omega
  rw[e1,hu]at c2;have c3:=zb7 (T:=T) (true,ofN k.natAbs,[1]) (by
   have:=zap (n:=k.natAbs) (k:=2) (by show _<18446744073709551616;omega);unfold fsz;simp only[Ydt];omega)
  have e2:fv (true,ofN k.natAbs,[1])=(k:Rat):=by
   unfold fv wv;simp only[zae];rw[show val [1]=1 from rfl,show sg true k.natAbs=k by unfold sg;rw[if_pos rfl];omega];rw[←Yda];exact Rat.num_divInt_den (k:Rat)
  rw[e2]at c3
  change Zb T 231 [.agg [.b true,.sl (Za (ofN k.natAbs)) .an,.sl (Za [1]) .an]]=_ at c3
  rw[hu]at c3;generalize fz (k:Rat)=z at *
  simp -implicitDefEqProofs[hk,w1,w2,w3,c1,c2,c3]
 ·have w3:(k%18446744073709551616).toNat=k.natAbs:=by omega
  have c1:=zqd (T:=T) k.natAbs (by omega);have c3:=zb7 (T:=T) (false,ofN k.natAbs,[1]) (by
   have:=zap (n:=k.natAbs) (k:=2) (by show _<18446744073709551616;omega);unfold fsz;simp only[Ydt];omega)
  have e2:fv (false,ofN k.natAbs,[1])=(k:Rat):=by
   unfold fv wv;simp only[zae];rw[show val [1]=1 from rfl,show sg false k.natAbs=k by unfold sg;simp;omega];rw[←Yda];exact Rat.num_divInt_den (k:Rat)
  rw[e2]at c3
  change Zb T 231 [.agg [.b false,.sl (Za (ofN k.natAbs)) .an,.sl (Za [1]) .an]]=_ at c3
  rw[hu]at c3;generalize fz (k:Rat)=z at *
  simp -implicitDefEqProofs[hk,w3,c1,c3]
theorem zsf:Zb T 232 [.i .i64 0]=some (efz (fz 0)):=zwf 0 (by decide) (by decide)
theorem zj4(x y:Fz)(hx:fsz x≤10000):Zb T 233 [efz x,efz y]=some (.b (decide (x=y))):=by
 obtain⟨n,a,d⟩:=x;obtain⟨m,b,e⟩:=y;have la:=zc4 (n,a,d);have ld:=zc7 (n,a,d);simp only at la ld;have c1:=zj2 (T:=T) a b (by omega);have c2:=zj2 (T:=T) d e (by omega);rw[zaa Zae.h233 rfl,b233];by_cases h1:n=m
 ·subst h1;by_cases h2:a=b
  ·subst h2;by_cases h3:d=e
   ·subst h3;simp -implicitDefEqProofs[c1,c2]
   ·simp -implicitDefEqProofs[c1,c2,h3]
  ·simp -implicitDefEqProofs[c1,h2]
 ·simp -implicitDefEqProofs[c1,c2,h1]
theorem zgs(x:Fz)(k:Nat):Zb T 247 [efz x,.i .i64 k]=some (.b (decide (k<fsz x))):=by
 obtain⟨n,a,d⟩:=x;unfold fsz;rw[zaa Zae.h247 rfl,b247];by_cases h1:k<a.length
 ·have h3:k<max a.length d.length:=by omega
  simp -implicitDefEqProofs[h1,h3]
 ·by_cases h2:k<d.length
  ·have h3:k<max a.length d.length:=by omega
   simp -implicitDefEqProofs[h1,h2,h3]
  ·have h3:¬ k<max a.length d.length:=by omega
   simp -implicitDefEqProofs[h1,h2,h3]
theorem zwg(x y:Fz)(hx:fsz x≤1000)(hy:fsz y≤1000):Zb T 241 [efz x,efz y]=some (efz (fz (fv x*fv y))):=by
 obtain⟨n,a,d⟩:=x;obtain⟨m,b,e⟩:=y;have la:=zc4 (n,a,d);have ld:=zc7 (n,a,d);have lb:=zc4 (m,b,e);have le:=zc7 (m,b,e);simp only at la ld lb le;have c1:=zdo (T:=T) a b (by omega) (by omega);have c2:=zdo (T:=T) d e (by omega) (by omega);have l1:(ofN (val a*val b)).length≤2000:=by
  have:=za5 (x:=val a) (y:=val b) (L:=1000) (M:=1000) (Yc (zac a) (by omega)) (Yc (zac b) (by omega));omega
 have l2:(ofN (val d*val e)).length≤2000:=by
  have:=za5 (x:=val d) (y:=val e) (L:=1000) (M:=1000) (Yc (zac d) (by omega)) (Yc (zac e) (by omega));omega
 have c3:=zb7 (T:=T) (n != m,ofN (val a*val b),ofN (val d*val e)) (by unfold fsz;simp only;omega);have e1:fv (n != m,ofN (val a*val b),ofN (val d*val e))=fv (n,a,d)*fv (m,b,e):=by
  unfold fv wv;simp only[zae];rw[zqp,Rat.mkRat_mul_mkRat]
 rw[e1]at c3;rw[f241 _ rfl,b241];clear e1 l1 l2;generalize fz (fv (n,a,d)*fv (m,b,e))=z at *
 generalize ofN (val a*val b)=A at *
 generalize ofN (val d*val e)=D at *
 simp -implicitDefEqProofs[c1,c2,c3,zh9]
theorem zwh(x y:Fz)(hx:fsz x≤1000)(hy:fsz y≤1000)(h1:val x.2.2≠0)(h2:val y.2.2≠0):Zb T 239 [efz x,efz y]=some (efz (fz (fv x+fv y))):=by
 obtain⟨n,a,d⟩:=x;obtain⟨m,b,e⟩:=y;have la:=zc4 (n,a,d);have ld:=zc7 (n,a,d);have lb:=zc4 (m,b,e);have le:=zc7 (m,b,e);simp only at la ld lb le h1 h2;have c1:=zdo (T:=T) a e (by omega) (by omega);have c2:=zdo (T:=T) b d (by omega) (by omega);have c4:=zdo (T:=T) d e (by omega) (by omega);have l1:(ofN (val a*val e)).length≤2000:=by
  have:=za5 (x:=val a) (y:=val e) (L:=1000) (M:=1000) (Yc (zac a) (by omega)) (Yc (zac e) (by omega));omega
 have l2:(ofN (val b*val d)).length≤2000:=by
  have:=za5 (x:=val b) (y:=val d) (L:=1000) (M:=1000) (Yc (zac b) (by omega)) (Yc (zac d) (by omega));omega
 have l4:(ofN (val d*val e)).length≤2000:=by
  have:=za5 (x:=val d) (y:=val e) (L:=1000) (M:=1000) (Yc (zac d) (by omega)) (Yc (zac e) (by omega));omega
 have c3:=zwd (T:=T) n m (ofN (val a*val e)) (ofN (val b*val d)) (by omega) (by omega);have e3:wv n (ofN (val a*val e))+wv m (ofN (val b*val d))=sg n (val a)*(val e:Int)+sg m (val b)*(val d:Int):=by
  unfold wv;rw[zae,zae,zwe,zwe]
 have l3:(ofN (sg n (val a)*(val e:Int)+sg m (val b)*(val d:Int)).natAbs).length≤3000:=by
  rw[←e3];have:=zb8 (x:=wv n (ofN (val a*val e))) (y:=wv m (ofN (val b*val d))) (L:=2000) (Yc (zbx _ _) l1) (Yc (zbx _ _) l2);omega
 rw[e3]at c3;obtain⟨z,hz⟩:∃z,z=sg n (val a)*(val e:Int)+sg m (val b)*(val d:Int):=⟨_,rfl⟩;rw[←hz]at c3 l3;have c5:=zb7 (T:=T) (decide (z<0),ofN z.natAbs,ofN (val d*val e)) (by unfold fsz;simp only;omega);have e1:fv (decide (z<0),ofN z.natAbs,ofN (val d*val e))=fv (n,a,d)+fv (m,b,e):=by
  unfold fv;simp only[zae,zfj];rw[hz];exact(Ydd _ _ h1 h2).symm
 rw[e1]at c5;rw[zaa Zae.h239 rfl,b239];clear e1 e3 hz l1 l2 l3 l4 h1 h2;generalize fz (fv (n,a,d)+fv (m,b,e))=R at *
 generalize ofN (val a*val e)=A at *
 generalize ofN (val b*val d)=B at *
 generalize ofN (val d*val e)=D at *
 simp -implicitDefEqProofs[c1,c2,c3,c4,c5,zh9]
theorem zgt(p q:Rat)(hp:sz p≤1000)(hq:sz q≤1000):Zb T 239 [efz (fz p),efz (fz q)]=some (efz (fz (p+q))):=by
 have:=zwh (T:=T) (fz p) (fz q) hp hq (z0x p) (z0x q)
 rwa [zbe,zbe]at this
theorem zj5(p q:Rat)(hp:sz p≤1000)(hq:sz q≤1000):Zb T 241 [efz (fz p),efz (fz q)]=some (efz (fz (p*q))):=by
 have:=zwg (T:=T) (fz p) (fz q) hp hq
 rwa [zbe,zbe]at this
end
section
variable{T:Tbl}[Zai T][Za5 T][Zak T][Zbf T][Zac T][Zbk T][Zae T][Zav T]
def Zoc(n i:Nat):St:=⟨[(0,.i .i64 n),(3,.bs (.loc 3) 1 3 0 i),(4,.i .i64 i)],[(.loc 3,⟨1,.own,3,Zd (List.replicate i (fz 0))⟩)],3⟩
def Zkw(l:List Fz)(i:Nat):St:=⟨[(0,.sl (Zd l) .an),(3,.bs (.loc 3) 1 3 0 i),(4,.i .i64 i)],[(.loc 3,⟨1,.own,3,Zd (nrm (l.take i))⟩)],3⟩
theorem zsg(l:List Fz)(hl:l.length≤1000)(hw:∀x∈l,fsz x≤1000) :
  Zn T 0 0 (.norm false [3]) l278_0 (Zkw l 0)=some (.n,⟨[(3,.bs (.loc 3) 1 3 0 l.length)],[(.loc 3,⟨1,.own,3,Zd (nrm l)⟩)],3⟩):=by
 refine za0 (Zkw l) l.length _ (fun i hi=>?_) ?_
 ·have hg:l[i]? = some (l[i]'hi):=Ya hi;have hws:=zbs hi (by omega);have hn:=zb7 (T:=T) (l[i]'hi) (Yc (hw _ (Yn hi)) (by decide));have e:nrm (l.take (i+1))=nrm (l.take i)++[fz (fv (l[i]'hi))]:=zbj l _ hi;have hml:(nrm (l.take i)).length=i:=by simp[nrm];omega
  have hp:=zcj hml (fz (fv (l[i]'hi)));unfold Zkw;rw[e];clear e;generalize nrm (l.take i)=M at *
  generalize fz (fv (l[i]'hi))=z at *
  have hb:i≤4294967295:=by omega
  simp -implicitDefEqProofs[l278_0,hi,hg,hws,hn,hp,hml,hb]
 ·unfold Zkw;rw[Yb (Yh _)];generalize nrm l=M;constructor<;>simp -implicitDefEqProofs[l278_0]
theorem zb1(l:List Fz)(hl:l.length≤1000)(hw:∀x∈l,fsz x≤1000):Zb T 278 [.sl (Zd l) .an]=some (.sl (Zd (nrm l)) .an):=by
 have h:=zsg (T:=T) l hl hw;unfold Zkw at h;have e:nrm (l.take 0)=[]:=rfl;rw[e]at h;simp only[zb5,Yo]at h;have hl2:(nrm l).length=l.length:=by simp[nrm]
 have ht:List.take l.length (nrm l)=nrm l:=Yb (by omega);rw[zaa Zav.h278 rfl,b278];simp -implicitDefEqProofs[h,ht,hl2]
def Zjr(a b:List Fz)(i:Nat):St:=⟨[(0,.sl (Zd a) .an),(1,.sl (Zd b) .an),(5,.i .i64 i)],[],2⟩
theorem zsh(a b:List Fz)(hab:a.length=b.length)(hl:a.length≤1000)(ha:∀x∈a,fsz x≤10000) :
  Zn T 0 0 (.norm false []) l279_0 (Zjr a b 0)=if a.drop 0=b.drop 0 then some (.n,⟨[],[],2⟩) else some (.r,⟨[(4,.b false)],[],2⟩):=by
 refine zbd (Zjr a b) a.length (fun i=>if a.drop i=b.drop i then some (.n,⟨[],[],2⟩) else some (.r,⟨[(4,.b false)],[],2⟩)) (fun i hi=>?_) ?_
 ·have hga:a[i]? = some (a[i]'hi):=Ya hi;have hib:i<b.length:=by omega
  have hgb:b[i]? = some (b[i]'hib):=Ya hib;have hws:=zbs hi (by omega);have c:=zj4 (T:=T) (a[i]'hi) (b[i]'hib) (ha _ (Yn hi));have hib':(i:Int)<b.length:=by omega
  have key:(a.drop i=b.drop i)↔((a[i]'hi)=(b[i]'hib)∧a.drop (i+1)=b.drop (i+1)):=by
   rw[Yf hi,Yf hib,List.cons.injEq]
  by_cases he:(a[i]'hi)=(b[i]'hib)
  ·left;refine⟨?_,by simp only[key,he,true_and]⟩;unfold Zjr;rw[decide_eq_true he]at c;clear he;simp -implicitDefEqProofs[l279_0,hi,hga,hgb,hws,c,hib,hib']
  ·right;rw[if_neg (fun h=>he (key.1 h).1)];unfold Zjr;rw[decide_eq_false he]at c;clear he;constructor<;>simp -implicitDefEqProofs[l279_0,hi,hga,hgb,hws,c,hib,hib']
 ·rw[Yaf,if_pos (by rw[hab,Yaf])];unfold Zjr;constructor<;>simp -implicitDefEqProofs[l279_0]
theorem zj6(a b:List Fz)(hl:a.length≤1000)(ha:∀x∈a,fsz x≤10000):Zb T 279 [.sl (Zd a) .an,.sl (Zd b) .an]=some (.b (decide (a=b))):=by
 rw[zaa Zav.h279 rfl,b279];by_cases hab:a.length=b.length
 ·have h:=zsh (T:=T) a b hab hl ha;rw[Yar,Yar]at h;unfold Zjr at h;simp only[Yo]at h;have hab':(b.length:Int)=a.length:=by omega
  by_cases he:a=b
  ·subst he;rw[if_pos rfl]at h;simp -implicitDefEqProofs[h]
  ·rw[if_neg he]at h;simp -implicitDefEqProofs[hab',h,he]
 ·have he:¬ a=b:=fun h=>hab (by rw[h]);have hab':¬ (a.length:Int)=b.length:=by omega
  simp -implicitDefEqProofs[hab,hab',he]
def Zod(p q:List Rat)(i:Nat):St:=⟨[(0,.sl (Zd (fzs p)) .an),(1,.sl (Zd (fzs q)) .an),(5,.bs (.loc 5) 1 3 0 i),(6,.i .i64 i)],[(.loc 5,⟨1,.own,3,Zd (fzs ((Zju p (fzs q)).take i))⟩)],3⟩
def Zkx(p q:List Rat)(i:Nat):St:=⟨[(0,.sl (Zd (fzs p)) .an),(1,.sl (Zd (fzs q)) .an),(4,.ptr (.loc 4) 1 3 0 0),(5,.ptr (.loc 5) 2 3 0 0),(6,.i .i64 i)],
 [(.loc 4,⟨1,.str,3,[Zeu]⟩),(.loc 5,⟨2,.str,3,[Zbq (fz (Zdi (fzs p) (fzs q) i))]⟩)],4⟩
theorem zwi(p q:List Rat)(hpq:p.length=q.length){B:Nat}(hp:∀x∈p,sz x≤B)(hq:∀x∈q,sz x≤B)(hB:1≤B)(hB2:p.length*(2*B+1)+1≤1000) :
  Zn T 0 0 (.norm false [4,5]) l282_0 (Zkx p q 0)=some (.n,⟨[(4,.ptr (.loc 4) 1 3 0 0),(5,.ptr (.loc 5) 2 3 0 0)],[(.loc 4,⟨1,.str,3,[Zeu]⟩),(.loc 5,⟨2,.str,3,[Zbq (fz (Zah (fzs p) (fzs q)))]⟩)],4⟩):=by
 have la:(fzs p).length=p.length:=by simp
 have lb:(fzs q).length=q.length:=by simp
 refine za0 (Zkx p q) p.length _ (fun i hi=>?_) ?_
 ·have hlen:p.length*3≤1000:=Yc (Yak _ (show 3≤2*B+1 by omega)) (by omega);have hBB:2*B+1≤1000:=Yc (Yb6 _ (show 0<p.length by omega)) (by omega);have hiq:i<q.length:=by omega
  have hga:=zgu (Ya hi);have hgb:=zgu (Ya hiq);have hws:=zbs hi (by omega);have s1:=zo1 (a:=fzs p) (b:=fzs q) (B:=B) (by omega) (fun x hx=>by obtain⟨y,hy,rfl⟩:=Y2.1 hx;exact hp y hy) (fun x hx=>by obtain⟨y,hy,rfl⟩:=Y2.1 hx;exact hq y hy) hB i (by omega);have s2:i*(2*B+1)≤p.length*(2*B+1):=Yv _ (by omega);have s3:=zbf (p[i]'hi) (q[i]'hiq);have s4:=hp _ (Yn hi);have s5:=hq _ (Yn hiq);have c1:=zj5 (T:=T) (p[i]'hi) (q[i]'hiq) (by omega) (by omega);have c2:=zgt (T:=T) (Zdi (fzs p) (fzs q) i) (p[i]'hi*q[i]'hiq) (by omega) (by omega);have e:=zis (a:=fzs p) (b:=fzs q) (by omega) (i:=i) (by omega);have e2:Zdi (fzs p) (fzs q) (i+1)=Zdi (fzs p) (fzs q) i+p[i]'hi*q[i]'hiq:=by rw[e];simp[fzs]
  rw[←e2]at c2;unfold Zkx;clear e e2 s1 s2 s3 s4 s5 hBB hp hq hB2;generalize fz (Zdi (fzs p) (fzs q) i)=z at *
  generalize fz (Zdi (fzs p) (fzs q) (i+1))=z' at *
  generalize fz (p[i]'hi*q[i]'hiq)=w at *
  generalize fz (p[i]'hi)=x at *
  generalize fz (q[i]'hiq)=y at *
  generalize fzs p=A at *
  generalize fzs q=B at *
  have hA:i<A.length:=by omega
  have hB:i<B.length:=by omega
  have hA':(i:Int)<A.length:=by omega
  have hB':(i:Int)<B.length:=by omega
  clear la lb;obtain⟨_,gA⟩:=Yd.1 hga;obtain⟨_,gB⟩:=Yd.1 hgb;simp -implicitDefEqProofs[l282_0,hA,hA',hB,hB',hga,hgb,gA,gB,hws,c1,c2]
 ·have e1:Zdi (fzs p) (fzs q) p.length=Zah (fzs p) (fzs q):=by unfold Zdi;rw[Yb (by omega),Yb (by omega)]
  unfold Zkx;rw[e1];generalize fz (Zah (fzs p) (fzs q))=z at *
  generalize fzs p=A at *
  rw[←la];constructor<;>simp -implicitDefEqProofs[l282_0]
theorem zm9(p q:List Rat)(hpq:p.length=q.length){B:Nat}(hp:∀x∈p,sz x≤B)(hq:∀x∈q,sz x≤B)(hB:1≤B)(hB2:p.length*(2*B+1)+1≤1000) :
  Zb T 282 [.sl (Zd (fzs p)) .an,.sl (Zd (fzs q)) .an]=some (efz (fz (Zah (fzs p) (fzs q)))):=by
 have h:=zwi (T:=T) p q hpq hp hq hB hB2;have h0:=zsf (T:=T);unfold Zkx at h;have e0:Zdi (fzs p) (fzs q) 0=0:=rfl;rw[e0]at h;simp only[Yo]at h;rw[zaa Zav.h282 rfl,b282];generalize fz (Zah (fzs p) (fzs q))=z at *
 generalize fz 0=z0 at *
 clear e0 hB2 hp hq;simp -implicitDefEqProofs[h0,h]
def Zbp(l:List Fz)(many words:Nat):Bool:=decide (many<l.length) || l.any fun x=>decide (words<fsz x)
def Zgp(l:List Fz)(many words:Nat)(i:Nat):St:=⟨[(0,.sl (Zd l) .an),(1,.i .i64 many),(2,.i .i64 words),(7,.i .i64 i)],[],2⟩
theorem zsi(l:List Fz)(many words:Nat)(hl:l.length≤many)(hm:many≤1000) :
  Zn T 0 0 (.norm false [0,1]) l286_0 (Zgp l many words 0)=if (l.drop 0).any (fun x=>decide (words<fsz x))=true then some (.r,⟨[(6,.b true)],[],2⟩) else some (.n,⟨[(0,.sl (Zd l) .an),(1,.i .i64 many)],[],2⟩):=by
 refine zbd (Zgp l many words) l.length (fun i=>if (l.drop i).any (fun x=>decide (words<fsz x))=true then some (.r,⟨[(6,.b true)],[],2⟩) else some (.n,⟨[(0,.sl (Zd l) .an),(1,.i .i64 many)],[],2⟩)) (fun i hi=>?_) ?_
 ·have hga:l[i]? = some (l[i]'hi):=Ya hi;have hws:=zbs hi (by omega);have c:=zgs (T:=T) (l[i]'hi) words;have h3:(i:Int)<many:=by omega
  have h4:i<many:=by omega
  have key:(l.drop i).any (fun x=>decide (words<fsz x))=(decide (words<fsz (l[i]'hi)) || (l.drop (i+1)).any fun x=>decide (words<fsz x)):=by
   rw[Yf hi,Yfd]
  by_cases he:words<fsz (l[i]'hi)
  ·right;rw[if_pos (by rw[key,decide_eq_true he,Yef])];rw[decide_eq_true he]at c;unfold Zgp;clear key he;constructor<;>simp -implicitDefEqProofs[l286_0,hi,h3,h4,hga,hws,c]
  ·left;refine⟨?_,by simp only[key,decide_eq_false he,Yfe]⟩;rw[decide_eq_false he]at c;unfold Zgp;clear key he;simp -implicitDefEqProofs[l286_0,hi,h3,h4,hga,hws,c]
 ·rw[Yaf,if_neg (by simp)];unfold Zgp;constructor<;>simp -implicitDefEqProofs[l286_0]
theorem zsj(l:List Fz)(many words:Nat)(hl:l.length≤many)(hm:many≤1000):Zb T 286 [.sl (Zd l) .an,.i .i64 many,.i .i64 words]=some (.b (Zbp l many words)):=by
 have h:=zsi (T:=T) l many words hl hm;rw[Yar]at h;unfold Zgp at h;simp only[Yo]at h;have h1:¬ (many:Int)<l.length:=by omega
 have h2:¬ many<l.length:=by omega
 unfold Zbp;rw[zaa Zav.h286 rfl,b286];cases hc:l.any fun x=>decide (words<fsz x) with
 | true=>
  rw[hc,if_pos rfl]at h;simp -implicitDefEqProofs[h,h2]
 | false=>
  rw[hc,if_neg (by decide)]at h;simp -implicitDefEqProofs[h,h1,h2]
theorem zsk(l:List Fz)(many words:Nat)(hl:many<l.length)(hm:many≤1000) :
  ∃r,(r=some (.r,(⟨[(6,.b true)],[],2⟩:St))∨r=some (.n,⟨[(0,.sl (Zd l) .an),(1,.i .i64 many)],[],2⟩))∧Zn T 0 0 (.norm false [0,1]) l286_0 (Zgp l many words 0)=r:=by
 obtain⟨G,hG⟩:∃G:Nat→Option (Ex×St),G=fun i=>if ((l.take many).drop i).any (fun x=>decide (words<fsz x))=true then some (.r,⟨[(6,.b true)],[],2⟩) else some (.n,⟨[(0,.sl (Zd l) .an),(1,.i .i64 many)],[],2⟩):=⟨_,rfl⟩
 refine⟨G 0,?_,zbd (Zgp l many words) many G (fun i hi=>?_) ?_⟩
 ·rw[hG];simp only;split
  ·exact .inl rfl
  ·exact .inr rfl
 ·have hil:i<l.length:=by omega
  have hil':(i:Int)<l.length:=by omega
  have hga:l[i]? = some (l[i]'hil):=Ya hil;have hws:=zbs hi (by omega);have c:=zgs (T:=T) (l[i]'hil) words;have key:((l.take many).drop i).any (fun x=>decide (words<fsz x))=(decide (words<fsz (l[i]'hil)) || ((l.take many).drop (i+1)).any fun x=>decide (words<fsz x)):=by
   rw[Yf (show i<(l.take many).length by simp;omega),Yfd,List.getElem_take]
  by_cases he:words<fsz (l[i]'hil)
  ·right;rw[hG];simp only;rw[if_pos (by rw[key,decide_eq_true he,Yef])];rw[decide_eq_true he]at c;unfold Zgp;clear key he hG;constructor<;>simp -implicitDefEqProofs[l286_0,hi,hil,hil',hga,hws,c]
  ·left;refine⟨?_,by rw[hG];simp only[key,decide_eq_false he,Yfe]⟩;rw[decide_eq_false he]at c;unfold Zgp;clear key he hG;simp -implicitDefEqProofs[l286_0,hi,hil,hil',hga,hws,c]
 ·rw[hG];simp only;rw[Yao (by simp;omega),if_neg (by simp)];have h1:(many:Int)<l.length:=by omega
  unfold Zgp;constructor<;>simp -implicitDefEqProofs[l286_0,h1,hl]
theorem zox(l:List Fz)(many words:Nat)(hl:many<l.length)(hm:many≤1000):Zb T 286 [.sl (Zd l) .an,.i .i64 many,.i .i64 words]=some (.b true):=by
 obtain⟨r,hr,h⟩:=zsk (T:=T) l many words hl hm;unfold Zgp at h;simp only[Yo]at h;have h1:(many:Int)<l.length:=by omega
 rw[zaa Zav.h286 rfl,b286];rcases hr with rfl | rfl
 ·simp -implicitDefEqProofs[h]
 ·simp -implicitDefEqProofs[h,hl]
theorem zc2(l:List Fz)(many words:Nat)(hm:many≤1000):Zb T 286 [.sl (Zd l) .an,.i .i64 many,.i .i64 words]=some (.b (Zbp l many words)):=by
 by_cases h:many<l.length
 ·rw[zox l many words h hm];unfold Zbp;rw[decide_eq_true h,Yef]
 ·exact zsj l many words (by omega) hm
theorem zbt{l:List Fz}{many words:Nat}(h:Zbp l many words=false):l.length≤many∧∀x∈l,fsz x≤words:=by
 unfold Zbp at h;simp only[Yc6,decide_eq_false_iff_not,List.any_eq_false,decide_eq_true_eq]at h;exact⟨by omega,fun x hx=>by have:=h.2 x hx;omega⟩
end
def Zar(n:Int):Nat:=(min (max n 0) 300).toNat
theorem zne(n:Int):Zar n≤300:=by unfold Zar;omega
section
variable{T:Tbl}[Zs T][Zw T][Zx T][Zt T][Zv T][Zau T][Zf T][Zl T][Zq T][Zax T][Za6 T]
theorem zck(n:Int):Zaa T 2263 [.i .i64 n] []=some (.bs (.loc 9) 1 3 0 (Zar n),[(.loc 9,⟨1,.own,3,Zd (List.replicate (Zar n) (fz 0))⟩)]):=by
 have hk:=zne n;have h:=zna (T:=T) (Zar n) hk;have m2:(if (300:Int)<(if n<0 then 0 else n) then (300:Int) else (if n<0 then 0 else n))=(Zar n:Int):=by unfold Zar;split<;>split at *<;>omega
 generalize Zar n=k at *
 rw[show l263_0=l2263_0 from rfl]at h;unfold Zjs at h;simp only[Yde,zb5,Yae,Yeb,Yo]at h;have m3:(k:Int)≤4294967296:=by omega
 have hz:wkL (List.replicate k [AV.b false,.sl [] .nl,.sl [] .nl])=List.replicate k [AV.b false,.sl [] .an,.sl [] .an]:=by rw[zbq,Ycs];simp[wkR,wkA]
 rw[zah Za6.h2263 rfl,b2263];simp -implicitDefEqProofs[mm2,m2,m3,h,hz]
def Zcl(n i:Int):List Rat:=if 0≤i∧i<Zar n then (List.replicate (Zar n) 0).set i.toNat 1 else List.replicate (Zar n) 0
theorem zel(n i:Int):Zb T 264 [.i .i64 n,.i .i64 i]=some (.sl (Zd (fzs (Zcl n i))) .an):=by
 have hz:=zck (T:=T) n;have c:=zp7 (T:=T);have hk:=zne n;unfold Zcl;generalize Zar n=k at *
 rw[zaa Za6.h264 rfl,b264];by_cases h1:0≤i∧i<(k:Int)
 ·rw[if_pos h1];obtain⟨j,rfl⟩:∃j:Nat,i=j:=⟨i.toNat,by omega⟩;have hj:j<k:=by omega
  have e:fzs ((List.replicate k (0:Rat)).set j 1)=(List.replicate k (fz 0)).set j (fz 1):=by
   rw[←z3t];simp[fzs]
  rw[Yag,e];have hset:=zz4 (List.replicate k (fz 0)) j (fz 1);have hl:(List.replicate k (fz 0)).length=k:=by simp
  have hl2:((List.replicate k (fz 0)).set j (fz 1)).length=k:=by simp
  have hg:(List.replicate k (fz 0))[j]? = some (fz 0):=by rw[Ych,if_pos hj]
  have ht:List.take k ((List.replicate k (fz 0)).set j (fz 1))=(List.replicate k (fz 0)).set j (fz 1):=Yb (by omega);have p1:(0:Int)≤j:=by omega
  have p2:(j:Int)<k:=by omega
  clear e;generalize fz 1=O at *
  generalize List.replicate k (fz 0)=Z at *
  obtain⟨_,hgE⟩:=Yd.1 hg;simp -implicitDefEqProofs[hz,c,p1,p2,hj,hset,hl,hl2,hg,hgE,ht]
 ·rw[if_neg h1];have e:fzs (List.replicate k (0:Rat))=List.replicate k (fz 0):=by simp[fzs]
  rw[e];have hl:(List.replicate k (fz 0)).length=k:=by simp
  have ht:List.take k (List.replicate k (fz 0))=List.replicate k (fz 0):=Yb (by omega);clear e;generalize List.replicate k (fz 0)=Z at *
  by_cases h2:0≤i
  ·have h3:¬ i<(k:Int):=fun h=>h1 ⟨h2,h⟩;simp -implicitDefEqProofs[hz,h2,h3,hl,ht]
  ·simp -implicitDefEqProofs[hz,h2,hl,ht]
end
section
variable{T:Tbl}[Zai T][Za5 T][Zak T][Zbf T][Zac T][Zbk T][Zae T][Zav T]
def Znu(n:Int)(i:Nat):St:=⟨[(0,.i .i64 n),(3,.bs (.loc 3) 1 3 0 i),(4,.i .i64 i)],[(.loc 3,⟨1,.own,3,Zd (List.replicate i (fz 0))⟩)],3⟩
end
theorem zig{m:List (List Fz)}{n:Nat}(h:m.length=n)(r:List Fz):wkL (Zu (List.take n m)++[[.sl (Zd r) .an]])=Zu (m++[r]):=by
 rw[Yb (by omega),znr,z4e]
theorem zih{α:Type}(l:List α){i:Nat}(h:i<l.length):l.take (i+1)=l.take i++[l[i]'h]:=Ybs h
section
variable{T:Tbl}[Zai T][Za5 T][Zak T][Zbf T][Zac T][Zbk T][Zae T][Zav T][Zb6 T][Zcz T]
theorem zp8(x:Fz):Zb T 248 [efz x]=some (efz x):=by
 rw[zaa Zb6.h248 rfl,b248];simp -implicitDefEqProofs
theorem zyr(x:Fz):Zb T 249 [efz x]=some (efz x):=by
 rw[zaa Zb6.h249 rfl,b249];simp -implicitDefEqProofs
theorem zys(x y:Fz)(hx:fsz x≤10000):Zb T 250 [efz x,efz y]=some (.b (decide (x=y))):=by
 have h1:=zyr (T:=T) x;have h2:=zj4 (T:=T) x y hx;rw[zaa Zb6.h250 rfl,b250];simp -implicitDefEqProofs[h1,h2]
def Zhd(l:List Fz)(i:Nat):St:=⟨[(0,.sl (Zd l) .an),(3,.bs (.loc 3) 1 3 0 i),(4,.i .i64 i)],[((.loc 3),⟨1,.own,3,Zd (l.take i)⟩)],3⟩
theorem zvf(l:List Fz)(hl:l.length≤4294967296) :
  Zn T 0 0 (.norm false [3]) l287_0 (Zhd l 0)=some (.n,⟨[(3,.bs (.loc 3) 1 3 0 (l.length))],[((.loc 3),⟨1,.own,3,Zd (l.take (l.length))⟩)],3⟩):=by
 refine za0 (Zhd l) (l.length) _ (fun i hi=>?_) ?_
 ·have hws:=zbs hi (by omega);have hb:i≤4294967295:=by omega
  have hg:l[i]? = some (l[i]'hi):=Ya hi;have hn:=zp8 (T:=T) (l[i]'hi);have e:=zih l hi;have hml:(l.take i).length=i:=by simp;omega
  have hp:=zcj hml (l[i]'hi);unfold Zhd;rw[e];clear e;generalize l.take i=M at *
  simp -implicitDefEqProofs[l287_0,hi,hws,hb,hp,hml,hg,hn]
 ·unfold Zhd;rw[Yb (Yh _)];constructor<;>simp -implicitDefEqProofs[l287_0]
theorem zf5(l:List Fz)(hl:l.length≤4294967296):Zb T 287 [.sl (Zd l) .an]=some (.sl (Zd l) .an):=by
 have h:=zvf (T:=T) l hl;unfold Zhd at h;rw[Ycr,Yb (Yh _)]at h;simp only[zb5,Yo]at h;have ht:List.take l.length l=l:=Yb (Yh _);rw[zaa Zcz.h287 rfl,b287];simp -implicitDefEqProofs[h,ht]
def Zmw(l:List Fz)(i:Nat):St:=⟨[(0,.sl (Zd l) .an),(3,.bs (.loc 3) 1 3 0 i),(4,.i .i64 i)],[((.loc 3),⟨1,.own,3,Zd (l.take i)⟩)],3⟩
end
def Zan:List (List Fz)→Nat
 | []=>0
 | r::_=>r.length
def Zfk(m:List (List Fz)):Bool:=m.all fun r=>decide (r.length=Zan m)
theorem zrt{m:List (List Fz)}(h:Zfk m=true):∀r∈m,r.length=Zan m:=by
 intro r hr;simpa using Yk.1 h r hr
def Zej(m:List (List Fz))(j:Nat):List Fz:=m.map fun r=>r.getD j (false,[],[])
def Zcu(m:List (List Fz))(k:Nat):List (List Fz):=(List.range k).map fun j=>nrm (Zej m j)
def scM(r:List Fz)(m:List (List Fz)):List (List Fz):=List.zipWith (fun x row=>scl (fv x) row) r m
def Zmt:List (List Fz)→List Rat
 | []=>[]
 | r::m=>m.foldl Zju (r.map fv)
def Zma(r:List Fz)(m:List (List Fz)):List Rat:=Zmt (scM r m)
def Zl0(m:List (List Fz))(c:List Fz):List Rat:=m.map fun r=>Zah r c
section
variable{T:Tbl}[Zs T][Zw T][Zx T][Zt T][Zv T][Zau T][Zf T][Zl T][Zq T][Zax T][Za6 T][Zct T]
theorem zj0(m:List (List Fz)):Zb T 290 [.sl (Zu m) .an]=some (.i .i64 (Zan m)):=by
 rw[zaa Zct.h290 rfl,b290];cases m with
 | nil=>simp -implicitDefEqProofs[Zan]
 | cons r m=>
  have e1:(Zu (r::m))[0]? = some [.sl (Zd r) .an]:=rfl;have e2:(Zu (r::m)).length=m.length+1:=by simp
  have e3:¬ (m.length:Int)+1=0:=by omega
  unfold Zan;generalize Zu (r::m)=R at *
  obtain⟨_,e4⟩:=Yd.1 e1;simp -implicitDefEqProofs[e1,e2,e3,e4]
def Zh1(m:List (List Fz))(i:Nat):St:=⟨[(0,.sl (Zu m) .an),(5,.sl (Zu m) .an),(6,.i .i64 m.length),(7,.i .i64 i)],[],2⟩
theorem zoo(m:List (List Fz))(hl:m.length≤1000000) :
  Zn T 0 0 (.norm false []) l291_0 (Zh1 m 0)=if (m.drop 0).all (fun r=>decide (r.length=Zan m))=true then some (.n,⟨[],[],2⟩) else some (.r,⟨[(2,.b false)],[],2⟩):=by
 refine zbd (Zh1 m) m.length (fun i=>if (m.drop i).all (fun r=>decide (r.length=Zan m))=true then some (.n,⟨[],[],2⟩) else some (.r,⟨[(2,.b false)],[],2⟩)) (fun i hi=>?_) ?_
 ·have hg:m[i]? = some (m[i]'hi):=Ya hi;have hws:=zbs hi (by omega);have hc:=zj0 (T:=T) m;have key:(m.drop i).all (fun r=>decide (r.length=Zan m))=(decide ((m[i]'hi).length=Zan m)&&(m.drop (i+1)).all fun r=>decide (r.length=Zan m)):=by
   rw[Yf hi,Yb1]
  by_cases he:(m[i]'hi).length=Zan m
  ·left;refine⟨?_,by simp only[key,decide_eq_true he,Ybd]⟩;have he':((m[i]'hi).length:Int)=Zan m:=by omega
   unfold Zh1;clear key;simp -implicitDefEqProofs[l291_0,hi,hg,hws,hc,he,he']
  ·right;rw[if_neg (by rw[key,decide_eq_false he];simp)];have he':¬ ((m[i]'hi).length:Int)=Zan m:=by omega
   unfold Zh1;clear key;constructor<;>simp -implicitDefEqProofs[l291_0,hi,hg,hws,hc,he,he']
 ·rw[Yaf,if_pos (by simp)];unfold Zh1;constructor<;>simp -implicitDefEqProofs[l291_0]
theorem zru(m:List (List Fz))(hl:m.length≤1000000):Zb T 291 [.sl (Zu m) .an]=some (.b (Zfk m)):=by
 have h:=zoo (T:=T) m hl;rw[Yar]at h;unfold Zh1 at h;simp only[Yo]at h;rw[zaa Zct.h291 rfl,b291];unfold Zfk;cases hc:m.all fun r=>decide (r.length=Zan m) with
 | true=>
  rw[hc,if_pos rfl]at h;simp -implicitDefEqProofs[h]
 | false=>
  rw[hc,if_neg (by decide)]at h;simp -implicitDefEqProofs[h]
def Zh2(a b:List (List Fz))(i:Nat):St:=⟨[(1,.sl (Zu b) .an),(12,.sl (Zu a) .an),(13,.i .i64 a.length),(14,.i .i64 i)],[],2⟩
theorem zrv(a b:List (List Fz))(hab:a.length=b.length)(hl:a.length≤1000)(hr:∀r∈a,r.length≤1000)(ha:∀r∈a,∀x∈r,fsz x≤1000)(hb:∀r∈b,∀x∈r,fsz x≤1000) :
  Zn T 0 0 (.norm false []) l293_0 (Zh2 a b 0)=if (a.drop 0).map (·.map fv)=(b.drop 0).map (·.map fv) then some (.n,⟨[],[],2⟩) else some (.r,⟨[(4,.b false)],[],2⟩):=by
 refine zbd (Zh2 a b) a.length (fun i=>if (a.drop i).map (·.map fv)=(b.drop i).map (·.map fv) then some (.n,⟨[],[],2⟩) else some (.r,⟨[(4,.b false)],[],2⟩)) (fun i hi=>?_) ?_
 ·have hga:a[i]? = some (a[i]'hi):=Ya hi;have hib:i<b.length:=by omega
  have hgb:b[i]? = some (b[i]'hib):=Ya hib;have hws:=zbs hi (by omega);have c:=zqf (T:=T) (a[i]'hi) (b[i]'hib) (hr _ (Yn hi)) (ha _ (Yn hi)) (hb _ (Yn hib));have hib':(i:Int)<b.length:=by omega
  have key:((a.drop i).map (·.map fv)=(b.drop i).map (·.map fv))↔((a[i]'hi).map fv=(b[i]'hib).map fv∧(a.drop (i+1)).map (·.map fv)=(b.drop (i+1)).map (·.map fv)):=by
   rw[Yf hi,Yf hib,Y1,Y1,List.cons.injEq]
  by_cases he:(a[i]'hi).map fv=(b[i]'hib).map fv
  ·left;refine⟨?_,by simp only[key,he,true_and]⟩;rw[decide_eq_true he]at c;unfold Zh2;clear key he ha hb hr;simp -implicitDefEqProofs[l293_0,hi,hga,hgb,hws,c,hib,hib']
  ·right;rw[if_neg (fun h=>he (key.1 h).1)];rw[decide_eq_false he]at c;unfold Zh2;clear key he ha hb hr;constructor<;>simp -implicitDefEqProofs[l293_0,hi,hga,hgb,hws,c,hib,hib']
 ·rw[Yaf,if_pos (by rw[hab,Yaf])];unfold Zh2;constructor<;>simp -implicitDefEqProofs[l293_0]
theorem zmt(a b:List (List Fz))(hl:a.length≤1000)(hr:∀r∈a,r.length≤1000)(ha:∀r∈a,∀x∈r,fsz x≤1000)(hb:∀r∈b,∀x∈r,fsz x≤1000) :
  Zb T 293 [.sl (Zu a) .an,.sl (Zu b) .an]=some (.b (decide (a.map (·.map fv)=b.map (·.map fv)))):=by
 rw[zaa Zct.h293 rfl,b293];by_cases hab:a.length=b.length
 ·have h:=zrv (T:=T) a b hab hl hr ha hb;rw[Yar,Yar]at h;unfold Zh2 at h;simp only[Yo]at h;have hab':(b.length:Int)=a.length:=by omega
  by_cases he:a.map (·.map fv)=b.map (·.map fv)
  ·rw[if_pos he]at h;simp -implicitDefEqProofs[hab',h,he]
  ·rw[if_neg he]at h;simp -implicitDefEqProofs[hab',h,he]
 ·have he:¬ a.map (·.map fv)=b.map (·.map fv):=fun h=>hab (by simpa using congrArg List.length h);have hab':¬ (a.length:Int)=b.length:=by omega
  simp -implicitDefEqProofs[hab,hab',he]
def idQ(k:Nat)(i:Nat):List (List Fz):=(List.range i).map fun j=>fzs ((List.replicate k 0).set j 1)
def Zne(k:Nat)(i:Nat):St:=⟨[(0,.i .i64 k),(3,.bs (.loc 3) 1 1 0 i),(8,.i .i64 k),(9,.i .i64 i)],[((.loc 3),⟨1,.own,1,Zu (idQ k i)⟩)],3⟩
theorem zvb(m:List (List Fz))(j:Nat){i:Nat}(hi:i<m.length)(hj:j<(m[i]'hi).length):nrm (Zej (m.take (i+1)) j)=nrm (Zej (m.take i) j)++[fz (fv ((m[i]'hi)[j]'hj))]:=by
 unfold nrm Zej;rw[zih m hi,Yce,Yce];simp[List.getD,Ya hj]
theorem zrw(m:List (List Fz))(j:Nat):Zcu m (j+1)=Zcu m j++[nrm (Zej m j)]:=by unfold Zcu;rw[List.range_succ,Yce];rfl
def Zis(m R:List (List Fz))(k j:Nat)(i:Nat):St:=⟨[(0,.sl (Zu m) .an),(3,.bs (.loc 3) 1 1 0 j),(4,.i .i64 j),(5,.bs (.loc 5) 2 3 0 i),(12,.i .i64 k),(13,.i .i64 j),(16,.sl (Zu m) .an),(17,.i .i64 m.length),(18,.i .i64 i)],[(.loc 3,⟨1,.own,1,Zu R⟩),((.loc 5),⟨2,.own,3,Zd (nrm (Zej (m.take i) j))⟩)],4⟩
theorem z2z(m R:List (List Fz))(k j:Nat)(hl:m.length≤1000)(hw:∀r∈m,j<r.length)(hs:∀r∈m,∀x∈r,fsz x≤1000) :
  Zn T 0 2 (.norm false [0,3,5,12,13]) l294_0 (Zis m R k j 0)=some (.n,⟨[(0,.sl (Zu m) .an),(3,.bs (.loc 3) 1 1 0 j),(5,.bs (.loc 5) 2 3 0 m.length),(12,.i .i64 k),(13,.i .i64 j)],[(.loc 3,⟨1,.own,1,Zu R⟩),(.loc 5,⟨2,.own,3,Zd (nrm (Zej m j))⟩)],4⟩):=by
 refine za0 (Zis m R k j) (m.length) _ (fun i hi=>?_) ?_
 ·have hws:=zbs hi (by omega);have hb:i≤4294967295:=by omega
  have hg:m[i]? = some (m[i]'hi):=Ya hi;have hj:=hw _ (Yn hi);have hgj:(m[i]'hi)[j]? = some ((m[i]'hi)[j]'hj):=Ya hj;have hj':(j:Int)<(m[i]'hi).length:=by omega
  have hn:=zci (T:=T) ((m[i]'hi)[j]'hj) (Yc (hs _ (Yn hi) _ (Yn hj)) (by decide));have e:=zvb m j hi hj;have hml:(nrm (Zej (m.take i) j)).length=i:=by simp[nrm,Zej];omega
  have hp:=zcj hml (fz (fv ((m[i]'hi)[j]'hj)));unfold Zis;rw[e];clear e;generalize nrm (Zej (m.take i) j)=M at *
  generalize fz (fv ((m[i]'hi)[j]'hj))=z at *
  clear hw hs;simp -implicitDefEqProofs[l294_0,hi,hws,hb,hp,hml,hg,hj,hj',hgj,hn]
 ·unfold Zis;rw[Yb (Yh m.length)];generalize nrm (Zej m j)=M;constructor<;>simp -implicitDefEqProofs[l294_0]
def Zfu(m:List (List Fz))(k:Nat)(i:Nat):St:=⟨[(0,.sl (Zu m) .an),(3,.bs (.loc 3) 1 1 0 i),(12,.i .i64 k),(13,.i .i64 i)],[((.loc 3),⟨1,.own,1,Zu (Zcu m i)⟩)],3⟩
theorem zrx(m:List (List Fz))(k:Nat)(hk:k≤1000)(hl:m.length≤1000)(hw:∀r∈m,k≤r.length)(hs:∀r∈m,∀x∈r,fsz x≤1000) :
  Zn T 0 0 (.norm false [3]) l294_1 (Zfu m k 0)=some (.n,⟨[(3,.bs (.loc 3) 1 1 0 (k))],[((.loc 3),⟨1,.own,1,Zu (Zcu m (k))⟩)],3⟩):=by
 refine za0 (Zfu m k) (k) _ (fun i hi=>?_) ?_
 ·have hws:=zbs hi (by omega);have hb:i≤4294967295:=by omega
  have hin:=z2z (T:=T) m (Zcu m i) k i hl (fun r hr=>by have:=hw r hr;omega) hs;have e:=zrw m i;have hml:(Zcu m i).length=i:=by simp[Zcu]
  have hp:=zig hml (nrm (Zej m i));have hcl:(nrm (Zej m i)).length=m.length:=by simp[nrm,Zej]
  have ht:List.take m.length (nrm (Zej m i))=nrm (Zej m i):=Yb (by omega);unfold Zis at hin;rw[show nrm (Zej (m.take 0) i)=[] from rfl]at hin;simp only[zb5,Yo]at hin;unfold Zfu;rw[e];clear e;generalize Zcu m i=M at *
  generalize nrm (Zej m i)=w at *
  clear hw hs;simp -implicitDefEqProofs[l294_1,hi,hws,hb,hp,hml,hin,hcl,ht]
 ·unfold Zfu;constructor<;>simp -implicitDefEqProofs[l294_1]
theorem zvc(m:List (List Fz))(hl:m.length≤1000)(hk:Zan m≤1000)(hs:∀r∈m,∀x∈r,fsz x≤1000):Zb T 294 [.sl (Zu m) .an]=some (.sl (Zu (if Zfk m then Zcu m (Zan m) else [])) .an):=by
 have hr:=zru (T:=T) m (by omega);have hwd:=zj0 (T:=T) m;rw[zaa Zct.h294 rfl,b294];cases hc:Zfk m with
 | false=>
  rw[hc]at hr;simp -implicitDefEqProofs[hr]
 | true=>
  rw[hc]at hr;have h:=zrx (T:=T) m (Zan m) hk hl (fun r hr=>by rw[zrt hc r hr];exact Yh _) hs;unfold Zfu at h;rw[show Zcu m 0=[] from rfl]at h;simp only[zgf,Yo]at h;have hml:(Zcu m (Zan m)).length=Zan m:=by simp[Zcu]
  have ht:List.take (Zan m) (Zcu m (Zan m))=Zcu m (Zan m):=Yb (by omega);rw[if_pos rfl];generalize Zcu m (Zan m)=M at *
  generalize Zan m=k at *
  simp -implicitDefEqProofs[hr,hwd,h,ht,hml]
end
section
variable{T:Tbl}[Zs T][Zw T][Zx T][Zt T][Zv T][Zau T][Zf T][Zl T][Zq T][Zax T][Za6 T][Zct T]
def Znf(r:List Fz)(m:List (List Fz))(i:Nat):St:=⟨[(0,.sl (Zd r) .an),(6,.bs (.loc 6) 1 1 0 i),(19,.sl (Zu m) .an),(20,.i .i64 m.length),(21,.i .i64 i)],[((.loc 6),⟨1,.own,1,Zu (scM (r.take i) (m.take i))⟩)],3⟩
def Zng(m:List (List Fz))(c:List Fz)(i:Nat):St:=⟨[(1,.sl (Zd c) .an),(6,.bs (.loc 6) 1 3 0 i),(21,.sl (Zu m) .an),(22,.i .i64 m.length),(23,.i .i64 i)],[((.loc 6),⟨1,.own,3,Zd (fzs (Zl0 (m.take i) c))⟩)],3⟩
def Zmu(a b:List (List Fz)):List (List Fz):=a.map fun r=>fzs (Zma r b)
def Znh(a m:List (List Fz))(i:Nat):St:=⟨[(1,.sl (Zu m) .an),(6,.bs (.loc 6) 1 1 0 i),(26,.sl (Zu a) .an),(27,.i .i64 a.length),(28,.i .i64 i)],[((.loc 6),⟨1,.own,1,Zu (Zmu (a.take i) m)⟩)],3⟩
def Zmv(a b:List (List Fz)):List (List Fz):=List.zipWith (fun r s=>fzs (Zju (r.map fv) s)) a b
def Zni(a m:List (List Fz))(i:Nat):St:=⟨[(1,.sl (Zu m) .an),(6,.bs (.loc 6) 1 1 0 i),(33,.sl (Zu a) .an),(34,.i .i64 a.length),(35,.i .i64 i)],[((.loc 6),⟨1,.own,1,Zu (Zmv (a.take i) (m.take i))⟩)],3⟩
end
def Zhk:List Rat→List Rat→Rat
 | x::a,y::b=>x*y+Zhk a b
 | _,_=>0
theorem z09:∀(a b:List Fz),Zah a b=Zhk (a.map fv) (b.map fv)
 | [],_=>by simp[Zah,Zhk]
 | _::_,[]=>by simp[Zah,Zhk]
 | x::a,y::b=>by simp[Zah,Zhk,z09 a b]
def Zbr(m:List (List Fz)):List (List Rat):=m.map fun r=>r.map fv
def fzM(L:List (List Rat)):List (List Fz):=L.map fzs
@[simp] theorem z58(L:List (List Rat)):(fzM L).length=L.length:=by simp[fzM]
@[simp] theorem z4g(m:List (List Fz)):(Zbr m).length=m.length:=by simp[Zbr]
@[simp] theorem zqu(L:List (List Rat)):Zbr (fzM L)=L:=by
 unfold Zbr fzM;rw[Yb2];simp[Function.comp_def]
theorem zqv(m:List (List Fz)):fzM (Zbr m)=m.map nrm:=by
 unfold Zbr fzM;rw[Yb2];exact Ycj fun r _=>(zo2 r).symm
def Zk2:List (List Rat)→Nat
 | []=>0
 | r::_=>r.length
def Zm8(L:List (List Rat)):Bool:=L.all fun r=>decide (r.length=Zk2 L)
def Zl1(L:List (List Rat))(j:Nat):List Rat:=L.map fun p=>p.getD j 0
def Zmg(L:List (List Rat)):List (List Rat):=(List.range (Zk2 L)).map (Zl1 L)
def Zk3(L:List (List Rat))(c:List Rat):List Rat:=L.map fun p=>Zhk p c
def Znw(r:List Rat)(L:List (List Rat)):List Rat:=Zk3 (Zmg L) r
def Zl9(q:Rat):Rat:=if q<0 then -q else q
def Zml(c:Rat)(l:List Rat):List Rat:=l.map fun x=>c*x
def Zm9(a b:List Rat):List Rat:=List.zipWith (· + ·) a b
def Zll(b x:Rat):Rat:=if b<Zl9 x then Zl9 x else b
def Zlw(l:List Rat):Rat:=l.foldl Zll 0
def Zna:List (Rat×List Rat)→List Rat→List Rat
 | [],acc=>acc
 | p::l,acc=>Zna l (Zm9 acc (Zml p.1 p.2))
def sqC:List UInt32→Nat
 | []=>0
 | x::r=>4294967296*(x.toNat*val r)+4294967296*4294967296*sqC r
def sqD:List UInt32→Nat
 | []=>0
 | x::r=>x.toNat*x.toNat+4294967296*4294967296*sqD r
section
variable{T:Tbl}[Z7 T][Zs T][Zw T][Zx T][Zbz T]
theorem zhh(a:List UInt32)(ha:a.length≤1000000):Zb T 356 [.sl (Za a) .an]=some (.i .i64 (Za1 (val a))):=by
 have h1:=zbw (T:=T) a (by omega);have hl:=zac a;have hv:val (ofN (val a))=val a:=zae _;rw[zaa Zbz.h356 rfl,b356];by_cases h0:val a=0
 ·have e:ofN (val a)=[]:=zau.2 h0;have eb:Za1 (val a)=0:=by rw[h0];rfl
  rw[e]at h1;rw[eb];simp -implicitDefEqProofs[h1]
 ·have hne:ofN (val a)≠[]:=fun h=>h0 (zau.1 h);obtain⟨B,x,hB⟩:∃B x,ofN (val a)=B++[x]:=⟨_,_,(List.dropLast_concat_getLast hne).symm⟩;have hx0:x.toNat≠0:=by
   intro hx;have e1:val (ofN (val a))=val B:=by
    rw[hB,zaj];simp[hx]
   have e2:ofN (val B)=ofN (val a):=by rw[←e1,zae]
   have e3:=zac B;rw[e2,hB]at e3;simp at e3;omega
  have hlog:Za1 (val a)=32*B.length+Za1 x.toNat:=by
   have hdiv:val a/2^(32*B.length)=x.toNat:=by
    have e1:val a=val B+4294967296^B.length*x.toNat:=by
     rw[←hv,hB,zaj];simp
    have e2:2^(32*B.length)=4294967296^B.length:=by
     rw[Ydo]
    have e3:=zay B;rw[e2,e1,Yb0 _ _ (by omega),Ybc e3,Yaj]
   have:=zj1 (n:=val a) (s:=32*B.length) (by rw[hdiv];exact hx0);rw[hdiv]at this;exact this
  have hbl:B.length+1≤1000000:=by
   have:=congrArg List.length hB;simp at this;omega
  have hL:=zqb (T:=T) x;have hb32:Za1 x.toNat≤32:=by
   have hx:=zam x;unfold Za1;split
   ·omega
   ·have:=(Yes (n:=x.toNat) (k:=32) (by assumption)).2 (by omega);omega
  rw[hB]at h1;rw[hlog];have w1:IntKind.wrap .i64 ((B.length:Int)+1-1)=(B.length:Int):=by
   rw[Int.add_sub_cancel];exact zad _ (by omega)
  have w2:IntKind.wrap .i64 (32*(B.length:Int))=32*(B.length:Int):=zad _ (by omega);have w3:IntKind.wrap .i64 (32*(B.length:Int)+(Za1 x.toNat:Int))=32*(B.length:Int)+(Za1 x.toNat:Int):=zad _ (by omega);have w4:IntKind.wrap .i64 (B.length:Int)=B.length:=zad _ (by omega);have n1:¬ (B.length:Int)+1=0:=by omega
  have n2:(B.length:Int)<(B.length:Int)+1:=by omega
  clear hlog hB hne hb32;simp -implicitDefEqProofs[h1,hL,w1,w2,w3,w4,n1,n2]
def Znn(a X:List UInt32)(i:Nat):St:=
 ⟨[(0,.sl (Za a) .an),(3,.bs (.loc 14) 1 1 0 (2*a.length+1)),(15,.sl (Za a) .an),(16,.i .i64 a.length),(17,.i .i64 i)],[(.loc 14,⟨1,.own,1,Za (X++List.replicate (a.length+1-i) 0)⟩)],3⟩
def Zno(a X:List UInt32)(U:List (List AV))(i:Nat):St:=
 ⟨[(6,.sl U .an),(7,.bs (.loc 38) 1 1 0 (2*a.length)),(39,.sl (Za a) .an),(40,.i .i64 a.length),(41,.i .i64 i)],[(.loc 38,⟨1,.own,1,Za (X++List.replicate (2*a.length-2*i) 0)⟩)],3⟩
end
section
variable{T:Tbl}[Zai T][Za5 T][Zak T][Zbf T][Zac T][Zbk T][Zae T][Zav T][Zcp T]
def Znr(m:List (List Fz))(i:Nat):St:=⟨[(0,.sl (Zu m) .an),(3,.i .i64 i)],[],2⟩
def Ziw(m:List (List Fz))(i:Nat):St:=⟨[(0,.sl (Zu m) .an),(3,.bs (.loc 3) 1 1 0 i),(4,.i .i64 i)],[((.loc 3),⟨1,.own,1,Zu (fzM (Zbr (m.take i)))⟩)],3⟩
theorem zzj(m:List (List Fz))(hl:m.length≤1000)(hw:∀r∈m,r.length≤1000)(hs:∀r∈m,∀x∈r,fsz x≤1000) :
  Zn T 0 0 (.norm false [3]) l301_0 (Ziw m 0)=some (.n,⟨[(3,.bs (.loc 3) 1 1 0 m.length)],[(.loc 3,⟨1,.own,1,Zu (fzM (Zbr m))⟩)],3⟩):=by
 refine za0 (Ziw m) (m.length) _ (fun i hi=>?_) ?_
 ·have hws:=zbs hi (by omega);have hb:i≤4294967295:=by omega
  have hg:m[i]? = some (m[i]'hi):=Ya hi;have hn:=zb1 (T:=T) (m[i]'hi) (hw _ (Yn hi)) (hs _ (Yn hi));have e:fzM (Zbr (m.take (i+1)))=fzM (Zbr (m.take i))++[nrm (m[i]'hi)]:=by rw[zqv,zqv];exact zbj m _ hi
  have hml:(fzM (Zbr (m.take i))).length=i:=by simp;omega
  have hp:=zig hml (nrm (m[i]'hi));unfold Ziw;rw[e];clear e;generalize fzM (Zbr (m.take i))=M at *
  generalize nrm (m[i]'hi)=w at *
  clear hw hs;simp -implicitDefEqProofs[l301_0,hi,hws,hb,hp,hml,hg,hn]
 ·unfold Ziw;rw[Yb (Yh m.length)];generalize fzM (Zbr m)=M;constructor<;>simp -implicitDefEqProofs[l301_0]
theorem zd2(m:List (List Fz))(hl:m.length≤1000)(hw:∀r∈m,r.length≤1000)(hs:∀r∈m,∀x∈r,fsz x≤1000):Zb T 301 [.sl (Zu m) .an]=some (.sl (Zu (fzM (Zbr m))) .an):=by
 have h:=zzj (T:=T) m hl hw hs;unfold Ziw at h;rw[show fzM (Zbr (m.take 0))=[] from rfl]at h;simp only[zgf,Yo]at h;have hml:(fzM (Zbr m)).length=m.length:=by simp
 have ht:List.take m.length (fzM (Zbr m))=fzM (Zbr m):=Yb (by omega);rw[zaa Zcp.h301 rfl,b301];generalize fzM (Zbr m)=M at *
 simp -implicitDefEqProofs[h,ht,hml]
def Zh3(a b:List (List Fz))(i:Nat):St:=⟨[(0,.sl (Zu a) .an),(1,.sl (Zu b) .an),(5,.i .i64 i)],[],2⟩
theorem zoy(a b:List (List Fz))(hab:a.length=b.length)(hl:a.length≤1000)(hw:∀r∈a,r.length≤1000)(ha:∀r∈a,∀x∈r,fsz x≤10000) :
  Zn T 0 0 (.norm false []) l302_0 (Zh3 a b 0)=if a.drop 0=b.drop 0 then some (.n,⟨[],[],2⟩) else some (.r,⟨[(4,.b false)],[],2⟩):=by
 refine zbd (Zh3 a b) a.length (fun i=>if a.drop i=b.drop i then some (.n,⟨[],[],2⟩) else some (.r,⟨[(4,.b false)],[],2⟩)) (fun i hi=>?_) ?_
 ·have hga:a[i]? = some (a[i]'hi):=Ya hi;have hib:i<b.length:=by omega
  have hgb:b[i]? = some (b[i]'hib):=Ya hib;have hws:=zbs hi (by omega);have c:=zj6 (T:=T) (a[i]'hi) (b[i]'hib) (hw _ (Yn hi)) (ha _ (Yn hi));have hib':(i:Int)<b.length:=by omega
  have key:(a.drop i=b.drop i)↔((a[i]'hi)=(b[i]'hib)∧a.drop (i+1)=b.drop (i+1)):=by
   rw[Yf hi,Yf hib,List.cons.injEq]
  by_cases he:(a[i]'hi)=(b[i]'hib)
  ·left;refine⟨?_,by simp only[key,he,true_and]⟩;unfold Zh3;rw[decide_eq_true he]at c;clear he key ha hw;simp -implicitDefEqProofs[l302_0,hi,hga,hgb,hws,c,hib,hib']
  ·right;rw[if_neg (fun h=>he (key.1 h).1)];unfold Zh3;rw[decide_eq_false he]at c;clear he key ha hw;constructor<;>simp -implicitDefEqProofs[l302_0,hi,hga,hgb,hws,c,hib,hib']
 ·rw[Yaf,if_pos (by rw[hab,Yaf])];unfold Zh3;constructor<;>simp -implicitDefEqProofs[l302_0]
theorem zj7(a b:List (List Fz))(hl:a.length≤1000)(hw:∀r∈a,r.length≤1000)(ha:∀r∈a,∀x∈r,fsz x≤10000):Zb T 302 [.sl (Zu a) .an,.sl (Zu b) .an]=some (.b (decide (a=b))):=by
 rw[zaa Zcp.h302 rfl,b302];by_cases hab:a.length=b.length
 ·have h:=zoy (T:=T) a b hab hl hw ha;rw[Yar,Yar]at h;unfold Zh3 at h;simp only[Yo]at h;have hab':(b.length:Int)=a.length:=by omega
  by_cases he:a=b
  ·subst he;rw[if_pos rfl]at h;simp -implicitDefEqProofs[h]
  ·rw[if_neg he]at h;simp -implicitDefEqProofs[hab',h,he]
 ·have he:¬ a=b:=fun h=>hab (by rw[h]);have hab':¬ (a.length:Int)=b.length:=by omega
  simp -implicitDefEqProofs[hab,hab',he]
def Zns(n:Int)(k:Nat)(i:Nat):St:=⟨[(0,.i .i64 n),(3,.bs (.loc 3) 1 1 0 i),(4,.i .i64 i)],[((.loc 3),⟨1,.own,1,Zu (idQ k i)⟩)],3⟩
def Zm2(L:List (List Rat))(R:List (List Fz))(j:Nat)(i:Nat):St:=⟨[(0,.sl (Zu (fzM L)) .an),(3,.bs (.loc 3) 1 1 0 j),(4,.i .i64 j),(5,.bs (.loc 5) 2 3 0 i),(6,.i .i64 i)],[(.loc 3,⟨1,.own,1,Zu R⟩),((.loc 5),⟨2,.own,3,Zd (fzs (Zl1 (L.take i) j))⟩)],4⟩
def Zm3(L:List (List Rat))(i:Nat):St:=⟨[(0,.sl (Zu (fzM L)) .an),(3,.bs (.loc 3) 1 1 0 i),(4,.i .i64 i)],[((.loc 3),⟨1,.own,1,Zu (fzM ((List.range i).map (Zl1 L)))⟩)],3⟩
def Znt(L:List (List Rat))(c:List Rat)(i:Nat):St:=⟨[(0,.sl (Zu (fzM L)) .an),(1,.sl (Zd (fzs c)) .an),(5,.bs (.loc 5) 1 3 0 i),(6,.i .i64 i)],[((.loc 5),⟨1,.own,3,Zd (fzs (Zk3 (L.take i) c))⟩)],3⟩
def Zc9(m:List (List Fz))(many words:Nat):Bool:=decide (many<m.length) || m.any fun r=>Zbp r many words
def Zhg(m:List (List Fz))(many words:Nat)(i:Nat):St:=⟨[(0,.sl (Zu m) .an),(1,.i .i64 many),(2,.i .i64 words),(7,.i .i64 i)],[],2⟩
theorem zoz(m:List (List Fz))(many words:Nat)(hm:many≤1000):∃r,(r=some (.r,(⟨[(6,.b true)],[],2⟩:St))∧(m.any fun r=>Zbp r many words)=true∨r=some (.n,⟨[(0,.sl (Zu m) .an),(1,.i .i64 many)],[],2⟩)∧((m.any fun r=>Zbp r many words)=false∨many<m.length)) ∧
  Zn T 0 0 (.norm false [0,1]) l307_0 (Zhg m many words 0)=r:=by
 obtain⟨G,hG⟩:∃G:Nat→Option (Ex×St),G=fun i=>if ((m.take many).drop i).any (fun r=>Zbp r many words)=true then some (.r,⟨[(6,.b true)],[],2⟩) else some (.n,⟨[(0,.sl (Zu m) .an),(1,.i .i64 many)],[],2⟩):=⟨_,rfl⟩
 refine⟨G 0,?_,zbd (Zhg m many words) (min many m.length) G (fun i hi=>?_) ?_⟩
 ·rw[hG];simp only[Yar];split
  ·rename_i h;refine .inl ⟨rfl,?_⟩;obtain⟨x,hx,hx2⟩:=Yeu.1 h;exact Yeu.2 ⟨x,Ybr hx,hx2⟩
  ·rename_i h;refine .inr ⟨rfl,?_⟩;by_cases hl:many<m.length
   ·exact .inr hl
   ·left;rw[Yb (by omega)]at h;simpa using h
 ·have him:i<many:=by omega
  have hil:i<m.length:=by omega
  have hil':(i:Int)<m.length:=by omega
  have him':(i:Int)<many:=by omega
  have hga:m[i]? = some (m[i]'hil):=Ya hil;have hws:=zbs him (by omega);have c:=zc2 (T:=T) (m[i]'hil) many words hm;have key:((m.take many).drop i).any (fun r=>Zbp r many words)=(Zbp (m[i]'hil) many words || ((m.take many).drop (i+1)).any fun r=>Zbp r many words):=by
   rw[Yf (show i<(m.take many).length by simp;omega),Yfd,List.getElem_take]
  cases he:Zbp (m[i]'hil) many words with
  | true=>
   right;rw[hG];simp only;rw[if_pos (by rw[key,he,Yef])];rw[he]at c;unfold Zhg;clear key he hG;constructor<;>simp -implicitDefEqProofs[l307_0,him,him',hil,hil',hga,hws,c]
  | false=>
   left;refine⟨?_,by rw[hG];simp only[key,he,Yfe]⟩;rw[he]at c;unfold Zhg;clear key he hG;simp -implicitDefEqProofs[l307_0,him,him',hil,hil',hga,hws,c]
 ·rw[hG];simp only;rw[Yao (by simp;try omega),if_neg (by simp)];by_cases hl:many<m.length
  ·have h1:(many:Int)<m.length:=by omega
   rw[Yc0 (by omega)];unfold Zhg;constructor<;>simp -implicitDefEqProofs[l307_0,h1,hl]
  ·rw[Nat.min_eq_right (by omega)];unfold Zhg;constructor<;>simp -implicitDefEqProofs[l307_0]
theorem zey(m:List (List Fz))(many words:Nat)(hm:many≤1000):Zb T 307 [.sl (Zu m) .an,.i .i64 many,.i .i64 words]=some (.b (Zc9 m many words)):=by
 obtain⟨r,hr,h⟩:=zoz (T:=T) m many words hm;unfold Zhg at h;simp only[Yo]at h;unfold Zc9;rw[zaa Zcp.h307 rfl,b307];rcases hr with ⟨rfl,ha⟩ | ⟨rfl,ha⟩
 ·rw[ha,Bool.or_true];simp -implicitDefEqProofs[h]
 ·by_cases hl:many<m.length
  ·have h1:(many:Int)<m.length:=by omega
   rw[decide_eq_true hl,Yef];simp -implicitDefEqProofs[h,h1,hl]
  ·have h1:¬ (many:Int)<m.length:=by omega
   have hf:(m.any fun r=>Zbp r many words)=false:=ha.resolve_right hl;rw[hf,decide_eq_false hl];simp -implicitDefEqProofs[h,h1,hl]
theorem zd3{m:List (List Fz)}{many words:Nat}(h:Zc9 m many words=false):m.length≤many∧(∀r∈m,r.length≤many)∧∀r∈m,∀x∈r,fsz x≤words:=by
 unfold Zc9 at h;simp only[Yc6,decide_eq_false_iff_not,List.any_eq_false]at h;exact⟨by omega,fun r hr=>(zbt (by simpa using h.2 r hr)).1,fun r hr=>(zbt (by simpa using h.2 r hr)).2⟩
end
theorem z22{a b:List Rat}:fzs a=fzs b↔a=b:=⟨fun h=>by rw[←znd a,h,znd],fun h=>by rw[h]⟩
theorem z83{l:List Rat}{B:Nat}(h:∀q∈l,sz q≤B):∀x∈fzs l,fsz x≤B:=by
 intro x hx;obtain⟨q,hq,rfl⟩:=Y2.1 hx;exact h q hq
section
variable{T:Tbl}[Zs T][Zw T][Zx T][Zt T][Zv T][Zau T][Zf T][Zl T][Zq T][Zax T][Za6 T][Zct T][Zai T][Za5 T][Zak T][Zbf T][Zac T][Zbk T][Zae T][Zav T][Zcp T][Zb6 T][Zcz T][Zfi T]
def Zhe(m:List (List Fz))(i:Nat):St:=⟨[(0,.sl (Zu m) .an),(3,.bs (.loc 3) 1 1 0 i),(4,.i .i64 i)],[((.loc 3),⟨1,.own,1,Zu (m.take i)⟩)],3⟩
theorem zvg(m:List (List Fz))(hl:m.length≤1000000)(hw:∀r∈m,r.length≤1000000) :
  Zn T 0 0 (.norm false [3]) l308_0 (Zhe m 0)=some (.n,⟨[(3,.bs (.loc 3) 1 1 0 (m.length))],[((.loc 3),⟨1,.own,1,Zu (m.take (m.length))⟩)],3⟩):=by
 refine za0 (Zhe m) (m.length) _ (fun i hi=>?_) ?_
 ·have hws:=zbs hi (by omega);have hb:i≤4294967295:=by omega
  have hg:m[i]? = some (m[i]'hi):=Ya hi;have hn:=zf5 (T:=T) (m[i]'hi) (Yc (hw _ (Yn hi)) (by decide));have e:=zih m hi;have hml:(m.take i).length=i:=by simp;omega
  have hp:=zig hml (m[i]'hi);unfold Zhe;rw[e];clear e;clear hw;simp -implicitDefEqProofs[l308_0,hi,hws,hb,hp,hml,hg,hn]
 ·unfold Zhe;rw[Yb (Yh _)];constructor<;>simp -implicitDefEqProofs[l308_0]
theorem zhg(m:List (List Fz))(hl:m.length≤1000000)(hw:∀r∈m,r.length≤1000000):Zb T 308 [.sl (Zu m) .an]=some (.sl (Zu m) .an):=by
 have h:=zvg (T:=T) m hl hw;unfold Zhe at h;rw[Ycr,Yb (Yh _)]at h;simp only[zgf,Yo]at h;have ht:List.take m.length m=m:=Yb (Yh _);rw[zaa Zfi.h308 rfl,b308];clear hw;simp -implicitDefEqProofs[h,ht]
def Zmx(a b:List (List Fz))(i:Nat):St:=⟨[(0,.sl (Zu a) .an),(1,.sl (Zu b) .an),(5,.i .i64 i)],[],2⟩
theorem z84{q:Rat}(h1:q.num.natAbs<4294967296)(h2:q.den<4294967296):sz q≤1:=Ye5.2 ⟨zap (by simpa using h1),zap (by simpa using h2)⟩
theorem z0t:∀(a b:List Rat) {B:Nat},(∀x∈a,sz x≤B)→(∀x∈b,sz x≤B)→sz (Zhk a b)≤a.length*(2*B+1)+1
 | [],_,_,_,_=>by simp[Zhk,zb9]
 | _::_,[],_,_,_=>by simp[Zhk,zb9]
 | x::a,y::b,B,ha,hb=>by
  have ih:=z0t a b (fun x hx=>ha x (Ys _ hx)) (fun x hx=>hb x (Ys _ hx));have h1:=ha x Yaa;have h2:=hb y Yaa;have h3:=zbf x y;have h4:=zd7 (x*y) (Zhk a b);simp only[Zhk,Yy];rw[Ya9 a.length 1,Ycn];omega
end
class Zl3 (T:Tbl):Prop where
def Zmb(l:List Rat):Nat→Nat
 | 0=>0
 | n+1=>if l.getD n 0=0 then Zmb l n else n+1
def Znm(l:List Rat):List Rat:=l.take (Zmb l l.length)
theorem zvv(M:List Fz):Option.all (fun r:List AV=>decide (r.length=3)) (Zd M).head? = true:=by cases M<;>rfl
section
variable{T:Tbl}[Zs T][Zw T][Zx T][Zt T][Zv T][Zau T][Zf T][Zl T][Zq T][Zax T][Za6 T][Zl3 T]
def Zmz:List Rat→Rat→Rat
 | [],_=>0
 | a::l,x=>Zmz l x*x+a
def dif(l:List Rat):List Rat:=(List.range (l.length-1)).map fun(i:Nat)=>(((i:Int)+1:Int):Rat)*l.getD (i+1) 0
def Zoa(l:List Fz)(i:Nat):St:=⟨[(0,.sl (Zd l) .an),(3,.bs (.loc 3) 1 3 0 i),(4,.i .i64 ((i:Int)+1))],[((.loc 3),⟨1,.own,3,Zd (fzs ((dif (l.map fv)).take i))⟩)],3⟩
end
def Zbh(x:Fz):Nat:=Za1 (val x.2.1)+Za1 (val x.2.2)
def Zm5(l:List Fz):Nat:=l.foldl (fun n x=>max n (Zbh x)) 0
theorem zhi{x k:Nat}(h:(ofN x).length≤k):Za1 x≤32*k:=by
 unfold Za1;split
 ·omega
 ·next h0=>
  have h1:=zay (ofN x);rw[zae]at h1;have h2:4294967296^(ofN x).length≤4294967296^k:=Y0 (by decide) h;have h3:(4294967296:Nat)^k=2^(32*k):=by rw[Ydo]
  have:=(Yes (n:=x) (k:=32*k) h0).2 (by omega);omega
section
variable{T:Tbl}[Z7 T][Zs T][Zw T][Zx T][Zt T][Zv T][Zau T][Zf T][Zl T][Zq T][Zi7 T][Zab T][Zbz T][Zax T][Za6 T][Zlr T]
def Zmc(b c:Rat)(i:Nat):Rat:=if i=0 then 0 else if i=1 then b else (if b<c then c else b)
def Zoi(b c:Rat)(i:Nat):St:=⟨[(2,.ptr (.loc 2) 1 3 0 0),(3,.ptr (.loc 3) 2 3 0 0),(7,.sl [Zbq (fz b),Zbq (fz c)] .an),(8,.i .i64 2),(9,.i .i64 i)],
 [(.loc 2,⟨1,.str,3,[Zeu]⟩),(.loc 3,⟨2,.str,3,[Zbq (fz (Zmc b c i))]⟩)],4⟩
def Zoj(l:List Fz)(i:Nat):St:=⟨[(2,.ptr (.loc 2) 1 3 0 0),(3,.ptr (.loc 3) 2 3 0 0),(7,.sl (Zd l) .an),(8,.i .i64 l.length),(9,.i .i64 i)],
 [(.loc 2,⟨1,.str,3,[Zeu]⟩),(.loc 3,⟨2,.str,3,[Zbq (fz (Zlw ((l.map fv).take i)))]⟩)],4⟩
def Zok(l:List Fz)(i:Nat):St:=⟨[(3,.i .i64 (Zm5 (l.take i))),(6,.sl (Zd l) .an),(7,.i .i64 l.length),(8,.i .i64 i)],[],2⟩
end
section
variable{T:Tbl}[Zai T][Za5 T][Zak T][Zbf T][Zac T][Zbk T][Zae T][Zav T][Zl4 T]
def Zol(c:Rat)(p:List Rat)(i:Nat):St:=⟨[(1,.sl (Zd (fzs p)) .an),(2,.ptr (.loc 2) 1 3 0 0),(5,.bs (.loc 5) 2 3 0 i),(6,.i .i64 i)],
 [(.loc 2,⟨1,.str,3,[Zbq (fz c)]⟩),(.loc 5,⟨2,.own,3,Zd (fzs ((Zml c p).take i))⟩)],4⟩
def Zom(p:List Rat)(i:Nat):St:=⟨[(0,.sl (Zd (fzs p)) .an),(2,.ptr (.loc 2) 1 3 0 0),(3,.ptr (.loc 3) 2 3 0 0),(4,.i .i64 i)],
 [(.loc 2,⟨1,.str,3,[Zeu]⟩),(.loc 3,⟨2,.str,3,[Zbq (fz (Zlw (p.take i)))]⟩)],4⟩
end
end Go.Ab