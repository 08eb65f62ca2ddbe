/-
  A calculus of values, boxes and code, and what functions of the program compute, proved in it.
  Conditions: none beyond those that the theorems state. (Part 6.)
-/
import Derived.Test.YthhddiiohgfamaaGreatDoorPart5
import Derived.Test.YthhddiiohgfamaaGreatDoorProg
import Derived.KernelRfl
import Derived.Shelf.RegionOpenPlain
import Derived.Lib.Strings
import Derived.Lib.Slices
import Derived.Lib.Walk
import Derived.Lib.Builder
import Derived.Lib.AppendStr
import Derived.Lib.UnsafeStr
import Derived.Lib.MakeNoZero
import Derived.WalkKit
import Derived.Laws.Externs
import Derived.Laws.IdiomCopy
import Derived.Laws.BitsLemmas
import GoSem.Claims
import Derived.Deep.LoopGhost
import Derived.Shelf.Strings.Builder1
import Derived.Shelf.Strings.Builder2
import Derived.Shelf.Strings.OnBuilder
import Derived.Shelf.Strings.IndexAnyAll
import Derived.Shelf.Strings.Count
import Derived.Shelf.Strings.Search2
import Derived.Laws.RangeAny
import Derived.Laws.Runes
import Derived.Lib.DecodeN
import Derived.WalkMore
import Derived.Shelf.Small.Utf8
import Derived.Deep.RegionWith
import Derived.ProofKit
import Derived.OpenShut
import Derived.Test.YthhddiiohgfamaaGreatDoorRows
import Derived.Test.YthhddiiohgfamaaGreatDoorCards
import Derived.Test.YthhddiiohgfamaaGreatDoorTie
import Derived.LaidMore
import Derived.Stop.Joined
import Derived.SevenTiedAt
import Derived.Lib.LaidU8

set_option linter.unusedSectionVars false
set_option linter.unusedVariables false
set_option linter.unusedSimpArgs false
set_option linter.unnecessarySimpa false
set_option linter.defProp false
set_option maxRecDepth 100000

section
namespace Go.Proofs.YthhddiiohgfamaaGreatDoor
open Go Go.Ab
set_option maxRecDepth 100000
def nus:List (Nat×Nat):=[(23,60),(25,129),(27,94),(32,162),(34,80),(36,97),(37,113),(38,90),(40,155),(41,107),(55,91),(56,92),(57,93),(60,62),(62,124),(64,177),(65,178),(68,83),(70,88),(71,96),(72,82),(73,147),(85,125),(86,115),(87,81),(88,126),(89,95),(90,116),(91,149),(92,150),(93,151),(94,152),(98,188),(99,189),(100,190),(101,117),(103,118),(106,128),(115,153),(116,154),(117,127),(118,141),(119,171),(120,172),(121,173),(123,158),(125,142),(126,143),(127,144),(128,145),(129,64),(183,84),(194,174),(198,148),(199,122),(200,123),(201,89),(202,59),(203,58),(204,163),(205,71),(207,35),(208,112),(209,77),(210,61),(211,63),(212,25),(215,24),(217,106),(247,28),(248,31),(251,51),(252,180),(253,179),(254,164),(255,165),(256,134),(258,191),(265,47),(269,70),(274,52),(275,135),(286,29),(287,32),(344,161),(345,131),(346,98),(354,130),(356,194),(357,195),(360,156),(361,132),(362,157),(497,5),(500,7),(513,9),(516,30),(519,22),(532,19),(533,36),(549,50),(576,13),(579,12),(580,43),(581,44),(582,45),(583,46),(584,76),(585,78),(685,4),(686,6),(687,14),(689,16),(692,26),(693,27),(694,48),(695,65),(696,99),(697,100),(698,133),(2071,96),(2092,150),(2106,128)]
def nu(u:Nat):FuncId:=(nus.lookup u).getD 0
def Zeg(P:Program)(ν:Nat->FuncId)(τ:Nat->Nat)(u:Nat)(af:AFx):Prop:=
 match af.body.isPrim with
 | some f=>∀xs r,f xs=some r->Z6 P (ν u) xs (·=r)
 | none=>if af.body.isBad=true then (∀m∈Zhu af,Zd6 P af.np m.1=some (ν m.2))/\(af.res.isEmpty=true->af.np=ν af.nt) else Z0 P (ν u)=some (erF ν τ af)
def ok_pr{P:Program}{ν:Nat->FuncId}{τ:Nat->Nat}{u:Nat}{af:AFx}{f:List AV->Option AV}(h0:af.body.isPrim=some f)(h:∀xs r,f xs=some r->Z6 P (ν u) xs (·=r)):Zeg P ν τ u af:=by unfold Zeg;rw[h0];exact h
def ok_fn{P:Program}{ν:Nat->FuncId}{τ:Nat->Nat}{u:Nat}{af:AFx}(h0:af.body.isPrim=none)(h1:af.body.isBad=false)(h:Z0 P (ν u)=some (erF ν τ af)):Zeg P ν τ u af:=by unfold Zeg;rw[h0];simp only[h1];exact h
def ok_cons{P:Program}{ν:Nat->FuncId}{τ:Nat->Nat}{u:Nat}{af:AFx}{l:List (Nat×AFx)}(h:Zeg P ν τ u af)(hl:∀p∈l,Zeg P ν τ p.1 p.2) :
  ∀p∈(u,af)::l,Zeg P ν τ p.1 p.2:=by
 intro p hp;rcases List.mem_cons.1 hp with rfl | hp
 ·exact h
 ·exact hl p hp
def ok_lookup{P:Program}{ν:Nat->FuncId}{l:List (Nat×AFx)}(hl:∀p∈l,Zeg P ν (Zd fun u=>l.lookup u) p.1 p.2):TOk P ν (fun u=>l.lookup u):=fun _ _ h=>hl _ (zdm h)
def sub_cons{l l2:List (Nat×AFx)}{u:Nat}{af:AFx}(h:l.lookup u=some af)(h2:∀p∈l2,l.lookup p.1=some p.2):∀p∈(u,af)::l2,l.lookup p.1=some p.2:=by
 intro p hp;rcases List.mem_cons.1 hp with rfl | hp
 ·exact h
 ·exact h2 p hp
def pT(i:Nat):List (Nat×AFx):=match i with
 | 0=>[(115,row115),(116,row116),(117,row117),(118,row118),(91,row91),(86,row86),(106,row106),(71,row71),(72,row72),(73,row73),(70,row70),(87,row87),(85,row85),(56,row56),(88,row88),(57,row57),(2106,row2106),(89,row89),(100,row100),(60,row60),(92,row92),(94,row94),(90,row90),(119,row119),(120,row120)]
 | 1=>[(121,row121),(93,row93),(2071,row2071),(2092,row2092),(62,row62),(98,row98),(123,row123),(64,row64),(99,row99),(65,row65),(55,row55),(38,row38),(40,row40),(23,row23),(25,row25),(27,row27),(37,row37),(41,row41),(36,row36),(32,row32),(198,row198),(199,row199),(200,row200),(201,row201),(202,row202)]
 | 2=>[(203,row203),(205,row205),(207,row207),(209,row209),(210,row210),(211,row211),(212,row212),(215,row215),(217,row217),(204,row204),(208,row208),(346,row346),(354,row354),(362,row362),(345,row345),(258,row258),(356,row356),(357,row357),(252,row252),(253,row253),(254,row254),(255,row255),(256,row256),(265,row265),(269,row269)]
 | 3=>[(275,row275),(513,row513),(532,row532),(533,row533),(549,row549),(576,row576),(579,row579),(580,row580),(581,row581),(582,row582),(583,row583),(584,row584),(585,row585),(519,row519),(687,row687),(694,row694),(693,row693),(695,row695),(696,row696),(697,row697),(698,row698),(247,row247),(286,row286),(497,row497),(516,row516)]
 | 4=>[(500,row500),(248,row248),(287,row287),(685,row685),(686,row686),(692,row692),(129,row129)]
 | _=>[]
def Zob:List (Nat×AFx):=[(68,row68),(344,row344),(194,row194),(361,row361),(689,row689)]
def lTab:List (Nat×AFx):=pT 0++pT 1++pT 2++pT 3++pT 4++Zob
def gTab:List (Nat×AFx):=lTab++[(101,row101),(103,row103),(125,row125),(34,row34),(183,row183),(251,row251),(274,row274)]
def tab:Tbl:=fun u=>gTab.lookup u
def Zii:Nat->Nat:=Zd fun u=>lTab.lookup u
def Zdc(l:List (Nat×AFx)):Prop:=(l.map fun p=>Z0 Tryz.prog (nu p.1))=l.map fun p=>some (erF nu Zii p.2)
def res_mem{l:List (Nat×AFx)}(h:Zdc l)(h2:(l.all fun p=>p.2.body.isPrim.isNone&&!p.2.body.isBad)=true):∀p∈l,Zeg Tryz.prog nu Zii p.1 p.2:=by
 intro p hp;have h3:=List.all_eq_true.1 h2 p hp;simp only[Bool.and_eq_true,Option.isNone_iff_eq_none,Bool.not_eq_true']at h3;exact ok_fn h3.1 h3.2 (List.map_inj_left.1 h p hp)
def ok_app{l r:List (Nat×AFx)}(h1:∀p∈l,Zeg Tryz.prog nu Zii p.1 p.2)(h2:∀p∈r,Zeg Tryz.prog nu Zii p.1 p.2):∀p∈l++r,Zeg Tryz.prog nu Zii p.1 p.2:=fun p hp=>(List.mem_append.1 hp).elim (h1 p) (h2 p)
def res0:Zdc (pT 0):=by unfold Zdc;kernel_rfl
def res1:Zdc (pT 1):=by unfold Zdc;kernel_rfl
def res2:Zdc (pT 2):=by unfold Zdc;kernel_rfl
def res3:Zdc (pT 3):=by unfold Zdc;kernel_rfl
def res4:Zdc (pT 4):=by unfold Zdc;kernel_rfl
def lTab_ok(hp68:∀xs r,prim68 xs=some r->Z6 Tryz.prog (nu 68) xs (·=r))(hp344:∀xs r,prim344 xs=some r->Z6 Tryz.prog (nu 344) xs (·=r))(hp194:∀xs r,prim194 xs=some r->Z6 Tryz.prog (nu 194) xs (·=r))(hp361:∀xs r,prim361 xs=some r->Z6 Tryz.prog (nu 361) xs (·=r))(hp689:∀xs r,prim689 xs=some r->Z6 Tryz.prog (nu 689) xs (·=r)):TOk Tryz.prog nu (fun u=>lTab.lookup u):=ok_lookup (ok_app (ok_app (ok_app (ok_app (ok_app (res_mem res0 (by kernel_rfl)) (res_mem res1 (by kernel_rfl))) (res_mem res2 (by kernel_rfl))) (res_mem res3 (by kernel_rfl))) (res_mem res4 (by kernel_rfl))) (ok_cons (ok_pr rfl hp68) (ok_cons (ok_pr rfl hp344) (ok_cons (ok_pr rfl hp194) (ok_cons (ok_pr rfl hp361) (ok_cons (ok_pr rfl hp689) (fun p hp=>by cases hp)))))))
def Zk3:List Nat->Bool
 | []=>true
 | a::l=>!l.contains a&&Zk3 l
def sub_app{l r:List (Nat×AFx)}(h:Zk3 (l.map (·.1))=true):∀p∈l,(l++r).lookup p.1=some p.2:=by
 induction l with
 | nil=>intro p hp;cases hp
 | cons a l ih=>
  intro p hp;obtain⟨k,v⟩:=a;simp only[List.map_cons,Zk3,Bool.and_eq_true,Bool.not_eq_true']at h;rcases List.mem_cons.1 hp with rfl | hq
  ·simp
  ·have hne:(p.1 == k)=false:=by
    cases hb:p.1 == k with
    | false=>rfl
    | true=>
     have:=eq_of_beq hb;subst this;have h5:(l.map (·.1)).contains p.1=true:=List.contains_iff_mem.2 (List.mem_map.2 ⟨p,hq,rfl⟩);rw[h5]at h;cases h.1
   rw[List.cons_append,List.lookup_cons,hne];exact ih h.2 p hq
def lTab_part:Part gTab lTab:=⟨sub_app (by kernel_rfl),by kernel_rfl⟩
def sTab:List (Nat×AFx):=[(118,row118),(86,row86),(106,row106),(71,row71),(70,row70),(90,row90),(101,row101),(103,row103),(125,row125)]
def Zfr:Nat->Nat:=Zd fun u=>sTab.lookup u
def ress_118:Z0 Tryz.prog (nu 118)=some (erF nu Zfr row118):=by kernel_rfl
def ress_86:Z0 Tryz.prog (nu 86)=some (erF nu Zfr row86):=by kernel_rfl
def ress_106:Z0 Tryz.prog (nu 106)=some (erF nu Zfr row106):=by kernel_rfl
def ress_71:Z0 Tryz.prog (nu 71)=some (erF nu Zfr row71):=by kernel_rfl
def ress_70:Z0 Tryz.prog (nu 70)=some (erF nu Zfr row70):=by kernel_rfl
def ress_90:Z0 Tryz.prog (nu 90)=some (erF nu Zfr row90):=by kernel_rfl
def ress_101:Z0 Tryz.prog (nu 101)=some (erF nu Zfr row101):=by kernel_rfl
def ress_103:Z0 Tryz.prog (nu 103)=some (erF nu Zfr row103):=by kernel_rfl
def ress_125:Z0 Tryz.prog (nu 125)=some (erF nu Zfr row125):=by kernel_rfl
def sTab_ok:TOk Tryz.prog nu (fun u=>sTab.lookup u):=ok_lookup (ok_cons (ok_fn rfl rfl ress_118) (ok_cons (ok_fn rfl rfl ress_86) (ok_cons (ok_fn rfl rfl ress_106) (ok_cons (ok_fn rfl rfl ress_71) (ok_cons (ok_fn rfl rfl ress_70) (ok_cons (ok_fn rfl rfl ress_90) (ok_cons (ok_fn rfl rfl ress_101) (ok_cons (ok_fn rfl rfl ress_103) (ok_cons (ok_fn rfl rfl ress_125) (fun p hp=>by cases hp))))))))))
def sTab_part:Part gTab sTab:=⟨sub_cons (by kernel_rfl) (sub_cons (by kernel_rfl) (sub_cons (by kernel_rfl) (sub_cons (by kernel_rfl) (sub_cons (by kernel_rfl) (sub_cons (by kernel_rfl) (sub_cons (by kernel_rfl) (sub_cons (by kernel_rfl) (sub_cons (by kernel_rfl) (fun p hp=>by cases hp))))))))),by kernel_rfl⟩
def Zlh:List (Nat×AFx):=[(115,row115),(116,row116),(117,row117),(118,row118),(91,row91),(86,row86),(106,row106),(71,row71),(72,row72),(73,row73),(70,row70),(87,row87),(2106,row2106),(94,row94),(90,row90),(119,row119),(120,row120),(121,row121),(93,row93),(2071,row2071),(2092,row2092),(62,row62),(68,row68),(55,row55),(38,row38),(37,row37),(34,row34),(198,row198),(199,row199),(200,row200),(201,row201),(202,row202),(203,row203),(207,row207),(183,row183),(251,row251),(274,row274),(549,row549)]
def Zai:Nat->Nat:=Zd fun u=>Zlh.lookup u
def resm_115:Z0 Tryz.prog (nu 115)=some (erF nu Zai row115):=by kernel_rfl
def resm_116:Z0 Tryz.prog (nu 116)=some (erF nu Zai row116):=by kernel_rfl
def resm_117:Z0 Tryz.prog (nu 117)=some (erF nu Zai row117):=by kernel_rfl
def resm_118:Z0 Tryz.prog (nu 118)=some (erF nu Zai row118):=by kernel_rfl
def resm_91:Z0 Tryz.prog (nu 91)=some (erF nu Zai row91):=by kernel_rfl
def resm_86:Z0 Tryz.prog (nu 86)=some (erF nu Zai row86):=by kernel_rfl
def resm_106:Z0 Tryz.prog (nu 106)=some (erF nu Zai row106):=by kernel_rfl
def resm_71:Z0 Tryz.prog (nu 71)=some (erF nu Zai row71):=by kernel_rfl
def resm_72:Z0 Tryz.prog (nu 72)=some (erF nu Zai row72):=by kernel_rfl
def resm_73:Z0 Tryz.prog (nu 73)=some (erF nu Zai row73):=by kernel_rfl
def resm_70:Z0 Tryz.prog (nu 70)=some (erF nu Zai row70):=by kernel_rfl
def resm_87:Z0 Tryz.prog (nu 87)=some (erF nu Zai row87):=by kernel_rfl
def resm_2106:Z0 Tryz.prog (nu 2106)=some (erF nu Zai row2106):=by kernel_rfl
def resm_94:Z0 Tryz.prog (nu 94)=some (erF nu Zai row94):=by kernel_rfl
def resm_90:Z0 Tryz.prog (nu 90)=some (erF nu Zai row90):=by kernel_rfl
def resm_119:Z0 Tryz.prog (nu 119)=some (erF nu Zai row119):=by kernel_rfl
def resm_120:Z0 Tryz.prog (nu 120)=some (erF nu Zai row120):=by kernel_rfl
def resm_121:Z0 Tryz.prog (nu 121)=some (erF nu Zai row121):=by kernel_rfl
def resm_93:Z0 Tryz.prog (nu 93)=some (erF nu Zai row93):=by kernel_rfl
def resm_2071:Z0 Tryz.prog (nu 2071)=some (erF nu Zai row2071):=by kernel_rfl
def resm_2092:Z0 Tryz.prog (nu 2092)=some (erF nu Zai row2092):=by kernel_rfl
def resm_62:Z0 Tryz.prog (nu 62)=some (erF nu Zai row62):=by kernel_rfl
def resm_55:Z0 Tryz.prog (nu 55)=some (erF nu Zai row55):=by kernel_rfl
def resm_38:Z0 Tryz.prog (nu 38)=some (erF nu Zai row38):=by kernel_rfl
def resm_37:Z0 Tryz.prog (nu 37)=some (erF nu Zai row37):=by kernel_rfl
def resm_34:Z0 Tryz.prog (nu 34)=some (erF nu Zai row34):=by kernel_rfl
def resm_198:Z0 Tryz.prog (nu 198)=some (erF nu Zai row198):=by kernel_rfl
def resm_199:Z0 Tryz.prog (nu 199)=some (erF nu Zai row199):=by kernel_rfl
def resm_200:Z0 Tryz.prog (nu 200)=some (erF nu Zai row200):=by kernel_rfl
def resm_201:Z0 Tryz.prog (nu 201)=some (erF nu Zai row201):=by kernel_rfl
def resm_202:Z0 Tryz.prog (nu 202)=some (erF nu Zai row202):=by kernel_rfl
def resm_203:Z0 Tryz.prog (nu 203)=some (erF nu Zai row203):=by kernel_rfl
def resm_207:Z0 Tryz.prog (nu 207)=some (erF nu Zai row207):=by kernel_rfl
def resm_251:Z0 Tryz.prog (nu 251)=some (erF nu Zai row251):=by kernel_rfl
def resm_274:Z0 Tryz.prog (nu 274)=some (erF nu Zai row274):=by kernel_rfl
def resm_549:Z0 Tryz.prog (nu 549)=some (erF nu Zai row549):=by kernel_rfl
def mTab_ok(hp68:∀xs r,prim68 xs=some r->Z6 Tryz.prog (nu 68) xs (·=r))(hp183:∀xs r,prim183 xs=some r->Z6 Tryz.prog (nu 183) xs (·=r)):TOk Tryz.prog nu (fun u=>Zlh.lookup u):=ok_lookup (ok_cons (ok_fn rfl rfl resm_115) (ok_cons (ok_fn rfl rfl resm_116) (ok_cons (ok_fn rfl rfl resm_117) (ok_cons (ok_fn rfl rfl resm_118) (ok_cons (ok_fn rfl rfl resm_91) (ok_cons (ok_fn rfl rfl resm_86) (ok_cons (ok_fn rfl rfl resm_106) (ok_cons (ok_fn rfl rfl resm_71) (ok_cons (ok_fn rfl rfl resm_72) (ok_cons (ok_fn rfl rfl resm_73) (ok_cons (ok_fn rfl rfl resm_70) (ok_cons (ok_fn rfl rfl resm_87) (ok_cons (ok_fn rfl rfl resm_2106) (ok_cons (ok_fn rfl rfl resm_94) (ok_cons (ok_fn rfl rfl resm_90) (ok_cons (ok_fn rfl rfl resm_119) (ok_cons (ok_fn rfl rfl resm_120) (ok_cons (ok_fn rfl rfl resm_121) (ok_cons (ok_fn rfl rfl resm_93) (ok_cons (ok_fn rfl rfl resm_2071) (ok_cons (ok_fn rfl rfl resm_2092) (ok_cons (ok_fn rfl rfl resm_62) (ok_cons (ok_pr rfl hp68) (ok_cons (ok_fn rfl rfl resm_55) (ok_cons (ok_fn rfl rfl resm_38) (ok_cons (ok_fn rfl rfl resm_37) (ok_cons (ok_fn rfl rfl resm_34) (ok_cons (ok_fn rfl rfl resm_198) (ok_cons (ok_fn rfl rfl resm_199) (ok_cons (ok_fn rfl rfl resm_200) (ok_cons (ok_fn rfl rfl resm_201) (ok_cons (ok_fn rfl rfl resm_202) (ok_cons (ok_fn rfl rfl resm_203) (ok_cons (ok_fn rfl rfl resm_207) (ok_cons (ok_pr rfl hp183) (ok_cons (ok_fn rfl rfl resm_251) (ok_cons (ok_fn rfl rfl resm_274) (ok_cons (ok_fn rfl rfl resm_549) (fun p hp=>by cases hp)))))))))))))))))))))))))))))))))))))))
def mTab_part:Part gTab Zlh:=⟨sub_cons (by kernel_rfl) (sub_cons (by kernel_rfl) (sub_cons (by kernel_rfl) (sub_cons (by kernel_rfl) (sub_cons (by kernel_rfl) (sub_cons (by kernel_rfl) (sub_cons (by kernel_rfl) (sub_cons (by kernel_rfl) (sub_cons (by kernel_rfl) (sub_cons (by kernel_rfl) (sub_cons (by kernel_rfl) (sub_cons (by kernel_rfl) (sub_cons (by kernel_rfl) (sub_cons (by kernel_rfl) (sub_cons (by kernel_rfl) (sub_cons (by kernel_rfl) (sub_cons (by kernel_rfl) (sub_cons (by kernel_rfl) (sub_cons (by kernel_rfl) (sub_cons (by kernel_rfl) (sub_cons (by kernel_rfl) (sub_cons (by kernel_rfl) (sub_cons (by kernel_rfl) (sub_cons (by kernel_rfl) (sub_cons (by kernel_rfl) (sub_cons (by kernel_rfl) (sub_cons (by kernel_rfl) (sub_cons (by kernel_rfl) (sub_cons (by kernel_rfl) (sub_cons (by kernel_rfl) (sub_cons (by kernel_rfl) (sub_cons (by kernel_rfl) (sub_cons (by kernel_rfl) (sub_cons (by kernel_rfl) (sub_cons (by kernel_rfl) (sub_cons (by kernel_rfl) (sub_cons (by kernel_rfl) (sub_cons (by kernel_rfl) (fun p hp=>by cases hp)))))))))))))))))))))))))))))))))))))),by kernel_rfl⟩
instance:Zaf tab:=⟨by kernel_rfl,by kernel_rfl,by kernel_rfl,by kernel_rfl,by kernel_rfl⟩
instance:Zn tab where
 h115:=by kernel_rfl
 h116:=by kernel_rfl
 h117:=by kernel_rfl
 h118:=by kernel_rfl
 h91:=by kernel_rfl
 h86:=by kernel_rfl
 h106:=by kernel_rfl
 h71:=by kernel_rfl
 h72:=by kernel_rfl
 h73:=by kernel_rfl
 h70:=by kernel_rfl
 h87:=by kernel_rfl
 h85:=by kernel_rfl
 h56:=by kernel_rfl
 h88:=by kernel_rfl
 h57:=by kernel_rfl
 h2106:=by kernel_rfl
instance:Zw tab where
 h115:=by kernel_rfl
 h116:=by kernel_rfl
 h117:=by kernel_rfl
 h118:=by kernel_rfl
 h91:=by kernel_rfl
 h86:=by kernel_rfl
 h106:=by kernel_rfl
 h71:=by kernel_rfl
 h72:=by kernel_rfl
 h73:=by kernel_rfl
 h70:=by kernel_rfl
 h87:=by kernel_rfl
 h85:=by kernel_rfl
 h56:=by kernel_rfl
 h88:=by kernel_rfl
 h57:=by kernel_rfl
 h2106:=by kernel_rfl
 h89:=by kernel_rfl
 h100:=by kernel_rfl
 h60:=by kernel_rfl
instance:Zz tab:=⟨by kernel_rfl,by kernel_rfl⟩
instance:Zr tab:=⟨by kernel_rfl,by kernel_rfl,by kernel_rfl,by kernel_rfl,by kernel_rfl⟩
instance:Zv tab:=⟨by kernel_rfl,by kernel_rfl,by kernel_rfl⟩
instance:Zp tab:=⟨by kernel_rfl,by kernel_rfl,by kernel_rfl,by kernel_rfl,by kernel_rfl,by kernel_rfl⟩
instance:Zat tab:=⟨by kernel_rfl⟩
instance:Zhi tab:=⟨by kernel_rfl,by kernel_rfl⟩
instance:Zg tab:=⟨by kernel_rfl,by kernel_rfl,by kernel_rfl,by kernel_rfl,by kernel_rfl,by kernel_rfl,by kernel_rfl,by kernel_rfl,by kernel_rfl,by kernel_rfl,by kernel_rfl⟩
instance:Zm tab:=⟨by kernel_rfl,by kernel_rfl,by kernel_rfl,by kernel_rfl⟩
instance:Zy tab:=⟨by kernel_rfl,by kernel_rfl,by kernel_rfl,by kernel_rfl,by kernel_rfl,by kernel_rfl,by kernel_rfl,by kernel_rfl,by kernel_rfl,by kernel_rfl⟩
instance:Zcr tab:=⟨by kernel_rfl⟩
instance:Za1 tab:=⟨by kernel_rfl⟩
instance:Zbp tab where
instance:Zdg tab:=⟨by kernel_rfl,by kernel_rfl,by kernel_rfl⟩
instance:Zap tab:=⟨by kernel_rfl,by kernel_rfl,by kernel_rfl,by kernel_rfl⟩
instance:Zcj tab:=⟨by kernel_rfl,by kernel_rfl,by kernel_rfl⟩
instance:Zd7 tab:=⟨by kernel_rfl,by kernel_rfl,by kernel_rfl,by kernel_rfl,by kernel_rfl⟩
instance:Zcx tab where
instance:Zcc tab where
instance:Zdj tab where
instance:Zf0 tab where
instance:Zfx tab where
instance:Za5 tab:=⟨by kernel_rfl⟩
instance:Zb3 tab:=⟨by kernel_rfl,by kernel_rfl,by kernel_rfl,by kernel_rfl⟩
instance:Ze3 tab:=⟨by kernel_rfl⟩
instance:Zar tab:=⟨by kernel_rfl,by kernel_rfl,by kernel_rfl,by kernel_rfl,by kernel_rfl,by kernel_rfl,by kernel_rfl,by kernel_rfl,by kernel_rfl,by kernel_rfl,by kernel_rfl,by kernel_rfl⟩
instance:Zfy tab:=⟨by kernel_rfl⟩
instance:Ze9 tab:=⟨by kernel_rfl,by kernel_rfl⟩
instance:Zbi tab:=⟨by kernel_rfl,by kernel_rfl,by kernel_rfl,by kernel_rfl,by kernel_rfl⟩
instance:Zfz tab:=⟨by kernel_rfl⟩
instance:Za2 tab where
instance:Za3 tab where
instance:Zas tab where
instance:Zbq tab where
instance:Za4 tab where
instance:Zbz tab where
instance:Zbj tab:=⟨by kernel_rfl⟩
instance:Zbk tab:=⟨by kernel_rfl⟩
instance:Zg2 tab where
instance:Zck tab:=⟨by kernel_rfl,by kernel_rfl⟩
instance:Zh7 tab:=⟨by kernel_rfl⟩
instance:Zhh tab where
instance:Zdm tab:=⟨by kernel_rfl⟩
instance:Zdn tab:=⟨by kernel_rfl⟩
instance:Zhx tab where
instance:Zhy tab where
instance:Zcd tab:=⟨by kernel_rfl,by kernel_rfl,by kernel_rfl⟩
instance:Zg1 tab:=⟨by kernel_rfl⟩
end Go.Proofs.YthhddiiohgfamaaGreatDoor
end
section
namespace Go.Proofs
open Go.RowKit
def Tryz.sizeBuilder:(Tryz.prog.info? 92).map (·.size)=some 2:=by kernel_rfl
def Tryz.liesBuilder:liesAt Tryz.prog Tryz.prog.depth 92 (2/Tryz.prog.cellsOf 92) 0 92 1=true:=by kernel_rfl
def Tryz.infoByte:(Tryz.prog.info? 5).map (fun i=>(i.zero,i.size,i.bytes))=some (some (.int .u8 0),1,1):=by kernel_rfl
def Tryz.cellsByte:Tryz.prog.cellsOf 5=1:=by kernel_rfl
set_option maxHeartbeats 1000000 in
set_option maxRecDepth 100000 in
def Tryz.bString(B b:Nat)(l:List UInt8)(w:World)(h:Lib.IsBuilder 92 5 B b (Lib.byteCells l) w)(h0:l≠[]) :
  Calls Tryz.prog 53 #[.pointer (some ⟨b,0,none⟩)] w fun e w'=>e=.returned (.string ⟨l.toArray⟩)/\Below B w w':=by
 obtain⟨p,hB,v,hbk,hown,hne⟩:∃p,Lib.BuilderAt 92 5 B b p (Lib.byteCells l) w:=by
  rcases h with h | h
  ·exact⟨_,h⟩
  ·exact⟨_,h⟩
 have hl0:l.length≠0:=by simpa using h0
 rw[Lib.byteCells_length]at hown;obtain⟨g,cap,cur,rfl,hbg,hg,hnc,hcm,hcs,htake⟩:∃g cap cur,v=.slice (some ⟨g,0,none⟩) l.length cap/\B<=g/\w.heap[g]? = some (.cells cur 5 (0,0))/\l.length<=cap/\cap<=maxLen/\cur.size=cap*1/\cur.toList.take (l.length*1)=Lib.byteCells l:=by
  rcases hown.2 with ⟨_,hz⟩ | ⟨g,cap,cur,hv,r⟩
  ·exact absurd hz hl0
  ·exact⟨g,cap,cur,hv,r⟩
 have c1:w.drew.cell? ⟨b,1,none⟩=some (.slice (some ⟨g,0,none⟩) l.length cap):=by
  have:w.drew.heap[b]? = some (.cells #[p,.slice (some ⟨g,0,none⟩) l.length cap] 92 (0,0)):=hbk;rw[Lib.cell_of_heap this];rfl
 have hSD:(Builtin.unsafeSliceData_ #[90] 131 #[.slice (some ⟨g,0,none⟩) l.length cap]).run Tryz.prog w.drew=.ok (.pointer (some ⟨g,0,none⟩)) w.drew:=
  Lib.run_unsafeSliceData_row _ _ _ _ _ _ (by omega)
 have hUS:(Builtin.unsafeString_ #[131,3] 9 #[.pointer (some ⟨g,0,none⟩),.int .i64 l.length]).run Tryz.prog w.drew=.ok (.string ⟨l.toArray⟩) (w.drew.freeze ⟨g,0,none⟩ l.length):=by
  refine Lib.run_unsafeString_row w.drew 131 3 9 5 Tryz.underlying131 Tryz.cellsByte g cur.size (by have hg':w.drew.heap[g]? = some (.cells cur 5 (0,0)):=hg;simp[World.shape?,hg']) l h0 (by omega) (by unfold maxLen at hcm;omega) ?_;intro j x hx;have:=hown.cells (g:=g) rfl j (.int .u8 x.toNat) (by simp[Lib.byteCells,hx]);exact this
 go_enter Tryz.func53,Tryz.ntmps53
 go_wp2
 go_region
 all_goals (go_wp2;go_ret;exact⟨rfl,Lib.below_freeze (Below.drew (Below.refl B w)) (p:=⟨g,0,none⟩) hbg _⟩)
set_option maxHeartbeats 1000000 in
set_option maxRecDepth 100000 in
def Tryz.bCheck_used(b:Nat)(w:World)(h0:w.cell? ⟨b,0,none⟩=some (.pointer (some ⟨b,0,none⟩))) :
  Calls Tryz.prog 79 #[.pointer (some ⟨b,0,none⟩)] w fun e w'=>e=.returned (.tuple #[])/\w'=w:=by
 obtain⟨j,hj,_⟩:=Option.map_eq_some_iff.1 Tryz.sizeBuilder
 go_enter Tryz.func79,Tryz.ntmps79
 go_wp2
 rw[Lib.run_neq_ptr_same w _ Tryz.underlying89 hj]
 go_wp2
 go_end0
 exact⟨rfl,rfl⟩
set_option maxHeartbeats 1000000 in
set_option maxRecDepth 100000 in
def Tryz.bCheck_fresh(b:Nat)(w:World)(h0:w.cell? ⟨b,0,none⟩=some (.pointer none))(hsh:w.shape? b=some (92,2))(hfz:w.frozen? ⟨b,0,none⟩=false) :
  Calls Tryz.prog 79 #[.pointer (some ⟨b,0,none⟩)] w fun e w'=>e=.returned (.tuple #[])/\w'=w.setCell ⟨b,0,none⟩ (.pointer (some ⟨b,0,none⟩)):=by
 obtain⟨j,hj,hjs⟩:=Option.map_eq_some_iff.1 Tryz.sizeBuilder
 go_enter Tryz.func79,Tryz.ntmps79
 go_wp2
 rw[Lib.run_to_unsafe w ⟨b,0,none⟩ Tryz.underlying89 Tryz.underlying154 hj (by rw[hjs];decide) hsh (Nat.zero_lt_succ 1)];simp only[Result.andThen];rw[Oper.upon_value]
 go_wp2
 rw[run_callFunc_extern Tryz.func114 (by kernel_rfl) (by kernel_rfl) (by kernel_rfl) (e:=Extern.AbiNoEscape.same) (by kernel_rfl)];rw[Lib.run_noEscape];simp only[Result.andThen];rw[Oper.upon_value]
 go_wp2
 rw[Lib.run_from_unsafe w ⟨b,0,none⟩ Tryz.underlying154 Tryz.underlying89 hj hsh Tryz.liesBuilder];simp only[Result.andThen];rw[Oper.upon_value]
 go_wp2
 go_end0
 exact⟨rfl,rfl⟩
def Tryz.bCheck(B b:Nat)(bs:List Value)(w:World)(h:Lib.IsBuilder 92 5 B b bs w) :
  Calls Tryz.prog 79 #[.pointer (some ⟨b,0,none⟩)] w fun e w'=>e=.returned (.tuple #[])/\(Lib.BuilderAt 92 5 B b (.pointer (some ⟨b,0,none⟩)) bs w'/\Below B w w'):=by
 rcases h with h | h
 ·refine(Tryz.bCheck_fresh b w h.cell0 h.shape h.frozen0).mono ?_
  rintro e w' ⟨rfl,rfl⟩
  exact⟨rfl,h.used _,(Below.refl B w).setCell (p:=⟨b,0,none⟩) h.1 _⟩
 ·refine(Tryz.bCheck_used b w h.cell0).mono ?_
  rintro e w' ⟨rfl,rfl⟩
  exact⟨rfl,h,Below.refl B _⟩
set_option maxHeartbeats 2000000 in
set_option maxRecDepth 100000 in
def Tryz.bWrite(B b:Nat)(bs:List Value)(s:ByteArray)(w:World)(h:Lib.IsBuilder 92 5 B b bs w)(hlen:bs.length+s.size<=140737488355328)(hBw:B<=w.heap.size) :
  Calls Tryz.prog 49 #[.pointer (some ⟨b,0,none⟩),.string s] w fun e w'=>e=.returned (.tuple #[.int .i64 s.size,.nilIface])/\(Lib.BuilderAt 92 5 B b (.pointer (some ⟨b,0,none⟩)) (bs++Lib.strCells s) w'/\Below B w w'):=by
 obtain⟨i0,hi,hz0,hz1,hz2⟩:=info_parts Tryz.infoByte
 go_enter Tryz.func49,Tryz.ntmps49
 go_wp2_with (go_at_call 79;refine(Tryz.bCheck B b bs _ h).mono ?_)
 rintro e w1 ⟨rfl,h1,hb1⟩
 obtain⟨hB,v,hbk,hown,hne⟩:=h1;have c0:w1.cell? ⟨b,0,none⟩=some (.pointer (some ⟨b,0,none⟩)):=by rw[Lib.cell_of_heap hbk];rfl
 have c1:w1.cell? ⟨b,1,none⟩=some v:=by rw[Lib.cell_of_heap hbk];rfl
 go_wp2_with (at_builtin;refine Lib.wpList_append_own_string _ rfl _ _ 90 9 rfl B 5 i0 Tryz.underlying90 Tryz.underlying9 hi hz0 hz1 hz2 _ _ _ rfl hown s rfl ?c3 ?c4 ?c5 ?_)
 case c3=>unfold maxLen;omega
 case c4=>omega
 case c5=>have:=hb1.size;omega
 intro v' w2 hown' hgrow _;have hlt:b<w1.heap.size:=by
  rcases Nat.lt_or_ge b w1.heap.size with h' | h'
  ·exact h'
  ·simp[Array.getElem?_eq_none h']at hbk
 have hb2:w2.heap[b]? = some (.cells #[.pointer (some ⟨b,0,none⟩),v] 92 (0,0)):=by
  rw[hgrow.block b hlt (fun e=>hne e.symm)];exact hbk
 have d0:w2.cell? ⟨b,0,none⟩=some (.pointer (some ⟨b,0,none⟩)):=by rw[Lib.cell_of_heap hb2];rfl
 have d1:w2.cell? ⟨b,1,none⟩=some v:=by rw[Lib.cell_of_heap hb2];rfl
 have f1:w2.frozen? ⟨b,1,none⟩=false:=Lib.frozen_of_heap hb2 1;obtain⟨ao,n',cap,rfl⟩:∃ao n' cap,v'=.slice ao n' cap:=by
  rcases hown'.2 with ⟨hv,_⟩ | ⟨g,cap,cur,hv,_⟩
  ·exact⟨_,_,_,hv⟩
  ·exact⟨_,_,_,hv⟩
 go_wp2
 go_ret2
 refine⟨rfl,?_,?_⟩
 ·exact Lib.BuilderAt.put (T:=92) (e:=5) hB hb2 (bs':=bs++Lib.strCells s) (by simpa[Lib.strCells_length]using hown') (by decide)
 ·exact(hb1.grown hgrow (by have:=hb1.size;omega) (fun k hk=>(hown.lt k hk).1)).setCell (p:=⟨b,1,none⟩) hB _
end Go.Proofs
end
namespace Go.Ab
def pieces(n:Nat):List (List UInt8):=if h:n=0 then [] else Zdh 9 (n%1000000000)::pieces (n/1000000000)
termination_by n
decreasing_by exact Yc3 (Yal h) (by decide)
def zcc:pieces 0=[]:=by unfold pieces;simp
def zcs{n:Nat}(h:n≠0):pieces n=Zdh 9 (n%1000000000)::pieces (n/1000000000):=by
 conv=>lhs;unfold pieces
 rw[dif_neg h]
def Zcz(l:List (List UInt8)):List (List AV):=l.map fun s=>[.s s]
@[simp] def zzs(l:List (List UInt8)):(Zcz l).length=l.length:=by simp[Zcz]
@[simp] def zyw(l:List (List UInt8)):wkL (Zcz l)=Zcz l:=by
 induction l with
 | nil=>rfl
 | cons x l ih=>simpa[Zcz,wkL,wkR]using ih
def zwp(l:List (List UInt8))(s:List UInt8):Zcz l++[[.s s]]=Zcz (l++[s]):=by simp[Zcz]
def txL:AX:=
 (.note
 (.seq
 (.seq
  (.reg [⟨(some 11),none,.mov (.t 0)⟩,
   ⟨(some 12),none,.call 70 [(.t 11)]⟩,
   ⟨(some 13),none,.un .not (.t 12)⟩])
  (.cond (.t 13)
  .skip
  (.exit 0)))
 (.block 1
  (.seq
  (.reg [⟨(some 15),none,.mov (.t 0)⟩,
   ⟨(some 16),none,.call 90 [(.t 15),(.c (u32 1000000000))]⟩,
   ⟨(some 14),none,.mov (.t 16)⟩,
   ⟨(some 17),none,.ext (.t 14) 0⟩,
   ⟨(some 18),none,.ext (.t 14) 1⟩,
   ⟨(some 19),none,.ext (.t 14) 2⟩,
   ⟨(some 4),none,.mov (.t 17)⟩,
   ⟨(some 5),none,.mov (.t 18)⟩,
   ⟨(some 6),none,.mov (.t 19)⟩])
  (.seq
   (.reg [⟨(some 20),none,.mov (.t 3)⟩,
    ⟨(some 21),none,.mov (.t 5)⟩,
    ⟨(some 22),none,.call 101 [(.t 21)]⟩,
    ⟨(some 23),none,.bsl 1 [(.s [])] 1 [(0,(.t 22))]⟩,
    ⟨(some 24),none,.app 1 (.t 20) (.t 23)⟩,
    ⟨(some 3),none,.mov (.t 24)⟩])
   (.reg [⟨(some 25),none,.mov (.t 4)⟩,
    ⟨(some 0),none,.mov (.t 25)⟩])))))
 (.norm false [0,3]))
def tx0:AX:=(.reg [⟨(some 2),none,.mov (.c (.s []))⟩])
def txA:AX:=
  (.seq
  (.reg [⟨(some 9),none,.mov (.t 0)⟩,
   ⟨(some 10),none,.call 70 [(.t 9)]⟩])
  (.cond (.t 10)
   (.seq
   (.reg [⟨(some 2),none,.mov (.c (.s [48]))⟩])
   (.pre (.norm false [2]) .ret))
   .skip))
def tx3:AX:=(.note (.reg [⟨(some 3),none,.mov (.c (.sl [] .nl))⟩]) (.nil 3 1))
def txP:AX:=(.lp 0 (.norm false [0,3]) txL (.norm false [3]))
section
variable{T:Tbl}
def zafj(x:AV):evX (orc T) T 0 tx0 ⟨Zca [x],[],1⟩=some (.n,⟨[(2,.s []),(0,x)],[],1⟩):=by
 simp -implicitDefEqProofs[tx0]
end
section
variable{T:Tbl}[Zn T]
def z7f(a:List UInt32)(hl:a.length<=1000)(h0:val a=0):evX (orc T) T 0 txA ⟨[(2,.s []),(0,.sl (Za a) .an)],[],1⟩=some (.r,⟨[(2,.s [48])],[],2⟩):=by
 have hz:=zen (T:=T) a (by omega);simp -implicitDefEqProofs[txA,hz,h0]
end
section
variable{T:Tbl}[Zn T]
def z7g(a:List UInt32)(hl:a.length<=1000)(h0:val a≠0):evX (orc T) T 0 txA ⟨[(2,.s []),(0,.sl (Za a) .an)],[],1⟩ =
  some (.n,⟨[(10,.b false),(9,.sl (Za a) .an),(2,.s []),(0,.sl (Za a) .an)],[],1⟩):=by
 have hz:=zen (T:=T) a (by omega);simp -implicitDefEqProofs[txA,hz,h0]
end
section
variable{T:Tbl}[Zn T][Zw T][Zz T][Zr T][Zp T]
def Zk2(a:List UInt32)(l:List (List UInt8)):St:=⟨[(0,.sl (Za a) .an),(3,.bs (.loc 3) 1 1 0 l.length)],[((.loc 3),⟨1,.own,1,Zcz l⟩)],3⟩
def zss(l:List (List UInt8))(s:List UInt8):wkL (List.take l.length (Zcz l)++[[AV.s s]])=Zcz (l++[s]):=by
 rw[Yb (by simp),zwp,zyw]
end
section
variable{T:Tbl}[Zn T][Zr T][Zp T]
def zyx(N:Nat)(hN:N<=4294967295)(L:List (List UInt8)):∀y:List UInt32×List (List UInt8),(y.1.length<=1000/\y.2++pieces (val y.1)=L/\L.length=N) ->
  Zu T 0 0 (Gh.norm false [3]) txL (Zk2 y.1 y.2)=some (.n,⟨[(3,.bs (.loc 3) 1 1 0 L.length)],[((.loc 3),⟨1,.own,1,Zcz L⟩)],3⟩):=by
 refine za0 (fun y:List UInt32×List (List UInt8)=>Zk2 y.1 y.2) _ (fun y=>val y.1) _ ?_
 rintro⟨a,l⟩ ⟨ha,hL,hn⟩
 simp only at ha hL hn;have hz:=zen (T:=T) a (by omega);by_cases h0:val a=0
 ·right;rw[h0,zcc,Ybg]at hL;subst hL;constructor<;>simp -implicitDefEqProofs[txL,Zk2,hz,h0]
 ·left;have hq:=zmt (T:=T) a 1000000000 (by omega) (by omega) (by omega);have hn9:=zoa (T:=T) (val a%1000000000) (by omega);have hlen:(ofN (val a/1000000000)).length<=a.length:=Yd (zbb (Yb1 _ _)) (zac a);rw[zcs h0]at hL;have hll:l.length<=4294967295:=by have:=congrArg List.length hL;simp at this;omega
  refine⟨(ofN (val a/1000000000),l++[Zdh 9 (val a%1000000000)]),⟨by simp only;omega,by simp only[zad,Ybc,List.singleton_append];exact hL,hn⟩,?_,?_,rfl⟩
  ·simp only[zad];exact Yc3 (Yal h0) (by decide)
  ·simp -implicitDefEqProofs[txL,Zk2,hz,hq,hn9,h0,hll,zss]
end
section
variable{T:Tbl}[Zn T][Zw T][Zz T][Zr T][Zp T]
theorem zfr:∀k n,n<1000000000^k->(pieces n).length<=k
 | 0,n,h=>by
  have:n=0:=by omega
  subst this;simp[zcc]
 | k+1,n,h=>by
  by_cases h0:n=0
  ·subst h0;simp[zcc]
  ·rw[zcs h0];have:=zfr k (n/1000000000) (Ybi (by rw[Yaf,<-Yac];exact h));simp only[Yg];omega
def znc(a:List UInt32):(pieces (val a)).length<=2*a.length:=by
 refine zfr _ _ (Ym (zay a) ?_);rw[Yc7];exact Ydr (by decide) _
def zot:∀n,∀s∈pieces n,s.length=9:=by
 intro n
 induction n using Nat.strongRecOn with
 | _ n ih=>
  intro s hs;by_cases h0:n=0
  ·subst h0;simp[zcc]at hs
  ·rw[zcs h0]at hs;rcases Yn.1 hs with rfl | hs
   ·exact ze1 9 _
   ·exact ih _ (Yc3 (Yal h0) (by decide)) s hs
theorem zjy:∀(k n:Nat),n≠0->n<10^k->(Zdh k n).dropWhile (· == 48)=Zs n
 | 0,n,h0,h=>by omega
 | k+1,n,h0,h=>by
  rw[zd9];by_cases h1:n<10
  ·have e:n/10=0:=by omega
   have e2:n%10=n:=by omega
   have hz:∀j,(Zdh j 0).dropWhile (· == 48)=[]:=by
    intro j
    induction j with
    | zero=>rfl
    | succ j ih=>rw[zd9,Ydd,Nat.zero_div,ih];rfl
   rw[e,e2,Ydd,hz,zcb h1];have:∀d,d<10->d≠0->List.dropWhile (fun x=>x == 48) [UInt8.ofNat (48+d)]=[UInt8.ofNat (48+d)]:=by decide
   simpa using this n h1 h0
  ·have ih:=zjy k (n/10) (by omega) (Ybi (by rw[Yaf,<-Yac];exact h));have hne:Zs (n/10)≠[]:=by
    unfold Zs;by_cases h2:n/10<10
    ·rw[zjp h2];simp
    ·rw[zp8 h2];simp
   rw[Ydd,ih,zd8 h1];rw[if_neg (by simpa using hne)]
theorem zqh(j:Nat):∀(k n:Nat),Zdh (j+k) n=Zdh j (n/10^k)++Zdh k (n%10^k)
 | 0,n=>by simp[zid]
 | k+1,n=>by
  rw[<-Yap,zd9,zqh j k (n/10),zd9,Ybc];have e1:n/10/10^k=n/10^(k+1):=by rw[Yb3,Yac,Yaf]
  have e2:n/10%10^k=n%10^(k+1)/10:=by rw[Yac,Yaf,Nat.mod_mul_right_div_self]
  have e3:n%10^(k+1)%10=n%10:=by rw[Yac,Nat.mod_mul_left_mod]
  rw[e1,e2,e3]
def zou:∀n,(pieces n).reverse.flatten=Zdh (9*(pieces n).length) n:=by
 intro n
 induction n using Nat.strongRecOn with
 | _ n ih=>
  by_cases h0:n=0
  ·subst h0;simp[zcc,zid]
  ·rw[zcs h0,List.reverse_cons,List.flatten_append,ih _ (Yc3 (Yal h0) (by decide))];simp only[Yg,Ycp,List.flatten_nil,Ybg];rw[show 9*((pieces (n/1000000000)).length+1)=9*(pieces (n/1000000000)).length+9 by omega,zqh]
def zwq:∀n,n<10^(9*(pieces n).length):=by
 intro n
 induction n using Nat.strongRecOn with
 | _ n ih=>
  by_cases h0:n=0
  ·subst h0;simp[zcc]
  ·have h:=ih _ (Yc3 (Yal h0) (by decide:1<1000000000));rw[zcs h0,Yg,Yao,Yb2];exact(Ybb (by decide:0<10^(9*1))).1 h
def zov(n:Nat)(h:n≠0):((pieces n).reverse.flatten).dropWhile (· == 48)=Zs n:=by
 rw[zou];exact zjy _ n h (zwq n)
theorem zdb:∀(l:List (List UInt8)),(∀s∈l,s.length=9)->l.flatten.length=9*l.length
 | [],_=>rfl
 | s::l,h=>by
  rw[Ycp,Yq,h s Yj,zdb l fun s hs=>h s (Yh _ hs),Yg];omega
def Zlg(a:List UInt32):St:=⟨[(3,.bs (.loc 3) 1 1 0 0),(3,.sl [] .nl),(10,.b false),(9,.sl (Za a) .an),(2,.s []),(0,.sl (Za a) .an)],[(.loc 3,⟨1,.own,1,[]⟩)],2⟩
end
section
variable{T:Tbl}
def zafk(a:List UInt32):evX (orc T) T 0 tx3 ⟨[(10,.b false),(9,.sl (Za a) .an),(2,.s []),(0,.sl (Za a) .an)],[],1⟩=some (.n,Zlg a):=by
 simp -implicitDefEqProofs[tx3,Zlg]
end
section
variable{T:Tbl}[Zn T][Zr T][Zp T]
def zafl(a:List UInt32)(hl:a.length<=1000):evX (orc T) T 0 txP (Zlg a) =
  some (.n,⟨[(3,.bs (.loc 3) 1 1 0 (pieces (val a)).length)],[((.loc 3),⟨1,.own,1,Zcz (pieces (val a))⟩)],3⟩):=by
 have hp:=znc a;have h:=zyx (T:=T) (pieces (val a)).length (by omega) (pieces (val a)) (a,[]) ⟨by simpa using hl,rfl,rfl⟩;unfold Zk2 at h;simp[Zcz]at h;simp -implicitDefEqProofs[Zlg,txP,h,Zcz]
end
section
variable{T:Tbl}
def zsc(res:List UInt8):∀l:List UInt8,(l.length<=1000000/\l.dropWhile (· == 48)=res) ->
  Zu T 0 0 (.norm false [0]) l125_0 ⟨[(0,.s l),(1,u8 48)],[],2⟩=some (.n,⟨[(0,.s res)],[],2⟩):=by
 refine za0 (fun l:List UInt8=>⟨[(0,.s l),(1,u8 48)],[],2⟩) _ (fun l=>l.length) _ ?_
 rintro l ⟨hl,hr⟩
 cases l with
 | nil=>
  right;simp at hr;subst hr;constructor<;>simp -implicitDefEqProofs[l125_0]
 | cons c r=>
  simp only[Yg]at hl;have h2:(0:Int)<(r.length:Int)+1:=by omega
  have h3:(1:Int)<=(r.length:Int)+1:=by omega
  by_cases hc:c=48
  ·left;subst hc;rw[List.dropWhile_cons_of_pos (by decide)]at hr;exact⟨r,⟨by omega,hr⟩,Y1 _,by simp -implicitDefEqProofs[l125_0,h2,h3],rfl⟩
  ·right;rw[List.dropWhile_cons_of_neg (by simpa using hc)]at hr;subst hr;have hc':¬ c.toNat=48:=fun h=>hc (UInt8.toNat_inj.1 h);constructor<;>simp -implicitDefEqProofs[l125_0,h2,hc']
end
section
variable{T:Tbl}[Zhi T]
def zv2(l:List UInt8)(hl:l.length<=1000000):Zb T 103 [.s l,.s [48]]=some (.s (l.dropWhile (· == 48))):=by
 have h:=zsc (T:=T) _ l ⟨hl,rfl⟩;have h1:Zb T 125 [.s l,u8 48]=some (.s (l.dropWhile (· == 48))):=by
  rw[zaa Zhi.h125 rfl,b125];simp -implicitDefEqProofs[h]
 obtain⟨Z,hZ⟩:∃Z,b103=(.seq
 (.reg [⟨(some 4),none,.mov (.c (.s []))⟩])
 (.seq
  (.seq
  (.reg [⟨(some 7),none,.mov (.t 0)⟩,
   ⟨(some 8),none,.bin .eql (.t 7) (.c (.s []))⟩,
   ⟨(some 9),none,.mov (.t 8)⟩,
   ⟨(some 10),(some (9,false)),.mov (.t 1)⟩,
   ⟨(some 11),(some (9,false)),.bin .eql (.t 10) (.c (.s []))⟩,
   ⟨(some 12),none,.pick (.t 9) (.c (.b true)) (.t 11)⟩])
  (.cond (.t 12)
   (.seq
   (.reg [⟨(some 13),none,.mov (.t 0)⟩,
    ⟨(some 4),none,.mov (.t 13)⟩])
   (.pre (.norm false [4]) .ret))
   .skip))
  (.seq
  (.seq
   (.reg [⟨(some 14),none,.mov (.t 1)⟩,
    ⟨(some 15),none,.lens (.t 14)⟩,
    ⟨(some 16),none,.bin .eql (.t 15) (.c (.i .i64 1))⟩,
    ⟨(some 17),none,.mov (.t 16)⟩,
    ⟨(some 18),(some (17,true)),.mov (.t 1)⟩,
    ⟨(some 19),(some (17,true)),.ixs (.t 18) (.c (.i .i64 0))⟩,
    ⟨(some 20),(some (17,true)),.bin .lss (.t 19) (.c (u8 128))⟩,
    ⟨(some 21),none,.pick (.t 17) (.t 20) (.c (.b false))⟩])
   (.cond (.t 21)
   (.seq
    (.reg [⟨(some 22),none,.mov (.t 0)⟩,
     ⟨(some 23),none,.mov (.t 1)⟩,
     ⟨(some 24),none,.ixs (.t 23) (.c (.i .i64 0))⟩,
     ⟨(some 25),none,.call 125 [(.t 22),(.t 24)]⟩,
     ⟨(some 4),none,.mov (.t 25)⟩])
    (.pre (.norm false [4]) .ret))
   .skip)) Z)):AX):=⟨_,rfl⟩
 rw[zaa Zhi.h103 rfl,hZ];by_cases h0:l=[]
 ·subst h0;simp -implicitDefEqProofs
 ·simp -implicitDefEqProofs[h0,h1]
end
section
variable{P:Program}{ν:Nat->FuncId}{T:Tbl}
def zux(hT:TOk P ν T)(hm:P.follows .mixedOrders=true){cx:Cx}(hP:cx.P=P)(hk:cx.clk0=1)(c:AX){code:Code}{nt:Nat}(hnt:cx.nt=nt)(hres:Zl P nt code=some (er ν (Zd T) c)){st:St}{e:Ex}{st':St}
  (h:evX (orc T) T 0 c st=some (e,st')) {a:Act} {w:World} (hr:Rel cx st a w) {K:Exit->Act->World->Prop} (hK:∀a' w',Rel cx st' a' w'->K e.out a' w'):code.wp P K a w:=by
 obtain⟨L,h1,h2⟩:=zca T 0 c st _ _ h;obtain⟨n,hn⟩:=zn7 T h1;have hev:=zaw (GoodO.orcN hT hm n) (k:=0) (cx:=cx) hP hk c st e st' (h2 _ hn);subst hP hnt;refine wp_mono (hev code hres hm a w hr) ?_
 rintro ex a' w' ⟨s,⟨rfl,rfl⟩,hr'⟩
 exact hK a' w' hr'
def zuy{nt:Nat}{w:World}{S:Nat->Nat->Prop}{cargs:Array Value}{args:List AV}(hl:cargs.size=args.length)(hn:args.length<=nt)
  (hC:∀(j:Nat) (v:Value) (c:AV),cargs[j]? = some v->args[j]? = some c->CP w S v c) (hS:∀k o,S k o->k<w.heap.size) :
  Rel ⟨P,nt,w,S,fun _=>none,1⟩ ⟨Zca args,[],1⟩ { tmps:=cargs++Array.replicate (nt-cargs.size) undef,defers:=[] } w:=by
 refine⟨S,fun _=>none,by simp;omega,rfl,fun t=>?_,⟨⟨fun b bx hb=>(by simp at hb),fun g m hm=>(by cases hm),fun b bx b' bx' h1=>(by simp at h1),fun g g' k h1=>(by cases h1)⟩,
  Ext.refl _ _ _ _,⟨rfl,rfl,rfl,Yi _,fun _ _ _=>rfl⟩,fun k o hs=>.inl hs,hS,fun g k hm=>(by cases hm)⟩⟩
 rw[zi3];cases ha:args[t]? with
 | none=>exact .p (.dead _)
 | some x=>
  have htl:=zb1 ha;have hv:cargs[t]? = some (cargs[t]'(by omega)):=Yz _;have e1:(cargs++Array.replicate (nt-cargs.size) undef).getD t undef=cargs[t]'(by omega):=by
   simp only[Ybz];rw[Yb4 (by omega),hv]
   rfl
  rw[e1];exact .p (hC t _ x hv ha)
def Rel.below{nt:Nat}{w0:World}{S:Nat->Nat->Prop}{st:St}{a:Act}{w:World}(h:Rel ⟨P,nt,w0,S,fun _=>none,1⟩ st a w):RowKit.Below w0.heap.size w0 w:=by
 obtain⟨S',M',hr⟩:=h;exact⟨hr.wr.fr.os,hr.wr.fr.tape,hr.wr.fr.output,hr.wr.fr.size,fun k hk=>hr.wr.fr.block k hk fun⟨g,hg⟩=>(by cases hg)⟩
def Rel.strAt{cx:Cx}{st:St}{a:Act}{w:World}(h:Rel cx st a w){t:Nat}{l:List UInt8}(he:st.env.get t=.s l):a.tmps.getD t undef=.string ⟨l.toArray⟩:=by
 obtain⟨S',M',hr⟩:=h;have:=hr.env t;rw[he]at this;generalize a.tmps.getD t undef=v at *
 cases this with
 | p h=>cases h;rfl
def Rel.strs{cx:Cx}{st:St}{a:Act}{w:World}(h:Rel cx st a w){t:Nat}{b:BId}{g n:Nat}{ls:List (List UInt8)}(hne:ls≠[])(he:st.env.get t=.bs b g 1 0 n)
  (hb:st.heap.lookup b=some ⟨g,.own,1,ls.map fun s=>[.s s]⟩):∃k arr e cap,a.tmps.getD t undef=.slice (some ⟨k,0,none⟩) n cap/\w.heap[k]? = some (.cells arr e (0,0))/\n<=cap/\cap<=maxLen/\cap<=arr.size /\
   ∀(i:Nat) (s:List UInt8),ls[i]? = some s->arr[i]? = some (Value.string ⟨s.toArray⟩):=by
 obtain⟨S',M',hr⟩:=h;have h1:=hr.env t;rw[he]at h1;obtain⟨_,_,m,hm,h2⟩:=hr.wr.heap.box b _ hb;simp only at hm h2;generalize a.tmps.getD t undef=v at *
 cases h1 with
 | p h=>cases h
 | bs _ _ _ _ _ _ hg hB h1=>
  unfold Zfc at hB;rw[hm]at hB;cases m with
  | none=>exact absurd (by simpa using h2.1) hne
  | some k=>
   obtain⟨arr,e,cap,hk,hv,c1,c2,c3⟩:=hB;obtain⟨arr',e',hk',_,hcells,_⟩:=h2;rw[hk]at hk';cases hk';refine⟨k,arr,e,cap,by rw[hv],hk,c1,c2,by omega,fun i s hi=>?_⟩;obtain⟨u,hu,_,_,hc⟩:=hcells i [.s s] 0 (.s s) (by simp[hi]) rfl;have:=hc (by simp);rw[Ydn,Yaa]at hu;cases this;exact hu
end
end Go.Ab
section
namespace Go.Proofs.YthhddiiohgfamaaGreatDoor
open Go Go.Ab Go.RowKit
def list_cons{α:Type}{n:Nat}{l:List α}(h:l.length=n+1):∃x t,l=x::t/\t.length=n:=by
 cases l with
 | nil=>simp at h
 | cons x t=>exact⟨x,t,rfl,by simpa using h⟩
set_option maxHeartbeats 2000000 in
set_option maxRecDepth 100000 in
def text_calls(hm:Tryz.prog.follows .mixedOrders=true)(a:List UInt32)(hl:a.length<=1000){w0:World}{S:Nat->Nat->Prop}{cargs:Array Value}(hsz:cargs.size=1)
  (hC:∀(j:Nat) (v:Value) (c:AV),cargs[j]? = some v->[AV.sl (Za a) .an][j]? = some c->CP w0 S v c) (hS:∀k o,S k o->k<w0.heap.size) :
  Calls Tryz.prog 83 cargs w0 fun e w'=>e=.returned (.string ⟨(Zs (val a)).toArray⟩)/\Below w0.heap.size w0 w':=by
 refine calls_of_wp Tryz.func83 rfl ?_;have h0:=zuy (P:=Tryz.prog) (nt:=40) (w:=w0) (S:=S) (cargs:=cargs) (args:=[AV.sl (Za a) .an]) (by simpa using hsz) (by simp) hC hS;refine wp_seq (zux sTab_ok hm (cx:=⟨Tryz.prog,40,w0,S,fun _=>none,1⟩) rfl rfl tx0 (nt:=40) rfl (by kernel_rfl) (sTab_part.ev (by kernel_rfl) (zafj (T:=tab) _)) h0 fun a1 w1 h1=>?_);refine wp_seq ?_;by_cases hz:val a=0
 ·refine zux sTab_ok hm (cx:=⟨Tryz.prog,40,w0,S,fun _=>none,1⟩) rfl rfl txA (nt:=40) rfl (by kernel_rfl) (sTab_part.ev (by kernel_rfl) (z7f (T:=tab) a hl hz)) h1 fun a2 w2 h2=>?_;have hv:=h2.strAt (t:=2) (l:=[48]) rfl;have hb:=h2.below;have ht:Zs (val a)=[48]:=by rw[hz];exact zcb (by decide)
  obtain⟨_,_,hr2⟩:=h2;refine(show bodyPost Tryz.prog Tryz.f83 (fun e w'=>e=.returned (.string ⟨(Zs (val a)).toArray⟩)/\Below w0.heap.size w0 w') .ret a2 w2 from ?_);refine⟨hr2.defers,.string ⟨[48].toArray⟩,?_,by rw[ht],hb⟩;rw[<-hv];exact results_tmp rfl _ _ _
 ·refine zux sTab_ok hm (cx:=⟨Tryz.prog,40,w0,S,fun _=>none,1⟩) rfl rfl txA (nt:=40) rfl (by kernel_rfl) (sTab_part.ev (by kernel_rfl) (z7g (T:=tab) a hl hz)) h1 fun a2 w2 h2=>?_;refine wp_seq (zux sTab_ok hm (cx:=⟨Tryz.prog,40,w0,S,fun _=>none,1⟩) rfl rfl tx3 (nt:=40) rfl (by kernel_rfl) (sTab_part.ev (by kernel_rfl) (zafk (T:=tab) a)) h2 fun a3 w3 h3=>?_);refine wp_seq (zux sTab_ok hm (cx:=⟨Tryz.prog,40,w0,S,fun _=>none,1⟩) rfl rfl txP (nt:=40) rfl (by kernel_rfl) (sTab_part.ev (by kernel_rfl) (zafl (T:=tab) a hl)) h3 fun a4 w4 h4=>?_);have hb4:=h4.below;have hne:pieces (val a)≠[]:=by rw[zcs hz];simp
  obtain⟨k,arr,e,cap,hv,hk,hc1,hc2,hc3,hcells⟩:=h4.strs (t:=3) (ls:=pieces (val a)) hne rfl (by simp[Zcz]);obtain⟨_,_,hr4⟩:=h4;have hdf:=hr4.defers;have hsz:=hr4.size;have hpl:=znc a;clear hr4 h0 h1 h2 h3
  change Code.wp _ _ _ a4 w4
  obtain⟨tm,df⟩:=a4;obtain⟨l,rfl⟩:∃l:List Value,tm=l.toArray:=⟨tm.toList,by simp⟩;simp only[Ybx]at hsz;simp only at hdf;subst hdf;obtain⟨x0,l0,rfl,s0⟩:=list_cons hsz;obtain⟨x1,l1,rfl,s1⟩:=list_cons s0;obtain⟨x2,l2,rfl,s2⟩:=list_cons s1;obtain⟨x3,l3,rfl,s3⟩:=list_cons s2;obtain⟨x4,l4,rfl,s4⟩:=list_cons s3;obtain⟨x5,l5,rfl,s5⟩:=list_cons s4;obtain⟨x6,l6,rfl,s6⟩:=list_cons s5;obtain⟨x7,l7,rfl,s7⟩:=list_cons s6;obtain⟨x8,l8,rfl,s8⟩:=list_cons s7;obtain⟨x9,l9,rfl,s9⟩:=list_cons s8;obtain⟨x10,l10,rfl,s10⟩:=list_cons s9;obtain⟨x11,l11,rfl,s11⟩:=list_cons s10;obtain⟨x12,l12,rfl,s12⟩:=list_cons s11;obtain⟨x13,l13,rfl,s13⟩:=list_cons s12;obtain⟨x14,l14,rfl,s14⟩:=list_cons s13;obtain⟨x15,l15,rfl,s15⟩:=list_cons s14;obtain⟨x16,l16,rfl,s16⟩:=list_cons s15;obtain⟨x17,l17,rfl,s17⟩:=list_cons s16;obtain⟨x18,l18,rfl,s18⟩:=list_cons s17;obtain⟨x19,l19,rfl,s19⟩:=list_cons s18;obtain⟨x20,l20,rfl,s20⟩:=list_cons s19;obtain⟨x21,l21,rfl,s21⟩:=list_cons s20;obtain⟨x22,l22,rfl,s22⟩:=list_cons s21;obtain⟨x23,l23,rfl,s23⟩:=list_cons s22;obtain⟨x24,l24,rfl,s24⟩:=list_cons s23;obtain⟨x25,l25,rfl,s25⟩:=list_cons s24;obtain⟨x26,l26,rfl,s26⟩:=list_cons s25;obtain⟨x27,l27,rfl,s27⟩:=list_cons s26;obtain⟨x28,l28,rfl,s28⟩:=list_cons s27;obtain⟨x29,l29,rfl,s29⟩:=list_cons s28;obtain⟨x30,l30,rfl,s30⟩:=list_cons s29;obtain⟨x31,l31,rfl,s31⟩:=list_cons s30;obtain⟨x32,l32,rfl,s32⟩:=list_cons s31;obtain⟨x33,l33,rfl,s33⟩:=list_cons s32;obtain⟨x34,l34,rfl,s34⟩:=list_cons s33;obtain⟨x35,l35,rfl,s35⟩:=list_cons s34;obtain⟨x36,l36,rfl,s36⟩:=list_cons s35;obtain⟨x37,l37,rfl,s37⟩:=list_cons s36;obtain⟨x38,l38,rfl,s38⟩:=list_cons s37;obtain⟨x39,l39,rfl,s39⟩:=list_cons s38;cases Yag s39;have hx3:x3=.slice (some ⟨k,0,none⟩) (pieces (val a)).length cap:=hv;subst hx3;have hjoin:=zov (val a) hz;have hall:=zot (val a);generalize pieces (val a)=ps at *
  have HC:Aside (∀(i:Nat) (s:List UInt8),ps[i]? = some s->arr[i]? = some (Value.string ⟨s.toArray⟩)):=hcells;have HJ:Aside (List.dropWhile (fun x=>x == 48) ps.reverse.flatten=Zs (val a)):=hjoin;have HN:Aside (∀s∈ps,s.length=9):=hall;have HB:Aside (Below w0.heap.size w0 w4):=hb4;have HK:Aside (w4.heap[k]? = some (.cells arr e (0,0))):=hk;have hk4:k<w4.heap.size:=by
   rcases Yv k w4.heap.size with h' | h'
   ·exact h'
   ·simp[Yd5 h']at hk
  clear hcells hjoin hall hb4 hk
  go_wp2
  go_loopg [8] ps.length (fun g s8 wx=>s8=.int .i64 ((g:Int)-1)/\g<=ps.length/\Aside (Lib.IsBuilder 92 5 w4.heap.size w4.heap.size (Lib.byteCells (ps.drop g).reverse.flatten) wx/\Below w4.heap.size w4 wx))
  case atStart=>exact⟨rfl,Yi _,by rw[Yah];exact Lib.fresh_isBuilder 92 5 w4,(Below.refl _ _).alloc (Yi _) _⟩
  case round=>
   obtain⟨rfl,hg,HW⟩:=hrel;cases gk with
   | zero=>
    obtain⟨hBld,hBel⟩:=HW.out;rw[Yat]at hBld;have hne':ps.reverse.flatten≠[]:=by
     intro h;have:=zdb ps.reverse (fun s hs=>HN.out s (Yd4.1 hs));rw[h]at this;simp at this;exact hne (Yag (by omega))
    have HT:Aside (ps.reverse.flatten≠[]):=hne';clear hne';have hlenF:ps.reverse.flatten.length<=1000000:=by
     rw[zdb ps.reverse (fun s hs=>HN.out s (Yd4.1 hs)),List.length_reverse];omega
    have hT:∀W:World,Calls Tryz.prog 118 #[.string ⟨ps.reverse.flatten.toArray⟩,.string ⟨#[48]⟩] W fun e w'=>e=.returned (.string ⟨(Zs (val a)).toArray⟩)/\Below W.heap.size W w':=by
     intro W;have h1:=zdo sTab_ok hm (u:=103) rfl rfl (sTab_part.call (by kernel_rfl) (zv2 (T:=tab) ps.reverse.flatten hlenF));rw[HJ.out]at h1;refine(h1.2 W (fun _ _=>False) #[.string ⟨ps.reverse.flatten.toArray⟩,.string ⟨#[48]⟩] rfl (fun j v c hv hc=>?_) (fun _ _ h=>h.elim)).mono ?_
     ·match j,hv,hc with
      | 0,hv,hc=>cases hv;cases hc;exact .s _
      | 1,hv,hc=>cases hv;cases hc;exact .s _
     ·rintro e w' ⟨v,r,rfl,rfl,hb,hc⟩
      cases hc;exact⟨rfl,hb⟩
    have HTT:=hT;clear hT
    go_wp2_with (go_at_call 53;refine(Tryz.bString w4.heap.size w4.heap.size ps.reverse.flatten wr hBld HT.out).mono ?_)
    rintro e1 w5 ⟨rfl,hb5⟩
    go_wp2_with (go_at_call 118;refine(HTT w5).mono ?_)
    rintro e2 w6 ⟨rfl,hb6⟩
    go_wp2
    go_ret
    refine⟨rfl,?_⟩;have hs1:=HB.out.size;have hs5:=(hBel.trans hb5).size;exact HB.out.trans (((hBel.trans hb5).mono hs1).trans (hb6.mono (by omega)))
   | succ j=>
    obtain⟨hBld,hBel⟩:=HW.out;obtain⟨s,hs⟩:∃s,ps[j]? = some s:=⟨_,Ya (by omega)⟩;have hcell:wr.cell? ⟨k,j,none⟩=some (.string ⟨s.toArray⟩):=by
     rw[hBel.cell (p:=⟨k,j,none⟩) hk4,Lib.cell_of_heap HK.out];exact HC.out j s hs
    have hs9:s.length=9:=HN.out s (Yc hs);have hflen:=zdb (ps.drop (j+1)).reverse (fun s hs=>HN.out s (Yb9 (Yd4.1 hs)));have HS:Aside (ps[j]? = some s):=hs;clear hs;rw[List.length_reverse,Ybp]at hflen;have hbound:(Lib.byteCells (ps.drop (j+1)).reverse.flatten).length+(⟨s.toArray⟩:ByteArray).size<=140737488355328:=by
     rw[Lib.byteCells_length,hflen];show _+s.toArray.size<=_;simp only[Ybx];omega
    have HF:Aside ((Lib.byteCells (ps.drop (j+1)).reverse.flatten).length+(⟨s.toArray⟩:ByteArray).size<=140737488355328):=hbound;clear hflen hbound
    go_wp2_with (go_at_call 49;refine(Tryz.bWrite w4.heap.size w4.heap.size _ ⟨s.toArray⟩ wr hBld HF.out hBel.size).mono ?_)
    rintro e1 w5 ⟨rfl,h5,hb5⟩
    go_wp2
    go_roundg j
    case measure=>omega
    case rel=>
     refine⟨by congr 1,by omega,?_,hBel.trans hb5⟩;have e1:(ps.drop j).reverse.flatten=(ps.drop (j+1)).reverse.flatten++s:=by
      obtain⟨hj,he⟩:=Yr.1 HS.out;rw[Yp hj,he];simp
     rw[e1,Lib.byteCells_append];exact .inr h5
theorem word_rows:∀(els:List (List AV)) (l:List UInt32),els.mapM Zdp=some l->els=Za l
 | [],l,h=>by cases h;rfl
 | r::els,l,h=>by
  rw[Ya4]at h;obtain⟨x,hx,h1⟩:=bind_some h;obtain⟨y,hy,h2⟩:=bind_some h1;cases h2;rw[word_rows els y hy];unfold Zdp at hx;split at hx
  ·split at hx
   ·cases hx;rename_i n hn;have:(w32 n.toNat).toNat=n.toNat:=zaf (by omega);simp only[Za,Yx,this,u32];rw[Ydo hn.1]
   ·cases hx
  ·cases hx
def text_ok(hm:Tryz.prog.follows .mixedOrders=true):∀xs r,prim68 xs=some r->Z6 Tryz.prog (nu 68) xs (·=r):=by
 intro xs r h;unfold prim68 at h;split at h
 ·split at h
  ·rename_i els hl;cases hw:els.mapM Zdp with
   | none=>rw[hw]at h;cases h
   | some l=>
    rw[hw]at h;cases h;have he:=word_rows els l hw;subst he;rw[zhv]at hl;refine⟨enters_of Tryz.func83 (by kernel_rfl) rfl,fun w S cargs hsz hC hS=>?_⟩;refine(text_calls hm l hl (by simpa using hsz) hC hS).mono ?_
    rintro e w' ⟨rfl,hb⟩
    exact⟨_,_,rfl,rfl,hb,.s _⟩
  ·cases h
 ·cases h
#print axioms text_ok
end Go.Proofs.YthhddiiohgfamaaGreatDoor
end
section
set_option linter.unusedVariables false
namespace Go.Proofs
open Go.Shelf Go.RowKit
variable{P:Program}{ρ:Ren}
structure JL (P:Program) (ρ:Ren):Prop extends Lays.n169 P ρ,Lays.n241 P ρ,Builder.Extra P ρ where
 f156:P.funcs[ρ.f 156]? = some (Body.n156 ρ)
 f165:P.funcs[ρ.f 165]? = some (Body.n165 ρ)
 f166:P.funcs[ρ.f 166]? = some (Body.n166 ρ)
 t4:P.underlying (ρ.t 4)=some (TypeDesc.bool)
 a4:∀w,(isAgg (ρ.t 4)).run P w=.ok false w
 z4:∀w,(Go.sizeOf (ρ.t 4)).run P w=.ok 1 w
 v4:∀w,(zeroValue (ρ.t 4)).run P w=.ok (Value.bool false) w
 t20:P.underlying (ρ.t 20)=some (TypeDesc.interface #[])
 a20:∀w,(isAgg (ρ.t 20)).run P w=.ok false w
 z20:∀w,(Go.sizeOf (ρ.t 20)).run P w=.ok 1 w
 v20:∀w,(zeroValue (ρ.t 20)).run P w=.ok (Value.nilIface) w
 t31:P.underlying (ρ.t 31)=some (TypeDesc.slice (ρ.t 9))
 a31:∀w,(isAgg (ρ.t 31)).run P w=.ok false w
 z31:∀w,(Go.sizeOf (ρ.t 31)).run P w=.ok 1 w
 v31:∀w,(zeroValue (ρ.t 31)).run P w=.ok (Value.slice none 0 0) w
 t75:P.underlying (ρ.t 75)=some (TypeDesc.interface #[("Error",ρ.t 80)])
 a75:∀w,(isAgg (ρ.t 75)).run P w=.ok false w
 z75:∀w,(Go.sizeOf (ρ.t 75)).run P w=.ok 1 w
 v75:∀w,(zeroValue (ρ.t 75)).run P w=.ok (Value.nilIface) w
 t76:P.underlying (ρ.t 76)=some (TypeDesc.tuple #[ρ.t 3,ρ.t 75])
 a76:∀w,(isAgg (ρ.t 76)).run P w=.ok false w
 z76:∀w,(Go.sizeOf (ρ.t 76)).run P w=.ok 1 w
 v76:∀w,(zeroValue (ρ.t 76)).run P w=.ok (Value.tuple #[Value.int IntKind.i64 0,Value.nilIface]) w
 t164:P.underlying (ρ.t 164)=some (TypeDesc.unsafePointer)
 a164:∀w,(isAgg (ρ.t 164)).run P w=.ok false w
 z164:∀w,(Go.sizeOf (ρ.t 164)).run P w=.ok 1 w
 v164:∀w,(zeroValue (ρ.t 164)).run P w=.ok (Value.pointer none) w
 e240:∀args w,(callFunc (ρ.f 240) args).run P w=.ok (.enter (ρ.f 240) args) w
 c240:∀(B b:Nat) (bs:List Value) (w:World),Lib.IsBuilder (ρ.t 72) (ρ.t 5) B b bs w ->
  Calls P (ρ.f 240) #[.pointer (some ⟨b,0,none⟩)] w fun e w'=>e=.returned (.tuple #[])/\(Lib.BuilderAt (ρ.t 72) (ρ.t 5) B b (.pointer (some ⟨b,0,none⟩)) bs w'/\Below B w w')
 c240f:∀(b:Nat) (w:World),w.cell? ⟨b,0,none⟩=some (.pointer none)->w.shape? b=some ((ρ.t 72),2)->w.frozen? ⟨b,0,none⟩=false ->
  Calls P (ρ.f 240) #[.pointer (some ⟨b,0,none⟩)] w fun e w'=>e=.returned (.tuple #[])/\w'=w.setCell ⟨b,0,none⟩ (.pointer (some ⟨b,0,none⟩))
def Jl.hid{p:Prop}(h:p):Hid p:=h
set_option maxHeartbeats 2000000 in
set_option maxRecDepth 100000 in
def Jl.Builder_WriteString(L:JL P ρ)(B b:Nat)(bs:List Value)(s:ByteArray)(w:World)(h:Lib.IsBuilder (ρ.t 72) (ρ.t 5) B b bs w)(hlen:bs.length+s.size<=140737488355328)(hBw:B<=w.heap.size) :
  Calls P (ρ.f 166) #[.pointer (some ⟨b,0,none⟩),.string s] w fun e w'=>e=.returned (.tuple #[.int .i64 s.size,.nilIface])/\(Lib.BuilderAt (ρ.t 72) (ρ.t 5) B b (.pointer (some ⟨b,0,none⟩)) (bs++Lib.strCells s) w'/\Below B w w'):=by
 obtain⟨i0,hi,hz0,hz1,hz2⟩:=info_parts L.infoByte;have mixed:=L.mixed;have t72:=L.t72;have a72:=L.a72;have z72:=L.z72;have v72:=L.v72;have u72:=run_underlying L.t72;have t70:=L.t70;have a70:=L.a70;have z70:=L.z70;have v70:=L.v70;have u70:=run_underlying L.t70;have t37:=L.t37;have a37:=L.a37;have z37:=L.z37;have v37:=L.v37;have u37:=run_underlying L.t37;have t3:=L.t3;have a3:=L.a3;have z3:=L.z3;have v3:=L.v3;have u3:=run_underlying L.t3;have t9:=L.t9;have a9:=L.a9;have z9:=L.z9;have v9:=L.v9;have u9:=run_underlying L.t9;have t4:=L.t4;have a4:=L.a4;have z4:=L.z4;have v4:=L.v4;have u4:=run_underlying L.t4;have t164:=L.t164;have a164:=L.a164;have z164:=L.z164;have v164:=L.v164;have u164:=run_underlying L.t164;have t5:=L.t5;have a5:=L.a5;have z5:=L.z5;have v5:=L.v5;have u5:=run_underlying L.t5;have e240:∀args w,(callFunc (ρ.f 240) args).run P w=.ok (.enter (ρ.f 240) args) w:=L.e240
 go_enter L.f166,Body.n166_ntmps ρ
 go_wp2_with (go_at_fn (ρ.f 240);refine(L.c240 B b bs _ h).mono ?_)
 rintro e w1 ⟨rfl,h1,hb1⟩
 obtain⟨hB,v,hbk,hown,hne⟩:=h1;have c0:w1.cell? ⟨b,0,none⟩=some (.pointer (some ⟨b,0,none⟩)):=by rw[Lib.cell_of_heap hbk];rfl
 have c1:w1.cell? ⟨b,1,none⟩=some v:=by rw[Lib.cell_of_heap hbk];rfl
 go_wp2_with (at_builtin;refine Lib.wpList_append_own_string _ rfl _ _ (ρ.t 37) (ρ.t 9) rfl B (ρ.t 5) i0 L.t37 L.t9 hi hz0 hz1 hz2 _ _ _ rfl hown s rfl ?c3 ?c4 ?c5 ?_)
 case c3=>unfold maxLen;omega
 case c4=>omega
 case c5=>have:=hb1.size;omega
 intro v' w2 hown' hgrow _;have hlt:b<w1.heap.size:=by
  rcases Nat.lt_or_ge b w1.heap.size with h' | h'
  ·exact h'
  ·simp[Array.getElem?_eq_none h']at hbk
 have hb2:w2.heap[b]? = some (.cells #[.pointer (some ⟨b,0,none⟩),v] (ρ.t 72) (0,0)):=by
  rw[hgrow.block b hlt (fun e=>hne e.symm)];exact hbk
 have d0:w2.cell? ⟨b,0,none⟩=some (.pointer (some ⟨b,0,none⟩)):=by rw[Lib.cell_of_heap hb2];rfl
 have d1:w2.cell? ⟨b,1,none⟩=some v:=by rw[Lib.cell_of_heap hb2];rfl
 have f1:w2.frozen? ⟨b,1,none⟩=false:=Lib.frozen_of_heap hb2 1;obtain⟨ao,n',cap,rfl⟩:∃ao n' cap,v'=.slice ao n' cap:=by
  rcases hown'.2 with ⟨hv,_⟩ | ⟨g,cap,cur,hv,_⟩
  ·exact⟨_,_,_,hv⟩
  ·exact⟨_,_,_,hv⟩
 go_wp2
 go_ret2
 refine⟨rfl,?_,?_⟩
 ·exact Lib.BuilderAt.put (T:=(ρ.t 72)) (e:=(ρ.t 5)) hB hb2 (bs':=bs++Lib.strCells s) (by simpa[Lib.strCells_length]using hown') L.neB5
 ·exact(hb1.grown hgrow (by have:=hb1.size;omega) (fun k hk=>(hown.lt k hk).1)).setCell (p:=⟨b,1,none⟩) hB _
set_option maxHeartbeats 2000000 in
set_option maxRecDepth 1000000 in
def Jl.Builder_Grow_fresh(L:JL P ρ)(B b n:Nat)(w:World)(hB:B<=b)(hbk:w.heap[b]? = some (.cells #[.pointer none,.slice none 0 0] (ρ.t 72) (0,0)))(hBw:B<=w.heap.size)(hn:n<=281474976710656) :
  Calls P (ρ.f 165) #[.pointer (some ⟨b,0,none⟩),.int .i64 n] w fun e w'=>e=.returned (.tuple #[])/\(Lib.BuilderAt (ρ.t 72) (ρ.t 5) B b (.pointer (some ⟨b,0,none⟩)) [] w'/\Below B w w'):=by
 have hbk1:(w.setCell ⟨b,0,none⟩ (.pointer (some ⟨b,0,none⟩))).heap[b]? = some (.cells #[.pointer (some ⟨b,0,none⟩),.slice none 0 0] (ρ.t 72) (0,0)):=by
  simp[World.setCell,Array.getElem?_modify,hbk]
 have c1:(w.setCell ⟨b,0,none⟩ (.pointer (some ⟨b,0,none⟩))).cell? ⟨b,1,none⟩=some (.slice none 0 0):=by rw[Lib.cell_of_heap hbk1];rfl
 have hb1:Below B w (w.setCell ⟨b,0,none⟩ (.pointer (some ⟨b,0,none⟩))):=(Below.refl B w).setCell (p:=⟨b,0,none⟩) hB _;have mixed:=L.mixed;have t72:=L.t72;have a72:=L.a72;have z72:=L.z72;have v72:=L.v72;have u72:=run_underlying L.t72;have t70:=L.t70;have a70:=L.a70;have z70:=L.z70;have v70:=L.v70;have u70:=run_underlying L.t70;have t37:=L.t37;have a37:=L.a37;have z37:=L.z37;have v37:=L.v37;have u37:=run_underlying L.t37;have t3:=L.t3;have a3:=L.a3;have z3:=L.z3;have v3:=L.v3;have u3:=run_underlying L.t3;have t9:=L.t9;have a9:=L.a9;have z9:=L.z9;have v9:=L.v9;have u9:=run_underlying L.t9;have t4:=L.t4;have a4:=L.a4;have z4:=L.z4;have v4:=L.v4;have u4:=run_underlying L.t4;have t164:=L.t164;have a164:=L.a164;have z164:=L.z164;have v164:=L.v164;have u164:=run_underlying L.t164;have t5:=L.t5;have a5:=L.a5;have z5:=L.z5;have v5:=L.v5;have u5:=run_underlying L.t5;have e240:∀args w,(callFunc (ρ.f 240) args).run P w=.ok (.enter (ρ.f 240) args) w:=L.e240;have e241:∀args w,(callFunc (ρ.f 241) args).run P w=.ok (.enter (ρ.f 241) args) w:=enters_of L.f241 (by kernel_rfl) rfl
 go_enter L.f165,Body.n165_ntmps ρ
 have hU:Lib.BuilderAt (ρ.t 72) (ρ.t 5) B b (.pointer (some ⟨b,0,none⟩)) [] (w.setCell ⟨b,0,none⟩ (.pointer (some ⟨b,0,none⟩))):=⟨hB,.slice none 0 0,hbk1,World.ownsRow_nil _ _ _ _,by simp[Value.ownBlock]⟩;have c1':(w.setCell ⟨b,0,none⟩ (.pointer (some ⟨b,0,none⟩))).drew.cell? ⟨b,1,none⟩=some (.slice none 0 0):=c1
 go_wp2_with (go_at_fn (ρ.f 240);refine(L.c240f b w (by rw[Lib.cell_of_heap hbk];rfl) (by simp[World.shape?,hbk]) (Lib.frozen_of_heap hbk 0)).mono ?_;rintro e w' ⟨rfl,rfl⟩)
 go_region_o
 all_goals go_wp2_with (go_at_fn (ρ.f 241);refine(Any.Builder_grow_fresh L.ton241 L.toExtra B b n (w.setCell ⟨b,0,none⟩ (.pointer (some ⟨b,0,none⟩))).drew hB hbk1 (by simpa[World.setCell,World.drew,-World.drew_eq]using hBw) hn).mono ?_;rintro e w' ⟨rfl,h1,h2⟩)
 all_goals first
  | (go_end0;exact⟨rfl,h1,hb1.drew.trans h2⟩)
  | (go_end0;exact⟨rfl,hU.drew,hb1.drew⟩)
def Jl.strings_Join_none(L:JL P ρ)(a:Option Addr)(c:Nat)(sep:ByteArray)(w:World) :
  Calls P (ρ.f 156) #[.slice a 0 c,.string sep] w fun e w'=>e=.returned (.string ⟨#[]⟩)/\w'=w:=by
 have u72:=run_underlying L.t72;have u70:=run_underlying L.t70;have u37:=run_underlying L.t37;have u127:=run_underlying L.t127;have u3:=run_underlying L.t3;have u9:=run_underlying L.t9;have u4:=run_underlying L.t4;have u164:=run_underlying L.t164;have t31:=L.t31;have u31:=run_underlying L.t31;have u5:=run_underlying L.t5
 go_enter L.f156,Body.n156_ntmps ρ
 go_wp2
 go_ret
 simp_all
def Jl.strings_Join_one(L:JL P ρ)(bk o c:Nat)(x sep:ByteArray)(w:World)(hc:w.cell? ⟨bk,o,none⟩=some (.string x)) :
  Calls P (ρ.f 156) #[.slice (some ⟨bk,o,none⟩) 1 c,.string sep] w fun e w'=>e=.returned (.string x)/\w'=w:=by
 have u72:=run_underlying L.t72;have u70:=run_underlying L.t70;have u37:=run_underlying L.t37;have u127:=run_underlying L.t127;have u3:=run_underlying L.t3;have a9:=L.a9;have z9:=L.z9;have u9:=run_underlying L.t9;have u4:=run_underlying L.t4;have u164:=run_underlying L.t164;have t31:=L.t31;have u31:=run_underlying L.t31;have u5:=run_underlying L.t5
 go_enter L.f156,Body.n156_ntmps ρ
 go_wp2
 go_ret
 simp_all
set_option maxHeartbeats 4000000 in
set_option maxRecDepth 100000 in
theorem Jl.strings_Join_many(L:JL P ρ)(bk o c:Nat)(xs:List ByteArray)(sep:ByteArray)(w:World)
  (hcells:∀(j:Nat) x,xs[j]? = some x->w.cell? ⟨bk,o+j,none⟩=some (.string x))
  (hbk:bk<w.heap.size) (h2:2<=xs.length) (hN:xs.length<=140737488355328) (hcap:xs.length<=c)
  (hlen:(Lib.join (xs.map (·.data.toList)) sep.data.toList).length<=140737488355328) :
  Calls P (ρ.f 156) #[.slice (some ⟨bk,o,none⟩) xs.length c,.string sep] w fun e w'=>e=.returned (.string ⟨(Lib.join (xs.map (·.data.toList)) sep.data.toList).toArray⟩)/\Below w.heap.size w w':=by
 have HC:=Jl.hid hcells;clear hcells
 -- the lengths
 obtain⟨x0,r,hxs⟩:∃x0 r,xs=x0::r:=by
  cases xs with
  | nil=>simp at h2
  | cons a t=>exact⟨a,t,rfl⟩
 have hjl:sep.size*(xs.length-1)+Lib.lens (xs.map (·.data.toList))<=140737488355328:=by
  have:=Lib.join_length x0.data.toList (r.map (·.data.toList)) sep.data.toList;rw[hxs]at hlen ⊢;simp only[List.map_cons]at hlen ⊢;rw[this,List.length_map]at hlen;rw[Lib.size_eq,List.length_cons,Nat.add_sub_cancel];exact hlen
 have hmul:sep.size*(xs.length-1)<=140737488355328:=by omega
 generalize hM:sep.size*(xs.length-1)=M at hjl hmul;have hcast:((xs.length:Int)-1)=((xs.length-1:Nat):Int):=by omega
 have hlt:sep.size<9223372036854775807/(xs.length-1):=by
  have:sep.size+1<=9223372036854775807/(xs.length-1):=by
   rw[Nat.le_div_iff_mul_le (by omega),Nat.add_mul,hM];omega
  omega
 have hdv:¬ (9223372036854775807/((xs.length:Int)-1)<=(sep.size:Int)):=by
  have e:(9223372036854775807:Int)/((xs.length-1:Nat):Int)=((9223372036854775807/(xs.length-1):Nat):Int):=IntWalk.up_div (x:=9223372036854775807) rfl rfl;rw[hcast,e];generalize 9223372036854775807/(xs.length-1)=q at hlt;omega
 have hprod:wrap64 ((sep.size:Int)*((xs.length:Int)-1))=(M:Int):=by
  have e:(sep.size:Int)*((xs.length-1:Nat):Int)=((sep.size*(xs.length-1):Nat):Int):=IntWalk.up_mul rfl rfl;rw[hcast,e,hM];exact IntWalk.wrap64_in _ ⟨by omega,by omega⟩
 have hM0:sep.size=0->M=0:=fun h=>by rw[<-hM,h,Nat.zero_mul]
 clear hlt hcast;have hne0:((xs.length:Int) == 0)=false:=beq_eq_false_iff_ne.2 (by omega);have hne1:((xs.length:Int) == 1)=false:=beq_eq_false_iff_ne.2 (by omega);have Hxs:=Jl.hid hxs;have Hlen:=Jl.hid hlen;clear hxs hlen;have mixed:=L.mixed;have t72:=L.t72;have a72:=L.a72;have z72:=L.z72;have v72:=L.v72;have u72:=run_underlying L.t72;have t70:=L.t70;have a70:=L.a70;have z70:=L.z70;have v70:=L.v70;have u70:=run_underlying L.t70;have t37:=L.t37;have a37:=L.a37;have z37:=L.z37;have v37:=L.v37;have u37:=run_underlying L.t37;have t127:=L.t127;have a127:=L.a127;have z127:=L.z127;have v127:=L.v127;have u127:=run_underlying L.t127;have t3:=L.t3;have a3:=L.a3;have z3:=L.z3;have v3:=L.v3;have u3:=run_underlying L.t3;have t9:=L.t9;have a9:=L.a9;have z9:=L.z9;have v9:=L.v9;have u9:=run_underlying L.t9;have t4:=L.t4;have a4:=L.a4;have z4:=L.z4;have v4:=L.v4;have u4:=run_underlying L.t4;have t164:=L.t164;have a164:=L.a164;have z164:=L.z164;have v164:=L.v164;have u164:=run_underlying L.t164;have t31:=L.t31;have a31:=L.a31;have z31:=L.z31;have v31:=L.v31;have u31:=run_underlying L.t31;have t5:=L.t5;have a5:=L.a5;have z5:=L.z5;have v5:=L.v5;have u5:=run_underlying L.t5;have e240:∀args w,(callFunc (ρ.f 240) args).run P w=.ok (.enter (ρ.f 240) args) w:=L.e240;have e241:∀args w,(callFunc (ρ.f 241) args).run P w=.ok (.enter (ρ.f 241) args) w:=enters_of L.f241 (by kernel_rfl) rfl;have e165:∀args w,(callFunc (ρ.f 165) args).run P w=.ok (.enter (ρ.f 165) args) w:=enters_of L.f165 (by kernel_rfl) rfl;have e166:∀args w,(callFunc (ρ.f 166) args).run P w=.ok (.enter (ρ.f 166) args) w:=enters_of L.f166 (by kernel_rfl) rfl;have e169:∀args w,(callFunc (ρ.f 169) args).run P w=.ok (.enter (ρ.f 169) args) w:=enters_of L.f169 (by kernel_rfl) rfl
 go_enter L.f156,Body.n156_ntmps ρ
 go_wp2_with fail
 all_goals (
  go_loop [5,41] (fun n i=>∃k:Nat,k<=xs.length/\i=.int .i64 k/\n=.int .i64 ((M+Lib.lens ((xs.map (·.data.toList)).take k):Nat):Int)) (fun _ i=>xs.length-(intOf i).toNat)
  case atStart=>exact⟨0,Nat.zero_le _,rfl,by first | (simp[Lib.lens];done) | (have:=hM0 (by omega);simp[Lib.lens,this])⟩
  case round=>
   obtain⟨k,hk,rfl,rfl⟩:=hrel;by_cases hkn:k<xs.length
   ·obtain⟨x,hx⟩:∃x,xs[k]? = some x:=⟨xs[k],List.getElem?_eq_getElem hkn⟩;have hc:=HC.out k x hx;have hstep:=Lib.lens_take_succ (xs.map (·.data.toList)) k x.data.toList (by simp[hx]);have hbound:Lib.lens ((xs.map (·.data.toList)).take (k+1))<=Lib.lens (xs.map (·.data.toList)):=Lib.lens_take_le _ _;rw[<-Lib.size_eq]at hstep;generalize hA1:Lib.lens ((xs.map (·.data.toList)).take (k+1))=A1 at hstep hbound;generalize Lib.lens ((xs.map (·.data.toList)).take k)=A0 at hstep;have HA1:=Jl.hid hA1;clear hA1
    go_wp2
    exact⟨⟨k+1,by omega,by go_num,by rw[HA1.out];refine congrArg _ ?_;omega⟩,by simp[intOf];omega⟩
   ·have hke:k=xs.length:=by omega
    subst hke;have hall:(xs.map (·.data.toList)).take xs.length=xs.map (·.data.toList):=List.take_of_length_le (by simp);rw[hall];generalize hT:Lib.lens (xs.map (·.data.toList))=T at hjl;have HT:=Jl.hid hT;clear hT hall
    go_wp2_with fail
    have hMT:((M:Int)+(T:Int))=((M+T:Nat):Int):=by omega
    rw[hMT];refine(Jl.Builder_Grow_fresh L w.heap.size w.heap.size (M+T) _ (Nat.le_refl _) (heap_alloc_new w _) (by simp) (by omega)).mono ?_
    rintro e w1 ⟨rfl,h1,hb1⟩
    have hb1':Below w.heap.size w w1:=((Below.refl w.heap.size w).alloc (Nat.le_refl _) _).trans hb1
    -- the first element
    have hx0:xs[0]? = some x0:=by rw[Hxs.out];rfl
    have hc0:w1.cell? ⟨bk,o,none⟩=some (.string x0):=by
     rw[hb1'.cell (p:=⟨bk,o,none⟩) hbk];exact HC.out 0 x0 hx0
    have H1:=Jl.hid (Or.inr h1:Lib.IsBuilder (ρ.t 72) (ρ.t 5) w.heap.size w.heap.size [] w1);have Hb1:=Jl.hid hb1';have hBw1:w.heap.size<=w1.heap.size:=hb1'.size;clear h1 hb1 hb1' hMT
    -- what the builder holds behind k rounds of the second loop;and that it is never longer than the whole
    have hwhole:Lib.join (xs.map (·.data.toList)) sep.data.toList=x0.data.toList++Lib.joinTail sep.data.toList (r.map (·.data.toList)):=by
     rw[Hxs.out,List.map_cons,Lib.join_cons]
    have hCle:∀k,(x0.data.toList++Lib.joinTail sep.data.toList ((r.map (·.data.toList)).take k)).length<=140737488355328:=fun k=>by
     have h1:=Hlen.out;rw[hwhole,List.length_append]at h1;have h2:=Lib.joinTail_take_le sep.data.toList (r.map (·.data.toList)) k;rw[List.length_append];omega
    have HCle:=Jl.hid hCle;have Hwhole:=Jl.hid hwhole;clear hCle hwhole
    go_wp2_with fail
    refine(Jl.Builder_WriteString L w.heap.size w.heap.size [] x0 w1 H1.out (by have:=HCle.out 0;simp[Lib.joinTail]at this ⊢;omega) hBw1).mono ?_
    rintro e w2 ⟨rfl,h2',hb2⟩
    have hstart:([]:List Value)++Lib.strCells x0=Lib.byteCells (x0.data.toList++Lib.joinTail sep.data.toList ((r.map (·.data.toList)).take 0)):=by
     simp[Lib.joinTail,Lib.strCells_eq]
    rw[hstart]at h2';have H2:=Jl.hid (Or.inr h2':Lib.IsBuilder (ρ.t 72) (ρ.t 5) w.heap.size w.heap.size _ w2);have Hb2:=Jl.hid (Hb1.out.trans hb2);clear h2' hb2 hstart;have hrl:r.length=xs.length-1:=by rw[Hxs.out];simp
    go_wp2_with fail
    go_loopw [65] (fun i wr=>∃k:Nat,k<=r.length/\i=.int .i64 k/\Hid (Lib.IsBuilder (ρ.t 72) (ρ.t 5) w.heap.size w.heap.size (Lib.byteCells (x0.data.toList++Lib.joinTail sep.data.toList ((r.map (·.data.toList)).take k))) wr)/\Hid (Below w.heap.size w wr)) (fun i _=>r.length-(intOf i).toNat)
    case atStart=>exact⟨0,Nat.zero_le _,rfl,H2,Hb2⟩
    case round=>
     obtain⟨k,hk',rfl,HB,HW⟩:=hrel;by_cases hkr:k<r.length
     ·obtain⟨y,hy⟩:∃y,r[k]? = some y:=⟨r[k],List.getElem?_eq_getElem hkr⟩;have hxy:xs[k+1]? = some y:=by rw[Hxs.out];simpa using hy
      have hcy:wr.cell? ⟨bk,o+1+k,none⟩=some (.string y):=by
       rw[HW.out.cell (p:=⟨bk,o+1+k,none⟩) hbk,show o+1+k=o+(k+1) by omega];exact HC.out (k+1) y hxy
      have hBw:w.heap.size<=wr.heap.size:=HW.out.size;have hnext:Lib.byteCells (x0.data.toList++Lib.joinTail sep.data.toList ((r.map (·.data.toList)).take k))++Lib.strCells sep++Lib.strCells y=Lib.byteCells (x0.data.toList++Lib.joinTail sep.data.toList ((r.map (·.data.toList)).take (k+1))):=by
       rw[Lib.joinTail_take_succ sep.data.toList (r.map (·.data.toList)) k y.data.toList (by simp[hy]),Lib.strCells_eq,Lib.strCells_eq,<-Lib.byteCells_append,<-Lib.byteCells_append,List.append_assoc,List.append_assoc,List.append_assoc]
      have hl1:=HCle.out (k+1);rw[Lib.joinTail_take_succ sep.data.toList (r.map (·.data.toList)) k y.data.toList (by simp[hy])]at hl1;simp only[List.length_append,<-Lib.size_eq]at hl1;have hl0:(Lib.byteCells (x0.data.toList++Lib.joinTail sep.data.toList ((r.map (·.data.toList)).take k))).length=x0.size+(Lib.joinTail sep.data.toList ((r.map (·.data.toList)).take k)).length:=by
       rw[Lib.byteCells_length,List.length_append,<-Lib.size_eq]
      generalize (Lib.joinTail sep.data.toList ((r.map (·.data.toList)).take k)).length=J at hl0 hl1;have Hn:=Jl.hid hnext;clear hnext hy hxy
      go_wp2_with fail
      refine(Jl.Builder_WriteString L w.heap.size w.heap.size _ sep wr HB.out (by rw[hl0];omega) hBw).mono ?_
      rintro e w3 ⟨rfl,h3,hb3⟩
      have hBw3:w.heap.size<=w3.heap.size:=Nat.le_trans hBw hb3.size;have H3:=Jl.hid h3;have Hb3:=Jl.hid hb3;clear h3 hb3
      go_wp2_with fail
      refine(Jl.Builder_WriteString L w.heap.size w.heap.size _ y w3 (Or.inr H3.out) (by rw[List.length_append,hl0,Lib.strCells_length];omega) hBw3).mono ?_
      rintro e w4 ⟨rfl,h4,hb4⟩
      rw[Hn.out]at h4;have H4:=Jl.hid (Or.inr h4:Lib.IsBuilder (ρ.t 72) (ρ.t 5) w.heap.size w.heap.size _ w4);have Hb4:=Jl.hid ((HW.out.trans Hb3.out).trans hb4);clear h4 hb4
      go_wp2
      exact⟨⟨k+1,by omega,by go_num,H4,Hb4⟩,by simp[intOf];omega⟩
     ·have hke:k=r.length:=by omega
      subst hke;have hfull:(r.map (·.data.toList)).take r.length=r.map (·.data.toList):=List.take_of_length_le (by simp);have hB':=HB.out;rw[hfull,<-Hwhole.out]at hB';have hBw:w.heap.size<=wr.heap.size:=HW.out.size
      go_wp2_with fail
      refine(Any.Builder_String_any L.ton169 L.toExtra w.heap.size w.heap.size _ wr hB' hBw).mono ?_
      rintro e w5 ⟨rfl,hb5⟩
      have Hb5:=Jl.hid (HW.out.trans hb5);clear hb5 hB'
      go_wp2
      go_ret
      exact⟨rfl,Hb5.out⟩)
def Jl.strings_Join(L:JL P ρ)(bk o c:Nat)(xs:List ByteArray)(sep:ByteArray)(w:World)
  (hcells:∀(j:Nat) x,xs[j]? = some x->w.cell? ⟨bk,o+j,none⟩=some (.string x))
  (hbk:bk<w.heap.size) (hN:xs.length<=140737488355328) (hcap:xs.length<=c)
  (hlen:(Lib.join (xs.map (·.data.toList)) sep.data.toList).length<=140737488355328) :
  Calls P (ρ.f 156) #[.slice (some ⟨bk,o,none⟩) xs.length c,.string sep] w fun e w'=>e=.returned (.string ⟨(Lib.join (xs.map (·.data.toList)) sep.data.toList).toArray⟩)/\Below w.heap.size w w':=by
 match xs,hcells,hN,hcap,hlen with
 | [],_,_,_,_=>exact(Jl.strings_Join_none L _ c sep w).mono fun e w' ⟨he,hw⟩=>⟨he,hw▸Below.refl _ _⟩
 | [x],hcells,_,_,_=>
  refine(Jl.strings_Join_one L bk o c x sep w (hcells 0 x rfl)).mono fun e w' ⟨he,hw⟩=>⟨?_,hw▸Below.refl _ _⟩;rw[he,List.map_cons,List.map_nil,Lib.join_one,Lib.mk_data]
 | x::y::r,hcells,hN,hcap,hlen=>grind[Jl.strings_Join_many]
end Go.Proofs
end
section
namespace Go.Proofs
open Go.Shelf Go.RowKit Go.Ab
variable{P:Program}{ρ:Ren}
def sl_inv{w:World}{S:Nat->Nat->Prop}{v:Value}{els:List (List AV)}{f:Fl}(h:CP w S v (.sl els f)) :
  (els=[]/\∃a,v=.slice a 0 0)\/∃(blk off z cap:Nat) (u:Nat->Nat->Value),v=.slice (some ⟨blk,off,none⟩) els.length cap/\els.length<=cap/\cap<=maxLen /\
   (∀(i:Nat) (r:List AV),els[i]? = some r->r.length=z) /\
   (∀i j,i<els.length->j<z->S blk (off+i*z+j)/\w.cell? ⟨blk,off+i*z+j,none⟩=some (u i j)) /\
   (∀(i:Nat) (r:List AV) (j:Nat) (c:AV),els[i]? = some r->r[j]? = some c->CP w S (u i j) c):=by
 cases h with
 | slnil f hf=>exact .inl ⟨rfl,_,rfl⟩
 | slz a f hf=>exact .inl ⟨rfl,_,rfl⟩
 | sl blk off z cap els f u hf hfull hcap hmax hz hS hc=>exact .inr ⟨blk,off,z,cap,u,rfl,hcap,hmax,hz,fun i j hi hj=>⟨(hS i j hi hj).1,(hS i j hi hj).2.1⟩,hc⟩
def s_inv{w:World}{S:Nat->Nat->Prop}{v:Value}{l:List UInt8}(h:CP w S v (.s l)):v=.string ⟨l.toArray⟩:=by
 cases h with
 | s=>rfl
def two_args{cargs:Array Value}(h:cargs.size=2):∃a b,cargs=#[a,b]:=by
 obtain⟨l⟩:=cargs
 match l,h with
 | [a,b],_=>exact⟨a,b,rfl⟩
theorem inter_len(sep:List UInt8)(hs:sep.length<=100):∀ts:List (List UInt8),(∀t∈ts,t.length<=10000)->(Lib.join ts sep).length<=20000*ts.length
 | [],_=>by simp[Lib.join,List.intercalate]
 | x::r,h=>by
  have key:∀r:List (List UInt8),(∀t∈r,t.length<=10000)->Lib.lens r<=10000*r.length:=by
   intro r
   induction r with
   | nil=>intro _;simp[Lib.lens]
   | cons y r ih=>
    intro h;have h1:=ih fun t ht=>h t (List.mem_cons_of_mem _ ht);have h2:=h y List.mem_cons_self;simp only[Lib.lens,List.map_cons,List.sum_cons,List.length_cons]at h1 ⊢;omega
  rw[Lib.join_length];have h1:=key (x::r) h;have h2:=Nat.mul_le_mul_right r.length hs;simp only[List.length_cons]at h1 ⊢;omega
def join_pcall(L:JL P ρ):∀xs r,prim183 xs=some r->Z6 P (ρ.f 156) xs (·=r):=by
 intro xs r h;unfold prim183 at h;split at h
 ·split at h
  ·rename_i els sep hl;cases ht:els.mapM textOf with
   | none=>rw[ht]at h;cases h
   | some ts=>
    rw[ht]at h;cases h;obtain⟨he,hb⟩:=zjs ht;refine⟨enters_of L.f156 (by kernel_rfl) rfl,fun w S cargs hsz hC hS=>?_⟩;obtain⟨v0,v1,rfl⟩:=two_args hsz;have c0:=hC 0 _ _ rfl rfl;have c1:=s_inv (hC 1 _ _ rfl rfl);subst c1;have htl:ts.length<=1000:=by rw[he,zaz]at hl;exact hl.1
    have done:∀{Q:World->Prop},(∀w',Q w'->Below w.heap.size w w')->Calls P (ρ.f 156) #[v0,.string ⟨sep.toArray⟩] w (fun e w'=>e=.returned (.string ⟨(List.intercalate sep ts).toArray⟩)/\Q w') ->
      Calls P (ρ.f 156) #[v0,.string ⟨sep.toArray⟩] w fun e w'=>∃v r,e=.returned v/\r=AV.s (List.intercalate sep ts)/\Below w.heap.size w w'/\CP w' (fun k o=>S k o\/(w.heap.size<=k/\k<w'.heap.size)) v r:=by
     intro Q hQ hc;refine hc.mono ?_
     rintro e w' ⟨rfl,hb⟩
     exact⟨_,_,rfl,rfl,hQ _ hb,.s _⟩
    rcases sl_inv c0 with ⟨h0,a,rfl⟩ | ⟨blk,off,z,cap,u,rfl,hcap,hmax,hz,hcell,hcp⟩
    ·have h1:ts=[]:=by
      rw[he]at h0;exact List.eq_nil_of_length_eq_zero (by rw[<-zaz ts,h0];rfl)
     subst h1;refine done (Q:=fun w'=>w'=w) (fun w' h=>h▸Below.refl _ _) ?_;exact Jl.strings_Join_none L a 0 ⟨sep.toArray⟩ w
    ·have hel:els.length=ts.length:=by rw[he,zaz]
     have hcells:∀(j:Nat) x,(ts.map fun t=>(⟨t.toArray⟩:ByteArray))[j]? = some x->S blk (off+j)/\w.cell? ⟨blk,off+j,none⟩=some (.string x):=by
      intro j x hx;rw[List.getElem?_map]at hx;cases ht2:ts[j]? with
      | none=>rw[ht2]at hx;cases hx
      | some t=>
       rw[ht2]at hx;cases hx;have hj:els[j]? = some [.s t]:=by rw[he];simp[Zf,ht2]
       have hz1:1=z:=hz j _ hj;subst hz1;have hjl:j<els.length:=(List.getElem?_eq_some_iff.1 hj).1;obtain⟨h1,h2⟩:=hcell j 0 hjl Nat.one_pos;have h3:=s_inv (hcp j _ 0 (.s t) hj rfl);rw[h3]at h2;simp only[Nat.mul_one,Nat.add_zero]at h1 h2;exact⟨h1,h2⟩
     cases hts:ts with
     | nil=>
      subst hts;rw[show els.length=0 from hel]at done ⊢;refine done (Q:=fun w'=>w'=w) (fun w' h=>h▸Below.refl _ _) ?_;exact Jl.strings_Join_none L _ cap ⟨sep.toArray⟩ w
     | cons t0 tr=>
      rw[<-hts];have hblk:blk<w.heap.size:=hS _ _ (hcells 0 ⟨t0.toArray⟩ (by rw[hts];rfl)).1;have hm:(ts.map fun t=>(⟨t.toArray⟩:ByteArray)).map (·.data.toList)=ts:=by rw[List.map_map];simp[Function.comp_def]
      have hj:=Jl.strings_Join L blk off cap (ts.map fun t=>(⟨t.toArray⟩:ByteArray)) ⟨sep.toArray⟩ w (fun j x hx=>(hcells j x hx).2) hblk (by rw[List.length_map];omega) (by rw[List.length_map];omega)
       (by rw[hm];have:=inter_len sep hl.2 ts hb;show (Lib.join ts sep).length<=_;omega)
      rw[hm,List.length_map,<-hel]at hj;exact done (fun _ h=>h) hj
  ·cases h
 ·cases h
end Go.Proofs
end
section
namespace Go.Proofs
open Go.Shelf Go.RowKit Go.Ab
variable{P:Program}{ρ:Ren}
def bytes_size(s:List UInt8):(⟨s.toArray⟩:ByteArray).size=s.length:=by simp[ByteArray.size]
def bytes_list(s:List UInt8):(⟨s.toArray⟩:ByteArray).data.toList=s:=by simp
def all_ascii{s:List UInt8}(h:s.all (fun c=>decide (c.toNat<128))=true):∀(j:Nat) b,(⟨s.toArray⟩:ByteArray).data.toList[j]? = some b->b.toNat<128:=by
 intro j b hb;rw[bytes_list]at hb;exact of_decide_eq_true (List.all_eq_true.1 h b (List.mem_of_getElem? hb))
def index_pcall(L:Lays.n219 P ρ):∀xs r,prim194 xs=some r->Z6 P (ρ.f 219) xs (·=r):=by
 intro xs r h;unfold prim194 at h;split at h
 ·rename_i s c;cases h;refine⟨enters_of L.f219 (by kernel_rfl) rfl,fun w S cargs hsz hC hS=>?_⟩;obtain⟨v0,v1,rfl⟩:=two_args hsz;have c0:=s_inv (hC 0 _ _ rfl rfl);have c1:=s_inv (hC 1 _ _ rfl rfl);subst c0 c1;have:=Any.stringslite_Index_one L ⟨s.toArray⟩ c w;rw[bytes_list]at this;refine this.mono ?_
  rintro e w' ⟨rfl,rfl⟩
  exact⟨_,_,rfl,rfl,Below.refl _ _,.i _ _⟩
 ·cases h
def count_pcall(L:Lays.n138 P ρ):∀xs r,prim361 xs=some r->Z6 P (ρ.f 138) xs (·=r):=by
 intro xs r h;unfold prim361 at h;split at h
 ·rename_i s c;cases h;refine⟨enters_of L.f138 (by kernel_rfl) rfl,fun w S cargs hsz hC hS=>?_⟩;obtain⟨v0,v1,rfl⟩:=two_args hsz;have c0:=s_inv (hC 0 _ _ rfl rfl);have c1:=s_inv (hC 1 _ _ rfl rfl);subst c0 c1;have:=Any.strings_Count_one L ⟨s.toArray⟩ c w;rw[bytes_list]at this;refine this.mono ?_
  rintro e w' ⟨rfl,rfl⟩
  exact⟨_,_,rfl,rfl,Below.refl _ _,.i _ _⟩
 ·cases h
end Go.Proofs
end
section
namespace Go.Proofs
open Go.Shelf Go.RowKit Go.Lib
variable{P:Program}{ρ:Ren}
abbrev Zag:ByteArray:=⟨#[47,46]⟩
set_option maxHeartbeats 2000000 in
set_option maxRecDepth 1000000 in
def rune_invalid(L:Lays.n152 P ρ)(r:Int)(w:World)(h0:128<=r)(h1:r<=2147483647)(h2:r≠65533)(hv:Lib.validRune r=false) :
  Calls P (ρ.f 152) #[.string Zag,.int .i32 r] w fun e w'=>e=.returned (.int .i64 (-1))/\w'=w:=by
 have t3:=L.t3;have a3:=L.a3;have z3:=L.z3;have v3:=L.v3;have t4:=L.t4;have a4:=L.a4;have z4:=L.z4;have v4:=L.v4;have t5:=L.t5;have a5:=L.a5;have z5:=L.z5;have v5:=L.v5;have t9:=L.t9;have a9:=L.a9;have z9:=L.z9;have v9:=L.v9;have t21:=L.t21;have a21:=L.a21;have z21:=L.z21;have v21:=L.v21;have e119:∀args w,(callFunc (ρ.f 119) args).run P w=.ok (.enter (ρ.f 119) args) w:=enters_of L.f119 (by kernel_rfl) rfl
 go_enter L.f152,Body.n152_ntmps ρ
 go_wp2_with (go_at_fn (ρ.f 119);refine(Any.utf8_ValidRune { L with } _ _).mono ?_;rintro e w' ⟨rfl,hw⟩;rw[hw,hv])
 go_ret
 exact⟨rfl,rfl⟩
def next_slash(w:World)(ty:TypeId):(Instr.next (.pointer (some ⟨w.heap.size,0,none⟩)) true ty).run P (w.iter Zag 0)=.ok (.tuple #[.bool true,.int .i64 0,.int .i32 47]) (w.iter Zag 1):=
 run_next_ascii (P:=P) w Zag 0 ty (by decide) (by decide)
def next_dot(w:World)(ty:TypeId):(Instr.next (.pointer (some ⟨w.heap.size,0,none⟩)) true ty).run P (w.iter Zag 1)=.ok (.tuple #[.bool true,.int .i64 1,.int .i32 46]) (w.iter Zag 2):=
 run_next_ascii (P:=P) w Zag 1 ty (by decide) (by decide)
set_option maxHeartbeats 2000000 in
set_option maxRecDepth 1000000 in
def rune_error(L:Lays.n152 P ρ)(w:World) :
  Calls P (ρ.f 152) #[.string Zag,.int .i32 65533] w fun e w'=>e=.returned (.int .i64 (-1))/\∃pos,w'=w.iter Zag pos:=by
 have t3:=L.t3;have a3:=L.a3;have z3:=L.z3;have v3:=L.v3;have t4:=L.t4;have a4:=L.a4;have z4:=L.z4;have v4:=L.v4;have t5:=L.t5;have a5:=L.a5;have z5:=L.z5;have v5:=L.v5;have t9:=L.t9;have a9:=L.a9;have z9:=L.z9;have v9:=L.v9;have t21:=L.t21;have a21:=L.a21;have z21:=L.z21;have v21:=L.v21
 go_enter L.f152,Body.n152_ntmps ρ
 go_wp2
 go_loopg [5,6] 2 (fun g _ _ wx=>∃i:Nat,i+g=2/\wx=w.iter Zag i)
 case atStart=>exact⟨0,by omega,rfl⟩
 case round=>
  obtain⟨i,hig,rfl⟩:=hrel
  match gk,i,hig with
  | 0,2,_=>
   have hnx:=fun ty=>run_next_end (P:=P) w Zag 2 ty (by decide)
   go_wp2
   go_ret
   exact⟨rfl,_,rfl⟩
  | 1,1,_=>
   have hnx:=next_dot (P:=P) w
   go_wp2
   go_roundg 0
   case measure=>omega
   case rel=>exact⟨2,by omega,rfl⟩
  | 2,0,_=>
   have hnx:=next_slash (P:=P) w
   go_wp2
   go_roundg 1
   case measure=>omega
   case rel=>exact⟨1,by omega,rfl⟩
set_option maxHeartbeats 4000000 in
set_option maxRecDepth 1000000 in
def rune_three(L:Lays.n152 P ρ)(r:Int)(w:World)(h0:128<=r)(h1:r<=2147483647)(h2:r≠65533)(hv:Lib.validRune r=true)(hk:3<=(Utf8.encode r).size)(hk4:(Utf8.encode r).size<=4) :
  Calls P (ρ.f 152) #[.string Zag,.int .i32 r] w fun e w'=>e=.returned (.int .i64 (-1))/\w'=w:=by
 have t3:=L.t3;have a3:=L.a3;have z3:=L.z3;have v3:=L.v3;have t4:=L.t4;have a4:=L.a4;have z4:=L.z4;have v4:=L.v4;have t5:=L.t5;have a5:=L.a5;have z5:=L.z5;have v5:=L.v5;have t9:=L.t9;have a9:=L.a9;have z9:=L.z9;have v9:=L.v9;have t21:=L.t21;have a21:=L.a21;have z21:=L.z21;have v21:=L.v21;have e119:∀args w,(callFunc (ρ.f 119) args).run P w=.ok (.enter (ρ.f 119) args) w:=enters_of L.f119 (by kernel_rfl) rfl;have hcv:∀w,(convert (ρ.t 21) (ρ.t 9) (.int .i32 r)).run P w=.ok (.string (Utf8.encode r)) w:=fun w=>run_convert_int_string w _ _ _ _ (by rw[L.t21];rfl) L.t9;generalize Utf8.encode r=b at *
 go_enter L.f152,Body.n152_ntmps ρ
 go_wp2_with (first | (go_at_fn (ρ.f 119);refine(Any.utf8_ValidRune { L with } _ _).mono ?_;rintro e w' ⟨rfl,hw⟩;rw[hw,hv]) | simp only[hcv])
 go_step3
 go_wp2_with (simp only[hcv])
 go_loopg [9] 0 (fun g i wx=>i=.int .i64 ((b.size:Int)-1)/\wx=w)
 case atStart=>exact⟨rfl,rfl⟩
 case round=>
  obtain⟨rfl,rfl⟩:=hrel;have hge:decide (((b.size:Int)-1)<2)=false:=decide_eq_false (by omega)
  go_wp2
  rw[Exit.noGoto_ret]
  go_ret
  exact⟨rfl,rfl⟩
set_option maxHeartbeats 4000000 in
set_option maxRecDepth 1000000 in
def rune_two(L:Lays.n152 P ρ)(r:Int)(w:World)(h0:128<=r)(h1:r<=2147483647)(h2:r≠65533)(hv:Lib.validRune r=true)(x:UInt8)(hk:(Utf8.encode r).size=2)(hx:∀h:1<(Utf8.encode r).size,(Utf8.encode r)[1]'h=x)(hx128:128<=x.toNat) :
  Calls P (ρ.f 152) #[.string Zag,.int .i32 r] w fun e w'=>e=.returned (.int .i64 (-1))/\Below w.heap.size w w':=by
 have mixed:=L.mixed;have t3:=L.t3;have a3:=L.a3;have z3:=L.z3;have v3:=L.v3;have t4:=L.t4;have a4:=L.a4;have z4:=L.z4;have v4:=L.v4;have t5:=L.t5;have a5:=L.a5;have z5:=L.z5;have v5:=L.v5;have t9:=L.t9;have a9:=L.a9;have z9:=L.z9;have v9:=L.v9;have t21:=L.t21;have a21:=L.a21;have z21:=L.z21;have v21:=L.v21;have e119:∀args w,(callFunc (ρ.f 119) args).run P w=.ok (.enter (ρ.f 119) args) w:=enters_of L.f119 (by kernel_rfl) rfl;have e137:∀args w,(callFunc (ρ.f 137) args).run P w=.ok (.enter (ρ.f 137) args) w:=enters_of L.f137 (by kernel_rfl) rfl;have hcv:∀w,(convert (ρ.t 21) (ρ.t 9) (.int .i32 r)).run P w=.ok (.string (Utf8.encode r)) w:=fun w=>run_convert_int_string w _ _ _ _ (by rw[L.t21];rfl) L.t9;generalize Utf8.encode r=b at *
 go_enter L.f152,Body.n152_ntmps ρ
 go_wp2_with (first | (go_at_fn (ρ.f 119);refine(Any.utf8_ValidRune { L with } _ _).mono ?_;rintro e w' ⟨rfl,hw⟩;rw[hw,hv]) | simp only[hcv])
 go_step3
 go_wp2_with (simp only[hcv])
 go_loopg [9] 0 (fun g i wx=>i=.int .i64 1/\wx=w)
 case atStart=>exact⟨rfl,rfl⟩
 case round=>
  obtain⟨rfl,rfl⟩:=hrel;have hb:1<b.size:=by omega
  have hxx:=hx hb;have hne:((46:Int) == (x.toNat:Int))=false:=beq_eq_false_iff_ne.2 (by omega);have hsz:(b.size:Int)=2:=by omega
  have hg:Zag[1]'(by decide)=46:=rfl
  go_wp2
  go_step3
  go_wp2_with (go_at_fn (ρ.f 137);refine(Any.strings_IndexByte { L with } _ _ _).mono ?_;rintro e w' ⟨rfl,hw⟩;rw[hw])
  go_region_o
  have hne2:((46:Int) != (x.toNat:Int))=true:=by rw[bne,hne];rfl
  try rw[hne2]
  go_wp2
  go_region_with_o (go_at_fn (ρ.f 137);refine(Any.strings_IndexByte { L with } _ _ _).mono ?_;rintro e w' ⟨rfl,hw⟩;rw[hw])
  all_goals go_wp2
  all_goals rw[Exit.noGoto_ret]
  all_goals go_wp2
  all_goals rw[Exit.noGoto_ret]
  all_goals go_ret
  all_goals exact⟨rfl,⟨rfl,rfl,rfl,Nat.le_refl _,fun _ _=>rfl⟩⟩
def rune_wide(L:Lays.n152 P ρ)(r:Int)(w:World)(h0:128<=r)(h1:r<=2147483647) :
  Calls P (ρ.f 152) #[.string Zag,.int .i32 r] w fun e w'=>e=.returned (.int .i64 (-1))/\Below w.heap.size w w':=by
 by_cases h2:r=65533
 ·subst h2;refine(rune_error L w).mono ?_
  rintro e w' ⟨h,pos,rfl⟩
  exact⟨h,(Below.refl _ _).alloc (Nat.le_refl _) _⟩
 ·cases hv:Lib.validRune r with
  | false=>
   refine(rune_invalid L r w h0 h1 h2 hv).mono ?_
   rintro e w' ⟨h,rfl⟩
   exact⟨h,Below.refl _ _⟩
  | true=>
   have hu:Utf8.valid r=true:=by rw[Go.validRune_eq];exact hv
   obtain⟨k2,k4,kx⟩:=encode_facts r hu h0;by_cases h3:(Utf8.encode r).size=2
   ·have hk:=kx (by omega);have he:(Utf8.encode r).size-1=1:=by omega
    simp only[he]at hk;exact rune_two L r w h0 h1 h2 hv ((Utf8.encode r)[1]'(by omega)) h3 (fun _=>rfl) hk
   ·refine(rune_three L r w h0 h1 h2 hv (by omega) k4).mono ?_
    rintro e w' ⟨h,rfl⟩
    exact⟨h,Below.refl _ _⟩
def wide_n(n b0 b1 b2 b3:Nat)(hn:1<=n)(h:128<=b0):1<=(decodeN n b0 b1 b2 b3).2/\(decodeN n b0 b1 b2 b3).2<=4/\(decodeN n b0 b1 b2 b3).2<=n /\
  (2<=(decodeN n b0 b1 b2 b3).2->128<=b1)/\(3<=(decodeN n b0 b1 b2 b3).2->128<=b2)/\(4<=(decodeN n b0 b1 b2 b3).2->128<=b3):=by
 unfold decodeN;rw[if_neg (by omega)]
 (repeat' split)<;>simp only<;>omega
def wide_bytes(s:ByteArray)(i:Nat)(hi:i<s.size)(h:128<=(s[i]'hi).toNat):1<=(Utf8.decode s i).2/\i+(Utf8.decode s i).2<=s.size /\
  ∀(j:Nat) (b:UInt8),i<=j->j<i+(Utf8.decode s i).2->s.data.toList[j]? = some b->128<=b.toNat:=by
 have hg:∀(j:Nat) (b:UInt8),s.data.toList[j]? = some b->s.get! j=b:=by
  intro j b hb;obtain⟨hj,hb⟩:=List.getElem?_eq_some_iff.1 hb;have hj2:j<s.size:=by simpa using hj
  have:s.get! j=s[j]'hj2:=by
   simp[ByteArray.get!,getElem!_pos,hj2]
   rfl
  rw[this,<-hb]
  rfl
 have h0:s.get! i=s[i]'hi:=get_at s i hi;have hw:=wide_n (s.size-i) (s.get! i).toNat (s.get! (i+1)).toNat (s.get! (i+2)).toNat (s.get! (i+3)).toNat (by omega) (by rw[h0];exact h);rw[<-decode_at]at hw;obtain⟨w1,w2,w3,w4,w5,w6⟩:=hw;refine⟨w1,by omega,fun j b hij hj hb=>?_⟩;have hgb:=hg j b hb;rw[<-hgb];have hc:j=i\/j=i+1\/j=i+2\/j=i+3:=by omega
 rcases hc with rfl | rfl | rfl | rfl
 ·rw[h0];exact h
 ·exact w4 (by omega)
 ·exact w5 (by omega)
 ·exact w6 (by omega)
def next_at(wx:World)(B:Nat)(s:ByteArray)(pos:Nat)(ty:TypeId)(hB:wx.heap[B]? = some (.stringIter s pos))(h:pos<s.size) :
  (Instr.next (.pointer (some ⟨B,0,none⟩)) true ty).run P wx=.ok (.tuple #[.bool true,.int .i64 pos,.int .i32 (Utf8.decode s pos).1]) { wx with heap:=wx.heap.setIfInBounds B (.stringIter s (pos+(Utf8.decode s pos).2)) }:=by
 simp only[Instr.next,getObj,setObj,Sem.run_bind,Sem.run,hB,Result.andThen,h,if_true];simp[goInt]
def next_none(wx:World)(B:Nat)(s:ByteArray)(pos:Nat)(ty:TypeId)(hB:wx.heap[B]? = some (.stringIter s pos))(h:¬ pos<s.size) :
  (Instr.next (.pointer (some ⟨B,0,none⟩)) true ty).run P wx=.ok (.tuple #[.bool false]) wx:=by
 simp[Instr.next,getObj,Sem.run,hB,h]
def below_iter{B:Nat}{w wx:World}(h:Below B w wx)(o:Obj):Below B w { wx with heap:=wx.heap.setIfInBounds B o }:=
 h.trans ⟨rfl,rfl,rfl,by simp,fun k hk=>by
  show (wx.heap.setIfInBounds B o)[k]? = wx.heap[k]?;rw[Array.getElem?_setIfInBounds_ne (by omega)]⟩
set_option maxHeartbeats 8000000 in
set_option maxRecDepth 1000000 in
def indexAny_short_any(L:Lays.n153 P ρ)(s:ByteArray)(w:World)(h8:s.size<=8) :
  Calls P (ρ.f 153) #[.string s,.string Zag] w fun e w'=>e=.returned (.int .i64 (Lib.indexAny s.data.toList [47,46]))/\Below w.heap.size w w':=by
 have h8z:decide ((8:Int)<(s.size:Int))=false:=decide_eq_false (by omega);have t3:=L.t3;have a3:=L.a3;have z3:=L.z3;have v3:=L.v3;have t4:=L.t4;have a4:=L.a4;have z4:=L.z4;have v4:=L.v4;have t5:=L.t5;have a5:=L.a5;have z5:=L.z5;have v5:=L.v5;have t9:=L.t9;have a9:=L.a9;have z9:=L.z9;have v9:=L.v9;have t21:=L.t21;have a21:=L.a21;have z21:=L.z21;have v21:=L.v21;have e152:∀args w,(callFunc (ρ.f 152) args).run P w=.ok (.enter (ρ.f 152) args) w:=enters_of L.f152 (by kernel_rfl) rfl;have e226:∀args w,(callFunc (ρ.f 226) args).run P w=.ok (.enter (ρ.f 226) args) w:=enters_of L.f226 (by kernel_rfl) rfl
 go_enter L.f153,Body.n153_ntmps ρ
 go_wp2_with (go_at_fn (ρ.f 226);refine(Any.strings_shouldUseASCIISet { L with } _ _).mono ?_;rintro e w' ⟨rfl,hw⟩;rw[hw,h8z])
 go_loopg [9,10] s.size (fun g _ _ wx=>∃i:Nat,s.size<=i+g/\i<=s.size/\wx.heap[w.heap.size]? = some (.stringIter s i)/\Below w.heap.size w wx/\Lib.NoAny s.data.toList [47,46] i)
 case atStart=>exact⟨0,by omega,by omega,World.iter_heap w s 0,(Below.refl _ _).alloc (Nat.le_refl _) _,Lib.NoAny.zero _ _⟩
 case round=>
  obtain⟨i,hig,his,hit,hbel,hno⟩:=hrel;have HN:Aside (Lib.NoAny s.data.toList [47,46] i):=hno;have HB:Aside (Below w.heap.size w wr):=hbel;have HI:Aside (wr.heap[w.heap.size]? = some (.stringIter s i)):=hit;clear hno hbel;by_cases hi:i<s.size
  ·cases gk with
   | zero=>omega
   | succ g=>
   have hlt:w.heap.size<wr.heap.size:=(Array.getElem?_eq_some_iff.1 hit).1;obtain⟨x,hx⟩:∃x:UInt8,s[i]'hi=x:=⟨_,rfl⟩;have hxl:s.data.toList[i]? = some x:=by rw[<-hx];exact Lib.data_getElem? s i hi
   have hnx:=fun ty=>next_at (P:=P) wr w.heap.size s i ty hit hi;by_cases h128:x.toNat<128
   ·have hd:=decode_ascii s i hi (by rw[hx];exact h128);rw[hx]at hd;rw[hd]at hnx;simp only at hnx;have Hx:Aside (s.data.toList[i]? = some x):=hxl;clear hxl hx hit;have hcon:=Lib.contains_iff_indexByte [47,46] x;have hback:((x.toNat:Int)).toNat.toUInt8=x:=by simp
    cases hin:([47,46]:List UInt8).contains x
    ·rw[hin]at hcon;have hlt0:¬ ((0:Int)<=Lib.indexByte [47,46] x):=of_decide_eq_false hcon.symm;clear hcon
     go_wp2_with (go_at_fn (ρ.f 152);refine(Any.strings_IndexRune_ascii { L with } _ _ _ (by omega) (by omega)).mono ?_;rintro e w' ⟨rfl,hw⟩;rw[hw,hback])
     go_roundg g
     case measure=>omega
     case rel=>exact⟨i+1,by omega,by omega,by simp[hlt],below_iter HB.out _,HN.out.succ Hx.out hin⟩
    ·rw[hin]at hcon;have hge:(0:Int)<=Lib.indexByte [47,46] x:=of_decide_eq_true hcon.symm;clear hcon
     go_wp2_with (go_at_fn (ρ.f 152);refine(Any.strings_IndexRune_ascii { L with } _ _ _ (by omega) (by omega)).mono ?_;rintro e w' ⟨rfl,hw⟩;rw[hw,hback])
     go_ret
     exact⟨by rw[Lib.indexAny_hit HN.out Hx.out hin];rfl,below_iter HB.out _⟩
   ·have hwb:=wide_bytes s i hi (by rw[hx];omega);have hdh:=decode_high s i hi (by rw[hx];omega);have hdl:=decode_le s i;obtain⟨r,hr⟩:∃r,r=(Utf8.decode s i).1:=⟨_,rfl⟩;obtain⟨k,hk⟩:∃k,k=(Utf8.decode s i).2:=⟨_,rfl⟩;rw[<-hr,<-hk]at hnx;rw[<-hk]at hwb hdh;rw[<-hr]at hdh hdl;obtain⟨wb1,wb2,wb3⟩:=hwb;have HW:Aside (∀(j:Nat) (b:UInt8),i<=j->j<i+k->s.data.toList[j]? = some b->128<=b.toNat):=wb3;clear wb3 hxl hx hit hr hk;have r1:(128:Int)<=(r:Int):=by omega
    have r2:(r:Int)<=2147483647:=by omega
    go_wp2_with (go_at_fn (ρ.f 152);refine(rune_wide { L with } _ _ r1 r2).mono ?_;rintro e w' ⟨rfl,hw⟩)
    go_roundg g
    case measure=>omega
    case rel=>
     refine⟨i+k,by omega,by omega,?_,(below_iter HB.out _).trans (hw.mono (by simp;omega)),?_⟩
     ·rw[hw.block _ (by simpa using hlt)];simp[hlt]
     ·intro j b hj hb;by_cases hji:j<i
      ·exact HN.out j b hji hb
      ·have h3:=HW.out j b (by omega) hj hb;have e1:¬ b=47:=fun e=>by rw[e]at h3;exact absurd h3 (by decide)
       have e2:¬ b=46:=fun e=>by rw[e]at h3;exact absurd h3 (by decide)
       simp[e1,e2]
  ·obtain rfl:i=s.size:=by omega
   have hnx:=fun ty=>next_none (P:=P) wr w.heap.size s s.size ty hit hi;clear hit
   go_wp2
   go_ret
   exact⟨by rw[Lib.indexAny_none (by rw[<-Lib.size_eq];exact HN.out)];rfl,HB.out⟩
open Go.Ab in
def indexAny_pcall(L:Lays.n153 P ρ)(h116:(P.info? (ρ.t 116)).map (fun i=>(i.zero,i.size))=some (some (.agg (Array.replicate 256 (.bool false))),256)):∀xs r,prim344 xs=some r->Z6 P (ρ.f 153) xs (·=r):=by
 intro xs r h;unfold prim344 at h;split at h
 ·split at h
  ·rename_i s hs;cases h;refine⟨enters_of L.f153 (by kernel_rfl) rfl,fun w S cargs hsz hC hS=>?_⟩;obtain⟨v0,v1,rfl⟩:=two_args hsz;have c0:=s_inv (hC 0 _ _ rfl rfl);have c1:=s_inv (hC 1 _ _ rfl rfl);subst c0 c1;have key:Calls P (ρ.f 153) #[.string ⟨s.toArray⟩,.string Zag] w fun e w'=>e=.returned (.int .i64 (Lib.indexAny s [47,46]))/\Below w.heap.size w w':=by
    by_cases h8:s.length<=8
    ·have:=indexAny_short_any L ⟨s.toArray⟩ w (by rw[bytes_size];exact h8)
     rwa [bytes_list]at this
    ·have:=Any.strings_IndexAny_long L (zero_of_info h116).1 (zero_of_info h116).2 ⟨s.toArray⟩ Zag w (by decide) (by rw[bytes_size];omega) (by rw[bytes_size];omega) (by decide) (all_ascii (s:=[47,46]) (by decide));rw[bytes_list]at this;refine this.mono fun e w' ⟨h1,h2⟩=>⟨h1,?_⟩;rw[h2];exact((Below.refl _ _).alloc (Nat.le_refl _) _).alloc (by simp) _
   exact key.mono fun e w' ⟨he,hb⟩=>⟨_,_,he,rfl,hb,.i _ _⟩
  ·cases h
 ·cases h
end Go.Proofs
end
section
namespace Go.Proofs
open Go.Shelf Go.RowKit
set_option maxRecDepth 100000
def Tryz.sren:Ren:=⟨fun | 119=>187 | 137=>186 | 138=>132 | 143=>157 | 152=>175 | 153=>161 | 195=>159 | 217=>182 | 218=>160 | 219=>174 | 224=>184 | 225=>183 | 226=>176 | 227=>143 | 228=>167 | 266=>192 | 267=>185 | 314=>193 | n=>n,fun | 0=>0 | 3=>3 | 4=>4 | 5=>5 | 9=>9 | 21=>21 | 46=>156 | 51=>114 | 116=>187 | 117=>188 | 124=>191 | 146=>169 | n=>n,fun | 1=>0 | n=>n⟩
def Tryz.lays153:Lays.n153 Tryz.prog Tryz.sren:={
 mixed:=by kernel_rfl,
 f119:=Tryz.func187.trans (congrArg some (by kernel_rfl)),
 f137:=Tryz.func186.trans (congrArg some (by kernel_rfl)),
 f152:=Tryz.func175.trans (congrArg some (by kernel_rfl)),
 f153:=Tryz.func161.trans (congrArg some (by kernel_rfl)),
 f217:=Tryz.func182.trans (congrArg some (by kernel_rfl)),
 f224:=Tryz.func184.trans (congrArg some (by kernel_rfl)),
 f225:=Tryz.func183.trans (congrArg some (by kernel_rfl)),
 f226:=Tryz.func176.trans (congrArg some (by kernel_rfl)),
 f227:=Tryz.func143.trans (congrArg some (by kernel_rfl)),
 f228:=Tryz.func167.trans (congrArg some (by kernel_rfl)),
 f266:=Tryz.func192.trans (congrArg some (by kernel_rfl)),
 t0:=Tryz.underlying0,
 a0:=Tryz.isAgg0,
 z0:=Tryz.sizeOf0,
 v0:=Tryz.zeroValue0,
 t3:=Tryz.underlying3,
 a3:=Tryz.isAgg3,
 z3:=Tryz.sizeOf3,
 v3:=Tryz.zeroValue3,
 t4:=Tryz.underlying4,
 a4:=Tryz.isAgg4,
 z4:=Tryz.sizeOf4,
 v4:=Tryz.zeroValue4,
 t5:=Tryz.underlying5,
 a5:=Tryz.isAgg5,
 z5:=Tryz.sizeOf5,
 v5:=Tryz.zeroValue5,
 t9:=Tryz.underlying9,
 a9:=Tryz.isAgg9,
 z9:=Tryz.sizeOf9,
 v9:=Tryz.zeroValue9,
 t21:=Tryz.underlying21,
 a21:=Tryz.isAgg21,
 z21:=Tryz.sizeOf21,
 v21:=Tryz.zeroValue21,
 t46:=Tryz.underlying156,
 a46:=Tryz.isAgg156,
 z46:=Tryz.sizeOf156,
 v46:=Tryz.zeroValue156,
 t116:=Tryz.underlying187,
 a116:=Tryz.isAgg187,
 z116:=Tryz.sizeOf187,
 t117:=Tryz.underlying188,
 a117:=Tryz.isAgg188,
 z117:=Tryz.sizeOf188,
 v117:=Tryz.zeroValue188,
 t124:=Tryz.underlying191,
 a124:=Tryz.isAgg191,
 z124:=Tryz.sizeOf191,
 v124:=Tryz.zeroValue191 }
def Tryz.lays219:Lays.n219 Tryz.prog Tryz.sren:={
 mixed:=by kernel_rfl,
 f217:=Tryz.func182.trans (congrArg some (by kernel_rfl)),
 f219:=Tryz.func174.trans (congrArg some (by kernel_rfl)),
 f224:=Tryz.func184.trans (congrArg some (by kernel_rfl)),
 f225:=Tryz.func183.trans (congrArg some (by kernel_rfl)),
 f266:=Tryz.func192.trans (congrArg some (by kernel_rfl)),
 f267:=Tryz.func185.trans (congrArg some (by kernel_rfl)),
 f314:=Tryz.func193.trans (congrArg some (by kernel_rfl)),
 t3:=Tryz.underlying3,
 a3:=Tryz.isAgg3,
 z3:=Tryz.sizeOf3,
 v3:=Tryz.zeroValue3,
 t4:=Tryz.underlying4,
 a4:=Tryz.isAgg4,
 z4:=Tryz.sizeOf4,
 v4:=Tryz.zeroValue4,
 t5:=Tryz.underlying5,
 a5:=Tryz.isAgg5,
 z5:=Tryz.sizeOf5,
 v5:=Tryz.zeroValue5,
 t9:=Tryz.underlying9,
 a9:=Tryz.isAgg9,
 z9:=Tryz.sizeOf9,
 v9:=Tryz.zeroValue9,
 t46:=Tryz.underlying156,
 a46:=Tryz.isAgg156,
 z46:=Tryz.sizeOf156,
 v46:=Tryz.zeroValue156,
 t51:=Tryz.underlying114,
 a51:=Tryz.isAgg114,
 z51:=Tryz.sizeOf114,
 v51:=Tryz.zeroValue114,
 t146:=Tryz.underlying169,
 a146:=Tryz.isAgg169,
 z146:=Tryz.sizeOf169,
 v146:=Tryz.zeroValue169,
 g1:=by kernel_rfl }
def Tryz.lays138:Lays.n138 Tryz.prog Tryz.sren:={
 mixed:=by kernel_rfl,
 f138:=Tryz.func132.trans (congrArg some (by kernel_rfl)),
 f143:=Tryz.func157.trans (congrArg some (by kernel_rfl)),
 f195:=Tryz.func159.trans (congrArg some (by kernel_rfl)),
 f217:=Tryz.func182.trans (congrArg some (by kernel_rfl)),
 f218:=Tryz.func160.trans (congrArg some (by kernel_rfl)),
 f219:=Tryz.func174.trans (congrArg some (by kernel_rfl)),
 f224:=Tryz.func184.trans (congrArg some (by kernel_rfl)),
 f225:=Tryz.func183.trans (congrArg some (by kernel_rfl)),
 f266:=Tryz.func192.trans (congrArg some (by kernel_rfl)),
 f267:=Tryz.func185.trans (congrArg some (by kernel_rfl)),
 f314:=Tryz.func193.trans (congrArg some (by kernel_rfl)),
 t0:=Tryz.underlying0,
 a0:=Tryz.isAgg0,
 z0:=Tryz.sizeOf0,
 v0:=Tryz.zeroValue0,
 t3:=Tryz.underlying3,
 a3:=Tryz.isAgg3,
 z3:=Tryz.sizeOf3,
 v3:=Tryz.zeroValue3,
 t4:=Tryz.underlying4,
 a4:=Tryz.isAgg4,
 z4:=Tryz.sizeOf4,
 v4:=Tryz.zeroValue4,
 t5:=Tryz.underlying5,
 a5:=Tryz.isAgg5,
 z5:=Tryz.sizeOf5,
 v5:=Tryz.zeroValue5,
 t9:=Tryz.underlying9,
 a9:=Tryz.isAgg9,
 z9:=Tryz.sizeOf9,
 v9:=Tryz.zeroValue9,
 t46:=Tryz.underlying156,
 a46:=Tryz.isAgg156,
 z46:=Tryz.sizeOf156,
 v46:=Tryz.zeroValue156,
 t51:=Tryz.underlying114,
 a51:=Tryz.isAgg114,
 z51:=Tryz.sizeOf114,
 v51:=Tryz.zeroValue114,
 t146:=Tryz.underlying169,
 a146:=Tryz.isAgg169,
 z146:=Tryz.sizeOf169,
 v146:=Tryz.zeroValue169,
 g1:=by kernel_rfl }
end Go.Proofs
namespace Go.Proofs.YthhddiiohgfamaaGreatDoor
open Go.Ab
def str344_ok:∀xs r,prim344 xs=some r->Z6 Tryz.prog (nu 344) xs (·=r):=by
 have e:nu 344=Tryz.sren.f 153:=by kernel_rfl
 rw[e];exact indexAny_pcall Tryz.lays153 (by kernel_rfl)
def str194_ok:∀xs r,prim194 xs=some r->Z6 Tryz.prog (nu 194) xs (·=r):=by
 have e:nu 194=Tryz.sren.f 219:=by kernel_rfl
 rw[e];exact index_pcall Tryz.lays219
def str361_ok:∀xs r,prim361 xs=some r->Z6 Tryz.prog (nu 361) xs (·=r):=by
 have e:nu 361=Tryz.sren.f 138:=by kernel_rfl
 rw[e];exact count_pcall Tryz.lays138
end Go.Proofs.YthhddiiohgfamaaGreatDoor
end
section
namespace Go.Proofs.YthhddiiohgfamaaGreatDoor
open Go Go.Ab Go.RowKit
def Kept(b:Nat)(w w':World):Prop:=∀(k:Nat) (cs:Array Value) (t:TypeId),t≠5->k≠b->w.heap[k]? = some (.cells cs t (0,0))->w'.heap[k]? = some (.cells cs t (0,0))
def Kept.refl(b:Nat)(w:World):Kept b w w:=fun _ _ _ _ _ h=>h
def Kept.trans{b:Nat}{w w1 w2:World}(h:Kept b w w1)(h2:Kept b w1 w2):Kept b w w2:=fun k cs t h3 h4 h5=>h2 k cs t h3 h4 (h k cs t h3 h4 h5)
def Kept.setCell(b j:Nat)(w:World)(v:Value):Kept b w (w.setCell ⟨b,j,none⟩ v):=fun k cs t _ hk h=>by
 rw[Below.heap_setCell _ _ _ _ (fun e=>hk (by simp[e]))];exact h
def kept_lt{w:World}{k:Nat}{o:Obj}(h:w.heap[k]? = some o):k<w.heap.size:=by
 rcases Yv k w.heap.size with h' | h'
 ·exact h'
 ·simp[Yd5 h']at h
def bCheckT(B b:Nat)(bs:List Value)(w:World)(h:Lib.IsBuilder 92 5 B b bs w) :
  Calls Tryz.prog 79 #[.pointer (some ⟨b,0,none⟩)] w fun e w'=>e=.returned (.tuple #[])/\(Lib.BuilderAt 92 5 B b (.pointer (some ⟨b,0,none⟩)) bs w'/\Below B w w'/\Kept b w w'):=by
 rcases h with h | h
 ·refine(Tryz.bCheck_fresh b w h.cell0 h.shape h.frozen0).mono ?_
  rintro e w' ⟨rfl,rfl⟩
  exact⟨rfl,h.used _,(Below.refl B w).setCell (p:=⟨b,0,none⟩) h.1 _,Kept.setCell _ _ _ _⟩
 ·refine(Tryz.bCheck_used b w h.cell0).mono ?_
  rintro e w' ⟨rfl,rfl⟩
  exact⟨rfl,h,Below.refl B _,Kept.refl _ _⟩
set_option maxHeartbeats 2000000 in
set_option maxRecDepth 100000 in
def bWriteT(B b:Nat)(bs:List Value)(s:ByteArray)(w:World)(h:Lib.IsBuilder 92 5 B b bs w)(hlen:bs.length+s.size<=140737488355328)(hBw:B<=w.heap.size) :
  Calls Tryz.prog 49 #[.pointer (some ⟨b,0,none⟩),.string s] w fun e w'=>e=.returned (.tuple #[.int .i64 s.size,.nilIface])/\(Lib.BuilderAt 92 5 B b (.pointer (some ⟨b,0,none⟩)) (bs++Lib.strCells s) w'/\Below B w w'/\Kept b w w'):=by
 obtain⟨i0,hi,hz0,hz1,hz2⟩:=info_parts Tryz.infoByte
 go_enter Tryz.func49,Tryz.ntmps49
 go_wp2_with (go_at_call 79;refine(bCheckT B b bs _ h).mono ?_)
 rintro e w1 ⟨rfl,h1,hb1,hk1⟩
 obtain⟨hB,v,hbk,hown,hne⟩:=h1;have c0:w1.cell? ⟨b,0,none⟩=some (.pointer (some ⟨b,0,none⟩)):=by rw[Lib.cell_of_heap hbk];rfl
 have c1:w1.cell? ⟨b,1,none⟩=some v:=by rw[Lib.cell_of_heap hbk];rfl
 go_wp2_with (at_builtin;refine Lib.wpList_append_own_string _ rfl _ _ 90 9 rfl B 5 i0 Tryz.underlying90 Tryz.underlying9 hi hz0 hz1 hz2 _ _ _ rfl hown s rfl ?c3 ?c4 ?c5 ?_)
 case c3=>unfold maxLen;omega
 case c4=>omega
 case c5=>have:=hb1.size;omega
 intro v' w2 hown' hgrow _;have hlt:b<w1.heap.size:=kept_lt hbk;have hk2:Kept b w1 w2:=fun k cs t ht hk hh=>by
  rw[hgrow.block k (kept_lt hh) (fun e=>Lib.ownBlock_ne hown hh ht e.symm)];exact hh
 have hb2:w2.heap[b]? = some (.cells #[.pointer (some ⟨b,0,none⟩),v] 92 (0,0)):=by
  rw[hgrow.block b hlt (fun e=>hne e.symm)];exact hbk
 have d0:w2.cell? ⟨b,0,none⟩=some (.pointer (some ⟨b,0,none⟩)):=by rw[Lib.cell_of_heap hb2];rfl
 have d1:w2.cell? ⟨b,1,none⟩=some v:=by rw[Lib.cell_of_heap hb2];rfl
 have f1:w2.frozen? ⟨b,1,none⟩=false:=Lib.frozen_of_heap hb2 1;obtain⟨ao,n',cap,rfl⟩:∃ao n' cap,v'=.slice ao n' cap:=by
  rcases hown'.2 with ⟨hv,_⟩ | ⟨g,cap,cur,hv,_⟩
  ·exact⟨_,_,_,hv⟩
  ·exact⟨_,_,_,hv⟩
 go_wp2
 go_ret2
 refine⟨rfl,?_,?_,?_⟩
 ·exact Lib.BuilderAt.put (T:=92) (e:=5) hB hb2 (bs':=bs++Lib.strCells s) (by simpa[Lib.strCells_length]using hown') (by decide)
 ·exact(hb1.grown hgrow (by have:=hb1.size;omega) (fun k hk=>(hown.lt k hk).1)).setCell (p:=⟨b,1,none⟩) hB _
 ·exact(hk1.trans hk2).trans (Kept.setCell _ _ _ _)
end Go.Proofs.YthhddiiohgfamaaGreatDoor
end
section
namespace Go.Proofs.YthhddiiohgfamaaGreatDoor
open Go Go.Ab Go.RowKit
def cellV(sB:Nat->Nat->Bool)(sA:Nat->Nat->Option Addr)(sN sC:Nat->Nat->Nat)(i k:Nat):Value:=if k=0\/k=3\/k=6\/k=9\/k=13 then .bool (sB i k) else .slice (sA i k) (sN i k) (sC i k)
def wrap_next{n j:Nat}(hn:n<=1000000)(hj:j+1<=n):wrap64 (((n-(j+1):Nat):Int)+1)=((n-j:Nat):Int):=by
 unfold wrap64;omega
def aside_of{p:Prop}(h:p):Aside p:=h
def sgn(b:Bool):List UInt8:=[if b then 43 else 45,32]
def ba_app(a b:List UInt8):(⟨a.toArray⟩:ByteArray) ++ ⟨b.toArray⟩=⟨(a++b).toArray⟩:=by
 apply ByteArray.ext;rw[ByteArray.data_append];simp
def alloc_size(w:World)(o:Obj):(w.alloc o).heap.size=w.heap.size+1:=by unfold World.alloc;exact Yd7 ..
def alloc_new(w:World)(o:Obj):(w.alloc o).heap[w.heap.size]? = some o:=by unfold World.alloc;exact Array.getElem?_push_size
def bld_below{B b:Nat}{p:Value}{bs:List Value}{w w':World}(h:Lib.BuilderAt 92 5 B b p bs w)(hb:Below w.heap.size w w'):Lib.BuilderAt 92 5 B b p bs w':=by
 have hlt:=h.lt;obtain⟨hB,v,hbk,hown,hne⟩:=h;exact⟨hB,v,by rw[hb.block b hlt];exact hbk,hown.kept (row:=none) ⟨hb.os,hb.tape,hb.output,hb.size,fun k hk _=>hb.block k hk⟩ (by cases v.ownBlock<;>simp),hne⟩
def isb_below{B b:Nat}{bs:List Value}{w w':World}(h:Lib.IsBuilder 92 5 B b bs w)(hb:Below w.heap.size w w'):Lib.IsBuilder 92 5 B b bs w':=by
 rcases h with h | h
 ·exact .inl (bld_below h hb)
 ·exact .inr (bld_below h hb)
def isb_lt{B b:Nat}{bs:List Value}{w:World}(h:Lib.IsBuilder 92 5 B b bs w):b<w.heap.size:=by
 rcases h with h | h<;>exact h.lt
def zao(w:World)(o:Obj):Below w.heap.size w (w.alloc o):=(Below.refl _ _).alloc (Yi _) _
set_option maxHeartbeats 2000000 in
set_option maxRecDepth 100000 in
def text_walk(n:Nat){w0:World}(tb:Bool)(qa qb qc:Option Addr)(na nb nc ka kb kc:Nat)(ao:Option Addr)(cap:Nat)(sB:Nat->Nat->Bool)(sA:Nat->Nat->Option Addr)(sN sC:Nat->Nat->Nat)(tx nt:Nat->Nat->List UInt8)(ry acc:Nat->List UInt8)(tt ty:List UInt8)
  (hft:∀W:World,Below w0.heap.size w0 W->Calls Tryz.prog 51 #[.agg #[.bool tb,.slice qa na ka,.slice qb nb kb]] W fun e w'=>e=.returned (.string ⟨tt.toArray⟩)/\Below W.heap.size W w')
  (hrt:∀W:World,Below w0.heap.size w0 W->Calls Tryz.prog 52 #[.slice qc nc kc] W fun e w'=>e=.returned (.string ⟨ty.toArray⟩)/\Below W.heap.size W w')
  (htt:tt.length<=1000000/\ty.length<=1000000)
  (hnn:n<=1000000)
  (hfig:∀i,i<n->∀k,k<4->∀W:World,Below w0.heap.size w0 W->Calls Tryz.prog 51 #[.agg #[.bool (sB i (3*k)),.slice (sA i (3*k+1)) (sN i (3*k+1)) (sC i (3*k+1)),.slice (sA i (3*k+2)) (sN i (3*k+2)) (sC i (3*k+2))]] W fun e w'=>e=.returned (.string ⟨(tx i k).toArray⟩)/\Below W.heap.size W w')
  (hrow:∀i,i<n->∀W:World,Below w0.heap.size w0 W->Calls Tryz.prog 52 #[.slice (sA i 12) (sN i 12) (sC i 12)] W fun e w'=>e=.returned (.string ⟨(ry i).toArray⟩)/\Below W.heap.size W w')
  (hq:∀i k,(tx i k).length<=1000000)
  (hy:∀i,(ry i).length<=1000000)
  (hn:∀i k,(nt i k).length<=5000000)
  (ha:∀i,(acc i).length<=1000000000)
  (ht0:∀i,nt i 0=[])
  (hts:∀i k,k<4->nt i (k+1)=nt i k++(tx i k++[32]))
  (hs:∀i,i<n->acc (i+1)=acc i++(sgn (sB i 13)++(nt i 4++(ry i++[10]))))
  (hcell:∀i,i<n->∃blk off,ao=some ⟨blk,off,none⟩/\blk<w0.heap.size/\∀j,j<14->w0.cell? ⟨blk,off+i*14+j,none⟩=some (cellV sB sA sN sC i j))
  (ha0:acc 0=[]) :
  Calls Tryz.prog 16 #[.agg #[.slice ao n cap,.bool tb,.slice qa na ka,.slice qb nb kb,.slice qc nc kc]] w0 fun e w'=>e=.returned (.string ⟨(acc n++(61::32::(tt++(32::ty)))).toArray⟩)/\Below w0.heap.size w0 w':=by
 have HFT:Aside (∀W:World,Below w0.heap.size w0 W->Calls Tryz.prog 51 #[.agg #[.bool tb,.slice qa na ka,.slice qb nb kb]] W fun e w'=>e=.returned (.string ⟨tt.toArray⟩)/\Below W.heap.size W w'):=hft;have HRT:Aside (∀W:World,Below w0.heap.size w0 W->Calls Tryz.prog 52 #[.slice qc nc kc] W fun e w'=>e=.returned (.string ⟨ty.toArray⟩)/\Below W.heap.size W w'):=hrt;have HTT:Aside (tt.length<=1000000/\ty.length<=1000000):=htt;have HNN:Aside (n<=1000000):=hnn;have HF:Aside (∀i,i<n->∀k,k<4->∀W:World,Below w0.heap.size w0 W->Calls Tryz.prog 51 #[.agg #[.bool (sB i (3*k)),.slice (sA i (3*k+1)) (sN i (3*k+1)) (sC i (3*k+1)),.slice (sA i (3*k+2)) (sN i (3*k+2)) (sC i (3*k+2))]] W fun e w'=>e=.returned (.string ⟨(tx i k).toArray⟩)/\Below W.heap.size W w'):=hfig;have HR:Aside (∀i,i<n->∀W:World,Below w0.heap.size w0 W->Calls Tryz.prog 52 #[.slice (sA i 12) (sN i 12) (sC i 12)] W fun e w'=>e=.returned (.string ⟨(ry i).toArray⟩)/\Below W.heap.size W w'):=hrow;have HQ:Aside (∀i k,(tx i k).length<=1000000):=hq;have HY:Aside (∀i,(ry i).length<=1000000):=hy;have HN:Aside (∀i k,(nt i k).length<=5000000):=hn;have HA:Aside (∀i,(acc i).length<=1000000000):=ha;have HT0:Aside (∀i,nt i 0=[]):=ht0;have HTS:Aside (∀i k,k<4->nt i (k+1)=nt i k++(tx i k++[32])):=hts;have HS:Aside (∀i,i<n->acc (i+1)=acc i++(sgn (sB i 13)++(nt i 4++(ry i++[10])))):=hs;have HC:Aside (∀i,i<n->∃blk off,ao=some ⟨blk,off,none⟩/\blk<w0.heap.size/\∀j,j<14->w0.cell? ⟨blk,off+i*14+j,none⟩=some (cellV sB sA sN sC i j)):=hcell;have HA0:Aside (acc 0=[]):=ha0;clear ha0 hft hrt htt hnn hfig hrow hq hy hn ha ht0 hts hs hcell
 go_enter Tryz.func16,Tryz.ntmps16
 go_wp2
 go_loopg [12] n (fun g s12 wx=>s12=.int .i64 ((n-g:Nat):Int)/\g<=n/\Aside (Lib.IsBuilder 92 5 (w0.heap.size+1) (w0.heap.size+1) (Lib.byteCells (acc (n-g))) wx/\Below w0.heap.size w0 wx/\wx.heap[w0.heap.size]? = some (.cells #[.slice ao n cap,.bool tb,.slice qa na ka,.slice qb nb kb,.slice qc nc kc] 38 (0,0))))
 case atStart=>
  refine⟨by rw[Ybe];rfl,Yi _,?_,?_,?_⟩
  ·have q:=Lib.fresh_isBuilder 92 5 (w0.alloc (.cells #[.slice ao n cap,.bool tb,.slice qa na ka,.slice qb nb kb,.slice qc nc kc] 38));rw[Ybe,HA0.out];rw[alloc_size]at q;exact q
  ·exact((Below.refl _ _).alloc (Yi _) _).alloc (by rw[alloc_size];omega) _
  ·rw[Below.heap_alloc _ _ _ (by rw[alloc_size];omega)];exact alloc_new _ _
 case round=>
  obtain⟨rfl,hg,HW⟩:=hrel;cases gk with
  | zero=>
   obtain⟨hBld,hBel,hB0⟩:=HW.out;rw[Ydc]at hBld ⊢;have g1:wr.cell? ⟨w0.heap.size,1,none⟩=some (.bool tb):=by rw[Lib.cell_of_heap hB0];rfl
   have g2:wr.cell? ⟨w0.heap.size,2,none⟩=some (.slice qa na ka):=by rw[Lib.cell_of_heap hB0];rfl
   have g3:wr.cell? ⟨w0.heap.size,3,none⟩=some (.slice qb nb kb):=by rw[Lib.cell_of_heap hB0];rfl
   have g4:wr.cell? ⟨w0.heap.size,4,none⟩=some (.slice qc nc kc):=by rw[Lib.cell_of_heap hB0];rfl
   have hlt0:=kept_lt hB0;have htl:=HTT.out;have nb1:¬ 9223372036854775807<2+tt.length:=by omega
   have nb2:¬ 9223372036854775807<tt.length+1+1+1:=by omega
   have nb3:¬ 9223372036854775807<tt.length+1+1+1+ty.length:=by omega
   have hBelD:Below w0.heap.size w0 wr.drew:=hBel.drew;have hltD:w0.heap.size<wr.drew.heap.size:=hlt0;have g4D:wr.drew.cell? ⟨w0.heap.size,4,none⟩=some (.slice qc nc kc):=g4;have sE:((⟨#[61,32]⟩:ByteArray) ++ ⟨tt.toArray⟩ ++ ⟨#[32]⟩ ++ ⟨ty.toArray⟩)=⟨(61::32::(tt++(32::ty))).toArray⟩:=by
    have p1:(⟨#[61,32]⟩:ByteArray)=⟨([61,32]:List UInt8).toArray⟩:=rfl;have p2:(⟨#[32]⟩:ByteArray)=⟨([32]:List UInt8).toArray⟩:=rfl;rw[p1,p2,ba_app,ba_app,ba_app];simp
   have bd:(Lib.byteCells (acc n)).length+((⟨#[61,32]⟩:ByteArray) ++ ⟨tt.toArray⟩ ++ ⟨#[32]⟩ ++ ⟨ty.toArray⟩).size<=140737488355328:=by
    have:=HA.out n;rw[sE,Lib.byteCells_length];show _+(61::32::(tt++(32::ty))).toArray.size<=_;simp only[Ybx,Yq,Yg];omega
   have hBldD:Lib.IsBuilder 92 5 (w0.heap.size+1) (w0.heap.size+1) (Lib.byteCells (acc n)) wr.drew:=isb_below hBld (Below.drew (Below.refl _ _));have hltB:=isb_lt hBldD;have HSE:Aside (((⟨#[61,32]⟩:ByteArray) ++ ⟨tt.toArray⟩ ++ ⟨#[32]⟩ ++ ⟨ty.toArray⟩)=⟨(61::32::(tt++(32::ty))).toArray⟩):=sE;have HBd:Aside ((Lib.byteCells (acc n)).length+((⟨#[61,32]⟩:ByteArray) ++ ⟨tt.toArray⟩ ++ ⟨#[32]⟩ ++ ⟨ty.toArray⟩).size<=140737488355328):=bd;have HBl:Aside (Lib.IsBuilder 92 5 (w0.heap.size+1) (w0.heap.size+1) (Lib.byteCells (acc n)) wr.drew):=hBldD;clear hB0 sE bd hBldD hBld
   go_wp2
   go_region_with (first
    | (go_at_call 51;refine(HFT.out _ hBelD).mono ?_;rintro e1 w6 ⟨rfl,hb6⟩;have g4':w6.cell? ⟨w0.heap.size,4,none⟩=some (.slice qc nc kc):=(hb6.cell (p:=⟨w0.heap.size,4,none⟩) hltD).trans g4D;have hBel6:Below w0.heap.size w0 w6:=hBelD.trans (hb6.mono hBelD.size))
    | (go_at_call 52;refine(HRT.out _ hBel6).mono ?_;rintro e2 w7 ⟨rfl,hb7⟩;have HCL:=aside_of (bWriteT (w0.heap.size+1) (w0.heap.size+1) (Lib.byteCells (acc n)) ((⟨#[61,32]⟩:ByteArray) ++ ⟨tt.toArray⟩ ++ ⟨#[32]⟩ ++ ⟨ty.toArray⟩) w7 (isb_below (isb_below HBl.out hb6) hb7) HBd.out (by have:=hb6.size;have:=hb7.size;omega)))
    | (go_at_call 49;refine(Aside.out HCL).mono ?_;rintro e3 w8 ⟨rfl,h8,hb8,hk8⟩))
   all_goals (
    have hcs:=aside_of (Tryz.bString (w0.heap.size+1) (w0.heap.size+1) (acc n++(61::32::(tt++(32::ty)))) w8 (by rw[HSE.out]at h8;rw[Lib.byteCells_append];exact Or.inr h8) (by simp))
    go_wp2_with (go_at_call 53;refine(Aside.out hcs).mono ?_)
    rintro e4 w9 ⟨rfl,hb9⟩
    go_wp2
    go_ret
    refine⟨rfl,?_⟩;have z6:=hb6.size;have z7:=hb7.size;have z8:=hb8.size;have z0:=hBelD.size;exact hBel6.trans ((hb7.mono (by omega)).trans ((hb8.mono (by omega)).trans (hb9.mono (by omega)))))
  | succ j=>
   obtain⟨wq,hwq⟩:∃wq,wq=wr:=⟨_,rfl⟩;subst hwq;obtain⟨hBld,hBel,hB0⟩:=HW.out;have hi:n-(j+1)<n:=by omega
   obtain⟨blk,off,e0,hb,hcs⟩:=HC.out _ hi;obtain⟨ok,hok⟩:∃ok,sB (n-(j+1)) 13=ok:=⟨_,rfl⟩;subst e0;have hlt:((n-(j+1):Nat):Int)<n:=by omega
   have c0:wq.cell? ⟨blk,off+(n-(j+1))*14,none⟩=some (.bool (sB (n-(j+1)) 0)):=by rw[hBel.cell (p:=⟨blk,_,none⟩) hb];exact hcs 0 (by decide)
   have c1:wq.cell? ⟨blk,off+(n-(j+1))*14+1,none⟩=some (.slice (sA (n-(j+1)) 1) (sN (n-(j+1)) 1) (sC (n-(j+1)) 1)):=by rw[hBel.cell (p:=⟨blk,_,none⟩) hb];exact hcs 1 (by decide)
   have c2:wq.cell? ⟨blk,off+(n-(j+1))*14+2,none⟩=some (.slice (sA (n-(j+1)) 2) (sN (n-(j+1)) 2) (sC (n-(j+1)) 2)):=by rw[hBel.cell (p:=⟨blk,_,none⟩) hb];exact hcs 2 (by decide)
   have c3:wq.cell? ⟨blk,off+(n-(j+1))*14+3,none⟩=some (.bool (sB (n-(j+1)) 3)):=by rw[hBel.cell (p:=⟨blk,_,none⟩) hb];exact hcs 3 (by decide)
   have c4:wq.cell? ⟨blk,off+(n-(j+1))*14+4,none⟩=some (.slice (sA (n-(j+1)) 4) (sN (n-(j+1)) 4) (sC (n-(j+1)) 4)):=by rw[hBel.cell (p:=⟨blk,_,none⟩) hb];exact hcs 4 (by decide)
   have c5:wq.cell? ⟨blk,off+(n-(j+1))*14+5,none⟩=some (.slice (sA (n-(j+1)) 5) (sN (n-(j+1)) 5) (sC (n-(j+1)) 5)):=by rw[hBel.cell (p:=⟨blk,_,none⟩) hb];exact hcs 5 (by decide)
   have c6:wq.cell? ⟨blk,off+(n-(j+1))*14+6,none⟩=some (.bool (sB (n-(j+1)) 6)):=by rw[hBel.cell (p:=⟨blk,_,none⟩) hb];exact hcs 6 (by decide)
   have c7:wq.cell? ⟨blk,off+(n-(j+1))*14+7,none⟩=some (.slice (sA (n-(j+1)) 7) (sN (n-(j+1)) 7) (sC (n-(j+1)) 7)):=by rw[hBel.cell (p:=⟨blk,_,none⟩) hb];exact hcs 7 (by decide)
   have c8:wq.cell? ⟨blk,off+(n-(j+1))*14+8,none⟩=some (.slice (sA (n-(j+1)) 8) (sN (n-(j+1)) 8) (sC (n-(j+1)) 8)):=by rw[hBel.cell (p:=⟨blk,_,none⟩) hb];exact hcs 8 (by decide)
   have c9:wq.cell? ⟨blk,off+(n-(j+1))*14+9,none⟩=some (.bool (sB (n-(j+1)) 9)):=by rw[hBel.cell (p:=⟨blk,_,none⟩) hb];exact hcs 9 (by decide)
   have c10:wq.cell? ⟨blk,off+(n-(j+1))*14+10,none⟩=some (.slice (sA (n-(j+1)) 10) (sN (n-(j+1)) 10) (sC (n-(j+1)) 10)):=by rw[hBel.cell (p:=⟨blk,_,none⟩) hb];exact hcs 10 (by decide)
   have c11:wq.cell? ⟨blk,off+(n-(j+1))*14+11,none⟩=some (.slice (sA (n-(j+1)) 11) (sN (n-(j+1)) 11) (sC (n-(j+1)) 11)):=by rw[hBel.cell (p:=⟨blk,_,none⟩) hb];exact hcs 11 (by decide)
   have c12:wq.cell? ⟨blk,off+(n-(j+1))*14+12,none⟩=some (.slice (sA (n-(j+1)) 12) (sN (n-(j+1)) 12) (sC (n-(j+1)) 12)):=by rw[hBel.cell (p:=⟨blk,_,none⟩) hb];exact hcs 12 (by decide)
   have c13:wq.cell? ⟨blk,off+(n-(j+1))*14+13,none⟩=some (.bool ok):=by rw[hBel.cell (p:=⟨blk,_,none⟩) hb];have q:=hcs 13 (by decide);unfold cellV at q;rw[<-hok];exact q
   clear hcs;have hlb:=isb_lt hBld;have ha:=HA.out (n-(j+1));have hbound:∀s:ByteArray,s.size=2->(Lib.byteCells (acc (n-(j+1)))).length+s.size<=140737488355328:=fun s hs=>by
    rw[Lib.byteCells_length,hs];omega
   have HBd:Aside (∀s:ByteArray,s.size=2->(Lib.byteCells (acc (n-(j+1)))).length+s.size<=140737488355328):=hbound;clear hbound ha;cases ok with
   | true=>
    have hokv:=hok
    go_wp2_with (go_at_call 49;refine(bWriteT (w0.heap.size+1) (w0.heap.size+1) _ ⟨#[43,32]⟩ _ (isb_below hBld (zao _ _)) (HBd.out _ rfl) (by rw[alloc_size];omega)).mono ?_)
    rintro e1 w5 ⟨rfl,h5,hb5,hk5⟩
    have hT:=hk5 wq.heap.size _ 66 (by decide) (by omega) (alloc_new _ _);have d0:w5.cell? ⟨wq.heap.size,0,none⟩=some (.bool (sB (n-(j+1)) 0)):=by rw[Lib.cell_of_heap hT];rfl
    have d1:w5.cell? ⟨wq.heap.size,1,none⟩=some (.slice (sA (n-(j+1)) 1) (sN (n-(j+1)) 1) (sC (n-(j+1)) 1)):=by rw[Lib.cell_of_heap hT];rfl
    have d2:w5.cell? ⟨wq.heap.size,2,none⟩=some (.slice (sA (n-(j+1)) 2) (sN (n-(j+1)) 2) (sC (n-(j+1)) 2)):=by rw[Lib.cell_of_heap hT];rfl
    have d3:w5.cell? ⟨wq.heap.size,3,none⟩=some (.bool (sB (n-(j+1)) 3)):=by rw[Lib.cell_of_heap hT];rfl
    have d4:w5.cell? ⟨wq.heap.size,4,none⟩=some (.slice (sA (n-(j+1)) 4) (sN (n-(j+1)) 4) (sC (n-(j+1)) 4)):=by rw[Lib.cell_of_heap hT];rfl
    have d5:w5.cell? ⟨wq.heap.size,5,none⟩=some (.slice (sA (n-(j+1)) 5) (sN (n-(j+1)) 5) (sC (n-(j+1)) 5)):=by rw[Lib.cell_of_heap hT];rfl
    have d6:w5.cell? ⟨wq.heap.size,6,none⟩=some (.bool (sB (n-(j+1)) 6)):=by rw[Lib.cell_of_heap hT];rfl
    have d7:w5.cell? ⟨wq.heap.size,7,none⟩=some (.slice (sA (n-(j+1)) 7) (sN (n-(j+1)) 7) (sC (n-(j+1)) 7)):=by rw[Lib.cell_of_heap hT];rfl
    have d8:w5.cell? ⟨wq.heap.size,8,none⟩=some (.slice (sA (n-(j+1)) 8) (sN (n-(j+1)) 8) (sC (n-(j+1)) 8)):=by rw[Lib.cell_of_heap hT];rfl
    have d9:w5.cell? ⟨wq.heap.size,9,none⟩=some (.bool (sB (n-(j+1)) 9)):=by rw[Lib.cell_of_heap hT];rfl
    have d10:w5.cell? ⟨wq.heap.size,10,none⟩=some (.slice (sA (n-(j+1)) 10) (sN (n-(j+1)) 10) (sC (n-(j+1)) 10)):=by rw[Lib.cell_of_heap hT];rfl
    have d11:w5.cell? ⟨wq.heap.size,11,none⟩=some (.slice (sA (n-(j+1)) 11) (sN (n-(j+1)) 11) (sC (n-(j+1)) 11)):=by rw[Lib.cell_of_heap hT];rfl
    have d12:w5.cell? ⟨wq.heap.size,12,none⟩=some (.slice (sA (n-(j+1)) 12) (sN (n-(j+1)) 12) (sC (n-(j+1)) 12)):=by rw[Lib.cell_of_heap hT];rfl
    have d13:w5.cell? ⟨wq.heap.size,13,none⟩=some (.bool true):=by rw[Lib.cell_of_heap hT];rfl
    have h5l:=h5.lt;have hT5:=kept_lt hT;have hB5:=hk5 w0.heap.size _ 38 (by decide) (by omega) (by rw[Below.heap_alloc _ _ _ (by omega)];exact hB0);have hBe5:Below w0.heap.size w0 w5:=hBel.trans ((zao wq _).mono (by omega) |>.trans (hb5.mono (by omega)));have H5:Aside (Lib.BuilderAt 92 5 (w0.heap.size+1) (w0.heap.size+1) (.pointer (some ⟨w0.heap.size+1,0,none⟩)) (Lib.byteCells (acc (n-(j+1)))++Lib.strCells ⟨#[43,32]⟩) w5/\Below w0.heap.size w0 w5/\w5.heap[w0.heap.size]? = some (.cells #[.slice (some ⟨blk,off,none⟩) n cap,.bool tb,.slice qa na ka,.slice qb nb kb,.slice qc nc kc] 38 (0,0))/\w5.heap[wq.heap.size]? = some (.cells #[.bool (sB (n-(j+1)) 0),.slice (sA (n-(j+1)) 1) (sN (n-(j+1)) 1) (sC (n-(j+1)) 1),.slice (sA (n-(j+1)) 2) (sN (n-(j+1)) 2) (sC (n-(j+1)) 2),.bool (sB (n-(j+1)) 3),.slice (sA (n-(j+1)) 4) (sN (n-(j+1)) 4) (sC (n-(j+1)) 4),.slice (sA (n-(j+1)) 5) (sN (n-(j+1)) 5) (sC (n-(j+1)) 5),.bool (sB (n-(j+1)) 6),.slice (sA (n-(j+1)) 7) (sN (n-(j+1)) 7) (sC (n-(j+1)) 7),.slice (sA (n-(j+1)) 8) (sN (n-(j+1)) 8) (sC (n-(j+1)) 8),.bool (sB (n-(j+1)) 9),.slice (sA (n-(j+1)) 10) (sN (n-(j+1)) 10) (sC (n-(j+1)) 10),.slice (sA (n-(j+1)) 11) (sN (n-(j+1)) 11) (sC (n-(j+1)) 11),.slice (sA (n-(j+1)) 12) (sN (n-(j+1)) 12) (sC (n-(j+1)) 12),.bool true] 66 (0,0))):=⟨h5,hBe5,hB5,hT⟩;clear hk5 hT hB5 hBe5
    go_wp2
    simp only[Ybz,Ych,Yav,Ybw,Yb5]
    go_loopg [23] 4 (fun g s23 wx=>s23=.int .i64 ((4-g:Nat):Int)/\g<=4/\Aside (Lib.BuilderAt 92 5 (w0.heap.size+1) (w0.heap.size+1) (.pointer (some ⟨w0.heap.size+1,0,none⟩)) (Lib.byteCells (acc (n-(j+1))++(43::32::nt (n-(j+1)) (4-g)))) wx/\Below w0.heap.size w0 wx/\wx.heap[w0.heap.size]? = some (.cells #[.slice (some ⟨blk,off,none⟩) n cap,.bool tb,.slice qa na ka,.slice qb nb kb,.slice qc nc kc] 38 (0,0))/\wx.heap[wq.heap.size]? = some (.cells #[.bool (sB (n-(j+1)) 0),.slice (sA (n-(j+1)) 1) (sN (n-(j+1)) 1) (sC (n-(j+1)) 1),.slice (sA (n-(j+1)) 2) (sN (n-(j+1)) 2) (sC (n-(j+1)) 2),.bool (sB (n-(j+1)) 3),.slice (sA (n-(j+1)) 4) (sN (n-(j+1)) 4) (sC (n-(j+1)) 4),.slice (sA (n-(j+1)) 5) (sN (n-(j+1)) 5) (sC (n-(j+1)) 5),.bool (sB (n-(j+1)) 6),.slice (sA (n-(j+1)) 7) (sN (n-(j+1)) 7) (sC (n-(j+1)) 7),.slice (sA (n-(j+1)) 8) (sN (n-(j+1)) 8) (sC (n-(j+1)) 8),.bool (sB (n-(j+1)) 9),.slice (sA (n-(j+1)) 10) (sN (n-(j+1)) 10) (sC (n-(j+1)) 10),.slice (sA (n-(j+1)) 11) (sN (n-(j+1)) 11) (sC (n-(j+1)) 11),.slice (sA (n-(j+1)) 12) (sN (n-(j+1)) 12) (sC (n-(j+1)) 12),.bool true] 66 (0,0))/\wx.heap[w5.heap.size+1]? = some (.cells #[.bool (sB (n-(j+1)) 0),.slice (sA (n-(j+1)) 1) (sN (n-(j+1)) 1) (sC (n-(j+1)) 1),.slice (sA (n-(j+1)) 2) (sN (n-(j+1)) 2) (sC (n-(j+1)) 2),.bool (sB (n-(j+1)) 3),.slice (sA (n-(j+1)) 4) (sN (n-(j+1)) 4) (sC (n-(j+1)) 4),.slice (sA (n-(j+1)) 5) (sN (n-(j+1)) 5) (sC (n-(j+1)) 5),.bool (sB (n-(j+1)) 6),.slice (sA (n-(j+1)) 7) (sN (n-(j+1)) 7) (sC (n-(j+1)) 7),.slice (sA (n-(j+1)) 8) (sN (n-(j+1)) 8) (sC (n-(j+1)) 8),.bool (sB (n-(j+1)) 9),.slice (sA (n-(j+1)) 10) (sN (n-(j+1)) 10) (sC (n-(j+1)) 10),.slice (sA (n-(j+1)) 11) (sN (n-(j+1)) 11) (sC (n-(j+1)) 11)] 35 (0,0))))
    case atStart=>
     obtain⟨q1,q2,q3,q4⟩:=H5.out;have s1:=alloc_size w5 (.cells #[.bool (sB (n-(j+1)) 0),.slice (sA (n-(j+1)) 1) (sN (n-(j+1)) 1) (sC (n-(j+1)) 1),.slice (sA (n-(j+1)) 2) (sN (n-(j+1)) 2) (sC (n-(j+1)) 2),.bool (sB (n-(j+1)) 3),.slice (sA (n-(j+1)) 4) (sN (n-(j+1)) 4) (sC (n-(j+1)) 4),.slice (sA (n-(j+1)) 5) (sN (n-(j+1)) 5) (sC (n-(j+1)) 5),.bool (sB (n-(j+1)) 6),.slice (sA (n-(j+1)) 7) (sN (n-(j+1)) 7) (sC (n-(j+1)) 7),.slice (sA (n-(j+1)) 8) (sN (n-(j+1)) 8) (sC (n-(j+1)) 8),.bool (sB (n-(j+1)) 9),.slice (sA (n-(j+1)) 10) (sN (n-(j+1)) 10) (sC (n-(j+1)) 10),.slice (sA (n-(j+1)) 11) (sN (n-(j+1)) 11) (sC (n-(j+1)) 11),.slice (sA (n-(j+1)) 12) (sN (n-(j+1)) 12) (sC (n-(j+1)) 12),.bool true] 66);refine⟨rfl,Yi _,?_,?_,?_,?_,?_⟩
     ·rw[Ybe,HT0.out,Lib.byteCells_append];exact bld_below (bld_below q1 (zao _ _)) (zao _ _)
     ·exact(q2.alloc (by have:=q2.size;omega) _).alloc (by rw[s1];have:=q2.size;omega) _
     ·rw[Below.heap_alloc _ _ _ (by rw[s1];omega),Below.heap_alloc _ _ _ (by omega)];exact q3
     ·rw[Below.heap_alloc _ _ _ (by rw[s1];omega),Below.heap_alloc _ _ _ (by omega)];exact q4
     ·have:=alloc_new (w5.alloc (.cells #[.bool (sB (n-(j+1)) 0),.slice (sA (n-(j+1)) 1) (sN (n-(j+1)) 1) (sC (n-(j+1)) 1),.slice (sA (n-(j+1)) 2) (sN (n-(j+1)) 2) (sC (n-(j+1)) 2),.bool (sB (n-(j+1)) 3),.slice (sA (n-(j+1)) 4) (sN (n-(j+1)) 4) (sC (n-(j+1)) 4),.slice (sA (n-(j+1)) 5) (sN (n-(j+1)) 5) (sC (n-(j+1)) 5),.bool (sB (n-(j+1)) 6),.slice (sA (n-(j+1)) 7) (sN (n-(j+1)) 7) (sC (n-(j+1)) 7),.slice (sA (n-(j+1)) 8) (sN (n-(j+1)) 8) (sC (n-(j+1)) 8),.bool (sB (n-(j+1)) 9),.slice (sA (n-(j+1)) 10) (sN (n-(j+1)) 10) (sC (n-(j+1)) 10),.slice (sA (n-(j+1)) 11) (sN (n-(j+1)) 11) (sC (n-(j+1)) 11),.slice (sA (n-(j+1)) 12) (sN (n-(j+1)) 12) (sC (n-(j+1)) 12),.bool true] 66)) (.cells #[.bool (sB (n-(j+1)) 0),.slice (sA (n-(j+1)) 1) (sN (n-(j+1)) 1) (sC (n-(j+1)) 1),.slice (sA (n-(j+1)) 2) (sN (n-(j+1)) 2) (sC (n-(j+1)) 2),.bool (sB (n-(j+1)) 3),.slice (sA (n-(j+1)) 4) (sN (n-(j+1)) 4) (sC (n-(j+1)) 4),.slice (sA (n-(j+1)) 5) (sN (n-(j+1)) 5) (sC (n-(j+1)) 5),.bool (sB (n-(j+1)) 6),.slice (sA (n-(j+1)) 7) (sN (n-(j+1)) 7) (sC (n-(j+1)) 7),.slice (sA (n-(j+1)) 8) (sN (n-(j+1)) 8) (sC (n-(j+1)) 8),.bool (sB (n-(j+1)) 9),.slice (sA (n-(j+1)) 10) (sN (n-(j+1)) 10) (sC (n-(j+1)) 10),.slice (sA (n-(j+1)) 11) (sN (n-(j+1)) 11) (sC (n-(j+1)) 11)] 35);rw[s1]at this;exact this
    case round=>
     obtain⟨rfl,hg2,HV⟩:=hrel;cases gk with
     | zero=>
      obtain⟨r1,r2,r3,r4,r5⟩:=HV.out;rw[Ydc]at r1;clear HV H5;have g12:wr.cell? ⟨wq.heap.size,12,none⟩=some (.slice (sA (n-(j+1)) 12) (sN (n-(j+1)) 12) (sC (n-(j+1)) 12)):=by rw[Lib.cell_of_heap r4];rfl
      have lr:=HY.out (n-(j+1));have ln:=HN.out (n-(j+1)) 4;have la:=HA.out (n-(j+1));have lb:=r1.lt;have l0:=r2.size;have l4:=kept_lt r4;have HV2:Aside (Lib.BuilderAt 92 5 (w0.heap.size+1) (w0.heap.size+1) (.pointer (some ⟨w0.heap.size+1,0,none⟩)) (Lib.byteCells (acc (n-(j+1))++(43::32::nt (n-(j+1)) 4))) wr/\Below w0.heap.size w0 wr/\wr.heap[w0.heap.size]? = some (.cells #[.slice (some ⟨blk,off,none⟩) n cap,.bool tb,.slice qa na ka,.slice qb nb kb,.slice qc nc kc] 38 (0,0))/\w0.heap.size+1<wr.heap.size):=⟨r1,r2,r3,lb⟩;have HL:Aside ((ry (n-(j+1))).length<=1000000/\(nt (n-(j+1)) 4).length<=5000000/\(acc (n-(j+1))).length<=1000000000):=⟨lr,ln,la⟩;clear r1 r2 r3 r4 r5 lr ln la lb l0 l4
      go_wp2_with (go_at_call 52;refine(HR.out _ hi _ HV2.out.2.1).mono ?_)
      rintro e2 w6 ⟨rfl,hb6⟩
      have nb:¬ 9223372036854775807<(ry (n-(j+1))).length+1:=by have:=HL.out.1;omega
      have bd1:(Lib.byteCells (acc (n-(j+1))++(43::32::nt (n-(j+1)) 4))).length+((⟨(ry (n-(j+1))).toArray⟩:ByteArray) ++ ⟨#[10]⟩).size<=140737488355328:=by
       rw[show (⟨(ry (n-(j+1))).toArray⟩:ByteArray) ++ ⟨#[10]⟩=⟨(ry (n-(j+1))++[10]).toArray⟩ from ba_app _ _];obtain⟨k1,k2,k3⟩:=HL.out;rw[Lib.byteCells_length];show _+(ry (n-(j+1))++[10]).toArray.size<=_;simp only[Ybx,Yq,Yg,Yam];omega
      have bd2:w0.heap.size+1<=w6.heap.size:=by
       have:=hb6.size;have:=HV2.out.2.2.2;omega
      have hbd:Lib.IsBuilder 92 5 (w0.heap.size+1) (w0.heap.size+1) (Lib.byteCells (acc (n-(j+1))++(43::32::nt (n-(j+1)) 4))) w6:=Or.inr (bld_below HV2.out.1 hb6);have hcall:=bWriteT (w0.heap.size+1) (w0.heap.size+1) (Lib.byteCells (acc (n-(j+1))++(43::32::nt (n-(j+1)) 4))) (⟨(ry (n-(j+1))).toArray⟩ ++ ⟨#[10]⟩) w6 hbd bd1 bd2;have HCL:=aside_of hcall;clear hcall hbd bd1 bd2
      go_wp2_with (go_at_call 49;refine(Aside.out HCL).mono ?_)
      rintro e3 w7 ⟨rfl,h7,hb7,hk7⟩
      go_wp2
      go_roundg j
      case measure=>omega
      case rel=>
       obtain⟨r1,r2,r3,lb⟩:=HV2.out;have s6:=hb6.size;refine⟨?_,by omega,?_,?_,?_⟩
       ·congr 1;exact wrap_next HNN.out hg
       ·have e:acc (n-j)=(acc (n-(j+1))++(43::32::nt (n-(j+1)) 4))++(ry (n-(j+1))++[10]):=by
         have:=HS.out (n-(j+1)) (by omega);rw[show (n-(j+1))+1=n-j by omega]at this;rw[this,hokv];simp[sgn]
        rw[show (⟨(ry (n-(j+1))).toArray⟩:ByteArray) ++ ⟨#[10]⟩=⟨(ry (n-(j+1))++[10]).toArray⟩ from ba_app _ _]at h7;rw[e,Lib.byteCells_append];exact .inr h7
       ·exact r2.trans ((hb6.mono (by omega)).trans (hb7.mono (by omega)))
       ·exact hk7 _ _ 38 (by decide) (by omega) (by rw[hb6.block _ (by omega)];exact r3)
     | succ m=>
      obtain⟨r1,r2,r3,r4,r5⟩:=HV.out;obtain⟨k,hkk⟩:∃k,4-(m+1)=k:=⟨_,rfl⟩;rw[hkk]at r1 ⊢;clear HV H5;have hk4:k<4:=by omega
      have hk4':(k:Int)<4:=by omega
      have key:∀k,k<4->(#[.bool (sB (n-(j+1)) 0),.slice (sA (n-(j+1)) 1) (sN (n-(j+1)) 1) (sC (n-(j+1)) 1),.slice (sA (n-(j+1)) 2) (sN (n-(j+1)) 2) (sC (n-(j+1)) 2),.bool (sB (n-(j+1)) 3),.slice (sA (n-(j+1)) 4) (sN (n-(j+1)) 4) (sC (n-(j+1)) 4),.slice (sA (n-(j+1)) 5) (sN (n-(j+1)) 5) (sC (n-(j+1)) 5),.bool (sB (n-(j+1)) 6),.slice (sA (n-(j+1)) 7) (sN (n-(j+1)) 7) (sC (n-(j+1)) 7),.slice (sA (n-(j+1)) 8) (sN (n-(j+1)) 8) (sC (n-(j+1)) 8),.bool (sB (n-(j+1)) 9),.slice (sA (n-(j+1)) 10) (sN (n-(j+1)) 10) (sC (n-(j+1)) 10),.slice (sA (n-(j+1)) 11) (sN (n-(j+1)) 11) (sC (n-(j+1)) 11)]:Array Value)[k*3]? = some (.bool (sB (n-(j+1)) (3*k)))/\(#[.bool (sB (n-(j+1)) 0),.slice (sA (n-(j+1)) 1) (sN (n-(j+1)) 1) (sC (n-(j+1)) 1),.slice (sA (n-(j+1)) 2) (sN (n-(j+1)) 2) (sC (n-(j+1)) 2),.bool (sB (n-(j+1)) 3),.slice (sA (n-(j+1)) 4) (sN (n-(j+1)) 4) (sC (n-(j+1)) 4),.slice (sA (n-(j+1)) 5) (sN (n-(j+1)) 5) (sC (n-(j+1)) 5),.bool (sB (n-(j+1)) 6),.slice (sA (n-(j+1)) 7) (sN (n-(j+1)) 7) (sC (n-(j+1)) 7),.slice (sA (n-(j+1)) 8) (sN (n-(j+1)) 8) (sC (n-(j+1)) 8),.bool (sB (n-(j+1)) 9),.slice (sA (n-(j+1)) 10) (sN (n-(j+1)) 10) (sC (n-(j+1)) 10),.slice (sA (n-(j+1)) 11) (sN (n-(j+1)) 11) (sC (n-(j+1)) 11)]:Array Value)[k*3+1]? = some (.slice (sA (n-(j+1)) (3*k+1)) (sN (n-(j+1)) (3*k+1)) (sC (n-(j+1)) (3*k+1)))/\(#[.bool (sB (n-(j+1)) 0),.slice (sA (n-(j+1)) 1) (sN (n-(j+1)) 1) (sC (n-(j+1)) 1),.slice (sA (n-(j+1)) 2) (sN (n-(j+1)) 2) (sC (n-(j+1)) 2),.bool (sB (n-(j+1)) 3),.slice (sA (n-(j+1)) 4) (sN (n-(j+1)) 4) (sC (n-(j+1)) 4),.slice (sA (n-(j+1)) 5) (sN (n-(j+1)) 5) (sC (n-(j+1)) 5),.bool (sB (n-(j+1)) 6),.slice (sA (n-(j+1)) 7) (sN (n-(j+1)) 7) (sC (n-(j+1)) 7),.slice (sA (n-(j+1)) 8) (sN (n-(j+1)) 8) (sC (n-(j+1)) 8),.bool (sB (n-(j+1)) 9),.slice (sA (n-(j+1)) 10) (sN (n-(j+1)) 10) (sC (n-(j+1)) 10),.slice (sA (n-(j+1)) 11) (sN (n-(j+1)) 11) (sC (n-(j+1)) 11)]:Array Value)[k*3+2]? = some (.slice (sA (n-(j+1)) (3*k+2)) (sN (n-(j+1)) (3*k+2)) (sC (n-(j+1)) (3*k+2))):=by
       intro k hk
       match k,hk with
       | 0,_=>exact⟨rfl,rfl,rfl⟩
       | 1,_=>exact⟨rfl,rfl,rfl⟩
       | 2,_=>exact⟨rfl,rfl,rfl⟩
       | 3,_=>exact⟨rfl,rfl,rfl⟩
      obtain⟨y0,y1,y2⟩:=key _ hk4;have f0:wr.cell? ⟨w5.heap.size+1,k*3,none⟩=some (.bool (sB (n-(j+1)) (3*k))):=by rw[Lib.cell_of_heap r5];exact y0
      have f1:wr.cell? ⟨w5.heap.size+1,k*3+1,none⟩=some (.slice (sA (n-(j+1)) (3*k+1)) (sN (n-(j+1)) (3*k+1)) (sC (n-(j+1)) (3*k+1))):=by rw[Lib.cell_of_heap r5];exact y1
      have f2:wr.cell? ⟨w5.heap.size+1,k*3+2,none⟩=some (.slice (sA (n-(j+1)) (3*k+2)) (sN (n-(j+1)) (3*k+2)) (sC (n-(j+1)) (3*k+2))):=by rw[Lib.cell_of_heap r5];exact y2
      clear y0 y1 y2 key;have HV2:Aside (Lib.BuilderAt 92 5 (w0.heap.size+1) (w0.heap.size+1) (.pointer (some ⟨w0.heap.size+1,0,none⟩)) (Lib.byteCells (acc (n-(j+1))++(43::32::nt (n-(j+1)) k))) wr/\Below w0.heap.size w0 wr/\wr.heap[w0.heap.size]? = some (.cells #[.slice (some ⟨blk,off,none⟩) n cap,.bool tb,.slice qa na ka,.slice qb nb kb,.slice qc nc kc] 38 (0,0))/\wr.heap[wq.heap.size]? = some (.cells #[.bool (sB (n-(j+1)) 0),.slice (sA (n-(j+1)) 1) (sN (n-(j+1)) 1) (sC (n-(j+1)) 1),.slice (sA (n-(j+1)) 2) (sN (n-(j+1)) 2) (sC (n-(j+1)) 2),.bool (sB (n-(j+1)) 3),.slice (sA (n-(j+1)) 4) (sN (n-(j+1)) 4) (sC (n-(j+1)) 4),.slice (sA (n-(j+1)) 5) (sN (n-(j+1)) 5) (sC (n-(j+1)) 5),.bool (sB (n-(j+1)) 6),.slice (sA (n-(j+1)) 7) (sN (n-(j+1)) 7) (sC (n-(j+1)) 7),.slice (sA (n-(j+1)) 8) (sN (n-(j+1)) 8) (sC (n-(j+1)) 8),.bool (sB (n-(j+1)) 9),.slice (sA (n-(j+1)) 10) (sN (n-(j+1)) 10) (sC (n-(j+1)) 10),.slice (sA (n-(j+1)) 11) (sN (n-(j+1)) 11) (sC (n-(j+1)) 11),.slice (sA (n-(j+1)) 12) (sN (n-(j+1)) 12) (sC (n-(j+1)) 12),.bool true] 66 (0,0))/\wr.heap[w5.heap.size+1]? = some (.cells #[.bool (sB (n-(j+1)) 0),.slice (sA (n-(j+1)) 1) (sN (n-(j+1)) 1) (sC (n-(j+1)) 1),.slice (sA (n-(j+1)) 2) (sN (n-(j+1)) 2) (sC (n-(j+1)) 2),.bool (sB (n-(j+1)) 3),.slice (sA (n-(j+1)) 4) (sN (n-(j+1)) 4) (sC (n-(j+1)) 4),.slice (sA (n-(j+1)) 5) (sN (n-(j+1)) 5) (sC (n-(j+1)) 5),.bool (sB (n-(j+1)) 6),.slice (sA (n-(j+1)) 7) (sN (n-(j+1)) 7) (sC (n-(j+1)) 7),.slice (sA (n-(j+1)) 8) (sN (n-(j+1)) 8) (sC (n-(j+1)) 8),.bool (sB (n-(j+1)) 9),.slice (sA (n-(j+1)) 10) (sN (n-(j+1)) 10) (sC (n-(j+1)) 10),.slice (sA (n-(j+1)) 11) (sN (n-(j+1)) 11) (sC (n-(j+1)) 11)] 35 (0,0))):=⟨r1,r2,r3,r4,r5⟩;have lb:=r1.lt;clear r1 r2 r3 r4 r5
      go_wp2_with (go_at_call 51;refine(HF.out _ hi _ hk4 _ (HV2.out.2.1.alloc HV2.out.2.1.size _)).mono ?_)
      rintro e2 w6 ⟨rfl,hb6⟩
      have nb:¬ 9223372036854775807<(tx (n-(j+1)) k).length+1:=by have:=HQ.out (n-(j+1)) k;omega
      have bd1:(Lib.byteCells (acc (n-(j+1))++(43::32::nt (n-(j+1)) k))).length+((⟨(tx (n-(j+1)) k).toArray⟩:ByteArray) ++ ⟨#[32]⟩).size<=140737488355328:=by
       rw[show (⟨(tx (n-(j+1)) k).toArray⟩:ByteArray) ++ ⟨#[32]⟩=⟨(tx (n-(j+1)) k++[32]).toArray⟩ from ba_app _ _];have k1:=HQ.out (n-(j+1)) k;have k2:=HN.out (n-(j+1)) k;have k3:=HA.out (n-(j+1));rw[Lib.byteCells_length];show _+(tx (n-(j+1)) k++[32]).toArray.size<=_;simp only[Ybx,Yq,Yg,Yam];omega
      have bd2:w0.heap.size+1<=w6.heap.size:=by
       have:=hb6.size;rw[alloc_size]at this;omega
      have hbd:Lib.IsBuilder 92 5 (w0.heap.size+1) (w0.heap.size+1) (Lib.byteCells (acc (n-(j+1))++(43::32::nt (n-(j+1)) k))) w6:=Or.inr (bld_below (bld_below HV2.out.1 (zao _ _)) hb6);have hcall:=bWriteT (w0.heap.size+1) (w0.heap.size+1) (Lib.byteCells (acc (n-(j+1))++(43::32::nt (n-(j+1)) k))) (⟨(tx (n-(j+1)) k).toArray⟩ ++ ⟨#[32]⟩) w6 hbd bd1 bd2;have HCL:=aside_of hcall;clear hcall hbd bd1 bd2
      go_wp2_with (go_at_call 49;refine(Aside.out HCL).mono ?_)
      rintro e3 w7 ⟨rfl,h7,hb7,hk7⟩
      go_wp2
      go_roundg m
      case measure=>omega
      case rel=>
       obtain⟨r1,r2,r3,r4,r5⟩:=HV2.out;have s6:=hb6.size;rw[alloc_size]at s6;have l4:=kept_lt r4;have l5:=kept_lt r5;have tr:∀x o,x<wr.heap.size->wr.heap[x]? = some o->w6.heap[x]? = some o:=fun x o hx ho=>by
        rw[hb6.block _ (by rw[alloc_size];omega),Below.heap_alloc _ _ _ hx];exact ho
       refine⟨?_,by omega,?_,?_,?_,?_,?_⟩
       ·congr 1;omega
       ·have e:nt (n-(j+1)) (4-m)=nt (n-(j+1)) k++(tx (n-(j+1)) k++[32]):=by
         have:=HTS.out (n-(j+1)) k (by omega);rw[show k+1=4-m by omega]at this;exact this
        have e2:acc (n-(j+1))++(43::32::nt (n-(j+1)) (4-m))=(acc (n-(j+1))++(43::32::nt (n-(j+1)) k))++(tx (n-(j+1)) k++[32]):=by rw[e];simp
        rw[show (⟨(tx (n-(j+1)) k).toArray⟩:ByteArray) ++ ⟨#[32]⟩=⟨(tx (n-(j+1)) k++[32]).toArray⟩ from ba_app _ _]at h7;rw[e2,Lib.byteCells_append];exact h7
       ·exact(r2.alloc r2.size _).trans ((hb6.mono (by rw[alloc_size];have:=r2.size;omega)).trans (hb7.mono (by omega)))
       ·exact hk7 _ _ 38 (by decide) (by omega) (tr _ _ (by omega) r3)
       ·exact hk7 _ _ 66 (by decide) (by omega) (tr _ _ l4 r4)
       ·exact hk7 _ _ 35 (by decide) (by omega) (tr _ _ l5 r5)
   | false=>
    have hokv:=hok
    go_wp2_with (go_at_call 49;refine(bWriteT (w0.heap.size+1) (w0.heap.size+1) _ ⟨#[45,32]⟩ _ (isb_below hBld (zao _ _)) (HBd.out _ rfl) (by rw[alloc_size];omega)).mono ?_)
    rintro e1 w5 ⟨rfl,h5,hb5,hk5⟩
    have hT:=hk5 wq.heap.size _ 66 (by decide) (by omega) (alloc_new _ _);have d0:w5.cell? ⟨wq.heap.size,0,none⟩=some (.bool (sB (n-(j+1)) 0)):=by rw[Lib.cell_of_heap hT];rfl
    have d1:w5.cell? ⟨wq.heap.size,1,none⟩=some (.slice (sA (n-(j+1)) 1) (sN (n-(j+1)) 1) (sC (n-(j+1)) 1)):=by rw[Lib.cell_of_heap hT];rfl
    have d2:w5.cell? ⟨wq.heap.size,2,none⟩=some (.slice (sA (n-(j+1)) 2) (sN (n-(j+1)) 2) (sC (n-(j+1)) 2)):=by rw[Lib.cell_of_heap hT];rfl
    have d3:w5.cell? ⟨wq.heap.size,3,none⟩=some (.bool (sB (n-(j+1)) 3)):=by rw[Lib.cell_of_heap hT];rfl
    have d4:w5.cell? ⟨wq.heap.size,4,none⟩=some (.slice (sA (n-(j+1)) 4) (sN (n-(j+1)) 4) (sC (n-(j+1)) 4)):=by rw[Lib.cell_of_heap hT];rfl
    have d5:w5.cell? ⟨wq.heap.size,5,none⟩=some (.slice (sA (n-(j+1)) 5) (sN (n-(j+1)) 5) (sC (n-(j+1)) 5)):=by rw[Lib.cell_of_heap hT];rfl
    have d6:w5.cell? ⟨wq.heap.size,6,none⟩=some (.bool (sB (n-(j+1)) 6)):=by rw[Lib.cell_of_heap hT];rfl
    have d7:w5.cell? ⟨wq.heap.size,7,none⟩=some (.slice (sA (n-(j+1)) 7) (sN (n-(j+1)) 7) (sC (n-(j+1)) 7)):=by rw[Lib.cell_of_heap hT];rfl
    have d8:w5.cell? ⟨wq.heap.size,8,none⟩=some (.slice (sA (n-(j+1)) 8) (sN (n-(j+1)) 8) (sC (n-(j+1)) 8)):=by rw[Lib.cell_of_heap hT];rfl
    have d9:w5.cell? ⟨wq.heap.size,9,none⟩=some (.bool (sB (n-(j+1)) 9)):=by rw[Lib.cell_of_heap hT];rfl
    have d10:w5.cell? ⟨wq.heap.size,10,none⟩=some (.slice (sA (n-(j+1)) 10) (sN (n-(j+1)) 10) (sC (n-(j+1)) 10)):=by rw[Lib.cell_of_heap hT];rfl
    have d11:w5.cell? ⟨wq.heap.size,11,none⟩=some (.slice (sA (n-(j+1)) 11) (sN (n-(j+1)) 11) (sC (n-(j+1)) 11)):=by rw[Lib.cell_of_heap hT];rfl
    have d12:w5.cell? ⟨wq.heap.size,12,none⟩=some (.slice (sA (n-(j+1)) 12) (sN (n-(j+1)) 12) (sC (n-(j+1)) 12)):=by rw[Lib.cell_of_heap hT];rfl
    have d13:w5.cell? ⟨wq.heap.size,13,none⟩=some (.bool false):=by rw[Lib.cell_of_heap hT];rfl
    have h5l:=h5.lt;have hT5:=kept_lt hT;have hB5:=hk5 w0.heap.size _ 38 (by decide) (by omega) (by rw[Below.heap_alloc _ _ _ (by omega)];exact hB0);have hBe5:Below w0.heap.size w0 w5:=hBel.trans ((zao wq _).mono (by omega) |>.trans (hb5.mono (by omega)));have H5:Aside (Lib.BuilderAt 92 5 (w0.heap.size+1) (w0.heap.size+1) (.pointer (some ⟨w0.heap.size+1,0,none⟩)) (Lib.byteCells (acc (n-(j+1)))++Lib.strCells ⟨#[45,32]⟩) w5/\Below w0.heap.size w0 w5/\w5.heap[w0.heap.size]? = some (.cells #[.slice (some ⟨blk,off,none⟩) n cap,.bool tb,.slice qa na ka,.slice qb nb kb,.slice qc nc kc] 38 (0,0))/\w5.heap[wq.heap.size]? = some (.cells #[.bool (sB (n-(j+1)) 0),.slice (sA (n-(j+1)) 1) (sN (n-(j+1)) 1) (sC (n-(j+1)) 1),.slice (sA (n-(j+1)) 2) (sN (n-(j+1)) 2) (sC (n-(j+1)) 2),.bool (sB (n-(j+1)) 3),.slice (sA (n-(j+1)) 4) (sN (n-(j+1)) 4) (sC (n-(j+1)) 4),.slice (sA (n-(j+1)) 5) (sN (n-(j+1)) 5) (sC (n-(j+1)) 5),.bool (sB (n-(j+1)) 6),.slice (sA (n-(j+1)) 7) (sN (n-(j+1)) 7) (sC (n-(j+1)) 7),.slice (sA (n-(j+1)) 8) (sN (n-(j+1)) 8) (sC (n-(j+1)) 8),.bool (sB (n-(j+1)) 9),.slice (sA (n-(j+1)) 10) (sN (n-(j+1)) 10) (sC (n-(j+1)) 10),.slice (sA (n-(j+1)) 11) (sN (n-(j+1)) 11) (sC (n-(j+1)) 11),.slice (sA (n-(j+1)) 12) (sN (n-(j+1)) 12) (sC (n-(j+1)) 12),.bool false] 66 (0,0))):=⟨h5,hBe5,hB5,hT⟩;clear hk5 hT hB5 hBe5
    go_wp2
    simp only[Ybz,Ych,Yav,Ybw,Yb5]
    go_loopg [23] 4 (fun g s23 wx=>s23=.int .i64 ((4-g:Nat):Int)/\g<=4/\Aside (Lib.BuilderAt 92 5 (w0.heap.size+1) (w0.heap.size+1) (.pointer (some ⟨w0.heap.size+1,0,none⟩)) (Lib.byteCells (acc (n-(j+1))++(45::32::nt (n-(j+1)) (4-g)))) wx/\Below w0.heap.size w0 wx/\wx.heap[w0.heap.size]? = some (.cells #[.slice (some ⟨blk,off,none⟩) n cap,.bool tb,.slice qa na ka,.slice qb nb kb,.slice qc nc kc] 38 (0,0))/\wx.heap[wq.heap.size]? = some (.cells #[.bool (sB (n-(j+1)) 0),.slice (sA (n-(j+1)) 1) (sN (n-(j+1)) 1) (sC (n-(j+1)) 1),.slice (sA (n-(j+1)) 2) (sN (n-(j+1)) 2) (sC (n-(j+1)) 2),.bool (sB (n-(j+1)) 3),.slice (sA (n-(j+1)) 4) (sN (n-(j+1)) 4) (sC (n-(j+1)) 4),.slice (sA (n-(j+1)) 5) (sN (n-(j+1)) 5) (sC (n-(j+1)) 5),.bool (sB (n-(j+1)) 6),.slice (sA (n-(j+1)) 7) (sN (n-(j+1)) 7) (sC (n-(j+1)) 7),.slice (sA (n-(j+1)) 8) (sN (n-(j+1)) 8) (sC (n-(j+1)) 8),.bool (sB (n-(j+1)) 9),.slice (sA (n-(j+1)) 10) (sN (n-(j+1)) 10) (sC (n-(j+1)) 10),.slice (sA (n-(j+1)) 11) (sN (n-(j+1)) 11) (sC (n-(j+1)) 11),.slice (sA (n-(j+1)) 12) (sN (n-(j+1)) 12) (sC (n-(j+1)) 12),.bool false] 66 (0,0))/\wx.heap[w5.heap.size+1]? = some (.cells #[.bool (sB (n-(j+1)) 0),.slice (sA (n-(j+1)) 1) (sN (n-(j+1)) 1) (sC (n-(j+1)) 1),.slice (sA (n-(j+1)) 2) (sN (n-(j+1)) 2) (sC (n-(j+1)) 2),.bool (sB (n-(j+1)) 3),.slice (sA (n-(j+1)) 4) (sN (n-(j+1)) 4) (sC (n-(j+1)) 4),.slice (sA (n-(j+1)) 5) (sN (n-(j+1)) 5) (sC (n-(j+1)) 5),.bool (sB (n-(j+1)) 6),.slice (sA (n-(j+1)) 7) (sN (n-(j+1)) 7) (sC (n-(j+1)) 7),.slice (sA (n-(j+1)) 8) (sN (n-(j+1)) 8) (sC (n-(j+1)) 8),.bool (sB (n-(j+1)) 9),.slice (sA (n-(j+1)) 10) (sN (n-(j+1)) 10) (sC (n-(j+1)) 10),.slice (sA (n-(j+1)) 11) (sN (n-(j+1)) 11) (sC (n-(j+1)) 11)] 35 (0,0))))
    case atStart=>
     obtain⟨q1,q2,q3,q4⟩:=H5.out;have s1:=alloc_size w5 (.cells #[.bool (sB (n-(j+1)) 0),.slice (sA (n-(j+1)) 1) (sN (n-(j+1)) 1) (sC (n-(j+1)) 1),.slice (sA (n-(j+1)) 2) (sN (n-(j+1)) 2) (sC (n-(j+1)) 2),.bool (sB (n-(j+1)) 3),.slice (sA (n-(j+1)) 4) (sN (n-(j+1)) 4) (sC (n-(j+1)) 4),.slice (sA (n-(j+1)) 5) (sN (n-(j+1)) 5) (sC (n-(j+1)) 5),.bool (sB (n-(j+1)) 6),.slice (sA (n-(j+1)) 7) (sN (n-(j+1)) 7) (sC (n-(j+1)) 7),.slice (sA (n-(j+1)) 8) (sN (n-(j+1)) 8) (sC (n-(j+1)) 8),.bool (sB (n-(j+1)) 9),.slice (sA (n-(j+1)) 10) (sN (n-(j+1)) 10) (sC (n-(j+1)) 10),.slice (sA (n-(j+1)) 11) (sN (n-(j+1)) 11) (sC (n-(j+1)) 11),.slice (sA (n-(j+1)) 12) (sN (n-(j+1)) 12) (sC (n-(j+1)) 12),.bool false] 66);refine⟨rfl,Yi _,?_,?_,?_,?_,?_⟩
     ·rw[Ybe,HT0.out,Lib.byteCells_append];exact bld_below (bld_below q1 (zao _ _)) (zao _ _)
     ·exact(q2.alloc (by have:=q2.size;omega) _).alloc (by rw[s1];have:=q2.size;omega) _
     ·rw[Below.heap_alloc _ _ _ (by rw[s1];omega),Below.heap_alloc _ _ _ (by omega)];exact q3
     ·rw[Below.heap_alloc _ _ _ (by rw[s1];omega),Below.heap_alloc _ _ _ (by omega)];exact q4
     ·have:=alloc_new (w5.alloc (.cells #[.bool (sB (n-(j+1)) 0),.slice (sA (n-(j+1)) 1) (sN (n-(j+1)) 1) (sC (n-(j+1)) 1),.slice (sA (n-(j+1)) 2) (sN (n-(j+1)) 2) (sC (n-(j+1)) 2),.bool (sB (n-(j+1)) 3),.slice (sA (n-(j+1)) 4) (sN (n-(j+1)) 4) (sC (n-(j+1)) 4),.slice (sA (n-(j+1)) 5) (sN (n-(j+1)) 5) (sC (n-(j+1)) 5),.bool (sB (n-(j+1)) 6),.slice (sA (n-(j+1)) 7) (sN (n-(j+1)) 7) (sC (n-(j+1)) 7),.slice (sA (n-(j+1)) 8) (sN (n-(j+1)) 8) (sC (n-(j+1)) 8),.bool (sB (n-(j+1)) 9),.slice (sA (n-(j+1)) 10) (sN (n-(j+1)) 10) (sC (n-(j+1)) 10),.slice (sA (n-(j+1)) 11) (sN (n-(j+1)) 11) (sC (n-(j+1)) 11),.slice (sA (n-(j+1)) 12) (sN (n-(j+1)) 12) (sC (n-(j+1)) 12),.bool false] 66)) (.cells #[.bool (sB (n-(j+1)) 0),.slice (sA (n-(j+1)) 1) (sN (n-(j+1)) 1) (sC (n-(j+1)) 1),.slice (sA (n-(j+1)) 2) (sN (n-(j+1)) 2) (sC (n-(j+1)) 2),.bool (sB (n-(j+1)) 3),.slice (sA (n-(j+1)) 4) (sN (n-(j+1)) 4) (sC (n-(j+1)) 4),.slice (sA (n-(j+1)) 5) (sN (n-(j+1)) 5) (sC (n-(j+1)) 5),.bool (sB (n-(j+1)) 6),.slice (sA (n-(j+1)) 7) (sN (n-(j+1)) 7) (sC (n-(j+1)) 7),.slice (sA (n-(j+1)) 8) (sN (n-(j+1)) 8) (sC (n-(j+1)) 8),.bool (sB (n-(j+1)) 9),.slice (sA (n-(j+1)) 10) (sN (n-(j+1)) 10) (sC (n-(j+1)) 10),.slice (sA (n-(j+1)) 11) (sN (n-(j+1)) 11) (sC (n-(j+1)) 11)] 35);rw[s1]at this;exact this
    case round=>
     obtain⟨rfl,hg2,HV⟩:=hrel;cases gk with
     | zero=>
      obtain⟨r1,r2,r3,r4,r5⟩:=HV.out;rw[Ydc]at r1;clear HV H5;have g12:wr.cell? ⟨wq.heap.size,12,none⟩=some (.slice (sA (n-(j+1)) 12) (sN (n-(j+1)) 12) (sC (n-(j+1)) 12)):=by rw[Lib.cell_of_heap r4];rfl
      have lr:=HY.out (n-(j+1));have ln:=HN.out (n-(j+1)) 4;have la:=HA.out (n-(j+1));have lb:=r1.lt;have l0:=r2.size;have l4:=kept_lt r4;have HV2:Aside (Lib.BuilderAt 92 5 (w0.heap.size+1) (w0.heap.size+1) (.pointer (some ⟨w0.heap.size+1,0,none⟩)) (Lib.byteCells (acc (n-(j+1))++(45::32::nt (n-(j+1)) 4))) wr/\Below w0.heap.size w0 wr/\wr.heap[w0.heap.size]? = some (.cells #[.slice (some ⟨blk,off,none⟩) n cap,.bool tb,.slice qa na ka,.slice qb nb kb,.slice qc nc kc] 38 (0,0))/\w0.heap.size+1<wr.heap.size):=⟨r1,r2,r3,lb⟩;have HL:Aside ((ry (n-(j+1))).length<=1000000/\(nt (n-(j+1)) 4).length<=5000000/\(acc (n-(j+1))).length<=1000000000):=⟨lr,ln,la⟩;clear r1 r2 r3 r4 r5 lr ln la lb l0 l4
      go_wp2_with (go_at_call 52;refine(HR.out _ hi _ HV2.out.2.1).mono ?_)
      rintro e2 w6 ⟨rfl,hb6⟩
      have nb:¬ 9223372036854775807<(ry (n-(j+1))).length+1:=by have:=HL.out.1;omega
      have bd1:(Lib.byteCells (acc (n-(j+1))++(45::32::nt (n-(j+1)) 4))).length+((⟨(ry (n-(j+1))).toArray⟩:ByteArray) ++ ⟨#[10]⟩).size<=140737488355328:=by
       rw[show (⟨(ry (n-(j+1))).toArray⟩:ByteArray) ++ ⟨#[10]⟩=⟨(ry (n-(j+1))++[10]).toArray⟩ from ba_app _ _];obtain⟨k1,k2,k3⟩:=HL.out;rw[Lib.byteCells_length];show _+(ry (n-(j+1))++[10]).toArray.size<=_;simp only[Ybx,Yq,Yg,Yam];omega
      have bd2:w0.heap.size+1<=w6.heap.size:=by
       have:=hb6.size;have:=HV2.out.2.2.2;omega
      have hbd:Lib.IsBuilder 92 5 (w0.heap.size+1) (w0.heap.size+1) (Lib.byteCells (acc (n-(j+1))++(45::32::nt (n-(j+1)) 4))) w6:=Or.inr (bld_below HV2.out.1 hb6);have hcall:=bWriteT (w0.heap.size+1) (w0.heap.size+1) (Lib.byteCells (acc (n-(j+1))++(45::32::nt (n-(j+1)) 4))) (⟨(ry (n-(j+1))).toArray⟩ ++ ⟨#[10]⟩) w6 hbd bd1 bd2;have HCL:=aside_of hcall;clear hcall hbd bd1 bd2
      go_wp2_with (go_at_call 49;refine(Aside.out HCL).mono ?_)
      rintro e3 w7 ⟨rfl,h7,hb7,hk7⟩
      go_wp2
      go_roundg j
      case measure=>omega
      case rel=>
       obtain⟨r1,r2,r3,lb⟩:=HV2.out;have s6:=hb6.size;refine⟨?_,by omega,?_,?_,?_⟩
       ·congr 1;exact wrap_next HNN.out hg
       ·have e:acc (n-j)=(acc (n-(j+1))++(45::32::nt (n-(j+1)) 4))++(ry (n-(j+1))++[10]):=by
         have:=HS.out (n-(j+1)) (by omega);rw[show (n-(j+1))+1=n-j by omega]at this;rw[this,hokv];simp[sgn]
        rw[show (⟨(ry (n-(j+1))).toArray⟩:ByteArray) ++ ⟨#[10]⟩=⟨(ry (n-(j+1))++[10]).toArray⟩ from ba_app _ _]at h7;rw[e,Lib.byteCells_append];exact .inr h7
       ·exact r2.trans ((hb6.mono (by omega)).trans (hb7.mono (by omega)))
       ·exact hk7 _ _ 38 (by decide) (by omega) (by rw[hb6.block _ (by omega)];exact r3)
     | succ m=>
      obtain⟨r1,r2,r3,r4,r5⟩:=HV.out;obtain⟨k,hkk⟩:∃k,4-(m+1)=k:=⟨_,rfl⟩;rw[hkk]at r1 ⊢;clear HV H5;have hk4:k<4:=by omega
      have hk4':(k:Int)<4:=by omega
      have key:∀k,k<4->(#[.bool (sB (n-(j+1)) 0),.slice (sA (n-(j+1)) 1) (sN (n-(j+1)) 1) (sC (n-(j+1)) 1),.slice (sA (n-(j+1)) 2) (sN (n-(j+1)) 2) (sC (n-(j+1)) 2),.bool (sB (n-(j+1)) 3),.slice (sA (n-(j+1)) 4) (sN (n-(j+1)) 4) (sC (n-(j+1)) 4),.slice (sA (n-(j+1)) 5) (sN (n-(j+1)) 5) (sC (n-(j+1)) 5),.bool (sB (n-(j+1)) 6),.slice (sA (n-(j+1)) 7) (sN (n-(j+1)) 7) (sC (n-(j+1)) 7),.slice (sA (n-(j+1)) 8) (sN (n-(j+1)) 8) (sC (n-(j+1)) 8),.bool (sB (n-(j+1)) 9),.slice (sA (n-(j+1)) 10) (sN (n-(j+1)) 10) (sC (n-(j+1)) 10),.slice (sA (n-(j+1)) 11) (sN (n-(j+1)) 11) (sC (n-(j+1)) 11)]:Array Value)[k*3]? = some (.bool (sB (n-(j+1)) (3*k)))/\(#[.bool (sB (n-(j+1)) 0),.slice (sA (n-(j+1)) 1) (sN (n-(j+1)) 1) (sC (n-(j+1)) 1),.slice (sA (n-(j+1)) 2) (sN (n-(j+1)) 2) (sC (n-(j+1)) 2),.bool (sB (n-(j+1)) 3),.slice (sA (n-(j+1)) 4) (sN (n-(j+1)) 4) (sC (n-(j+1)) 4),.slice (sA (n-(j+1)) 5) (sN (n-(j+1)) 5) (sC (n-(j+1)) 5),.bool (sB (n-(j+1)) 6),.slice (sA (n-(j+1)) 7) (sN (n-(j+1)) 7) (sC (n-(j+1)) 7),.slice (sA (n-(j+1)) 8) (sN (n-(j+1)) 8) (sC (n-(j+1)) 8),.bool (sB (n-(j+1)) 9),.slice (sA (n-(j+1)) 10) (sN (n-(j+1)) 10) (sC (n-(j+1)) 10),.slice (sA (n-(j+1)) 11) (sN (n-(j+1)) 11) (sC (n-(j+1)) 11)]:Array Value)[k*3+1]? = some (.slice (sA (n-(j+1)) (3*k+1)) (sN (n-(j+1)) (3*k+1)) (sC (n-(j+1)) (3*k+1)))/\(#[.bool (sB (n-(j+1)) 0),.slice (sA (n-(j+1)) 1) (sN (n-(j+1)) 1) (sC (n-(j+1)) 1),.slice (sA (n-(j+1)) 2) (sN (n-(j+1)) 2) (sC (n-(j+1)) 2),.bool (sB (n-(j+1)) 3),.slice (sA (n-(j+1)) 4) (sN (n-(j+1)) 4) (sC (n-(j+1)) 4),.slice (sA (n-(j+1)) 5) (sN (n-(j+1)) 5) (sC (n-(j+1)) 5),.bool (sB (n-(j+1)) 6),.slice (sA (n-(j+1)) 7) (sN (n-(j+1)) 7) (sC (n-(j+1)) 7),.slice (sA (n-(j+1)) 8) (sN (n-(j+1)) 8) (sC (n-(j+1)) 8),.bool (sB (n-(j+1)) 9),.slice (sA (n-(j+1)) 10) (sN (n-(j+1)) 10) (sC (n-(j+1)) 10),.slice (sA (n-(j+1)) 11) (sN (n-(j+1)) 11) (sC (n-(j+1)) 11)]:Array Value)[k*3+2]? = some (.slice (sA (n-(j+1)) (3*k+2)) (sN (n-(j+1)) (3*k+2)) (sC (n-(j+1)) (3*k+2))):=by
       intro k hk
       match k,hk with
       | 0,_=>exact⟨rfl,rfl,rfl⟩
       | 1,_=>exact⟨rfl,rfl,rfl⟩
       | 2,_=>exact⟨rfl,rfl,rfl⟩
       | 3,_=>exact⟨rfl,rfl,rfl⟩
      obtain⟨y0,y1,y2⟩:=key _ hk4;have f0:wr.cell? ⟨w5.heap.size+1,k*3,none⟩=some (.bool (sB (n-(j+1)) (3*k))):=by rw[Lib.cell_of_heap r5];exact y0
      have f1:wr.cell? ⟨w5.heap.size+1,k*3+1,none⟩=some (.slice (sA (n-(j+1)) (3*k+1)) (sN (n-(j+1)) (3*k+1)) (sC (n-(j+1)) (3*k+1))):=by rw[Lib.cell_of_heap r5];exact y1
      have f2:wr.cell? ⟨w5.heap.size+1,k*3+2,none⟩=some (.slice (sA (n-(j+1)) (3*k+2)) (sN (n-(j+1)) (3*k+2)) (sC (n-(j+1)) (3*k+2))):=by rw[Lib.cell_of_heap r5];exact y2
      clear y0 y1 y2 key;have HV2:Aside (Lib.BuilderAt 92 5 (w0.heap.size+1) (w0.heap.size+1) (.pointer (some ⟨w0.heap.size+1,0,none⟩)) (Lib.byteCells (acc (n-(j+1))++(45::32::nt (n-(j+1)) k))) wr/\Below w0.heap.size w0 wr/\wr.heap[w0.heap.size]? = some (.cells #[.slice (some ⟨blk,off,none⟩) n cap,.bool tb,.slice qa na ka,.slice qb nb kb,.slice qc nc kc] 38 (0,0))/\wr.heap[wq.heap.size]? = some (.cells #[.bool (sB (n-(j+1)) 0),.slice (sA (n-(j+1)) 1) (sN (n-(j+1)) 1) (sC (n-(j+1)) 1),.slice (sA (n-(j+1)) 2) (sN (n-(j+1)) 2) (sC (n-(j+1)) 2),.bool (sB (n-(j+1)) 3),.slice (sA (n-(j+1)) 4) (sN (n-(j+1)) 4) (sC (n-(j+1)) 4),.slice (sA (n-(j+1)) 5) (sN (n-(j+1)) 5) (sC (n-(j+1)) 5),.bool (sB (n-(j+1)) 6),.slice (sA (n-(j+1)) 7) (sN (n-(j+1)) 7) (sC (n-(j+1)) 7),.slice (sA (n-(j+1)) 8) (sN (n-(j+1)) 8) (sC (n-(j+1)) 8),.bool (sB (n-(j+1)) 9),.slice (sA (n-(j+1)) 10) (sN (n-(j+1)) 10) (sC (n-(j+1)) 10),.slice (sA (n-(j+1)) 11) (sN (n-(j+1)) 11) (sC (n-(j+1)) 11),.slice (sA (n-(j+1)) 12) (sN (n-(j+1)) 12) (sC (n-(j+1)) 12),.bool false] 66 (0,0))/\wr.heap[w5.heap.size+1]? = some (.cells #[.bool (sB (n-(j+1)) 0),.slice (sA (n-(j+1)) 1) (sN (n-(j+1)) 1) (sC (n-(j+1)) 1),.slice (sA (n-(j+1)) 2) (sN (n-(j+1)) 2) (sC (n-(j+1)) 2),.bool (sB (n-(j+1)) 3),.slice (sA (n-(j+1)) 4) (sN (n-(j+1)) 4) (sC (n-(j+1)) 4),.slice (sA (n-(j+1)) 5) (sN (n-(j+1)) 5) (sC (n-(j+1)) 5),.bool (sB (n-(j+1)) 6),.slice (sA (n-(j+1)) 7) (sN (n-(j+1)) 7) (sC (n-(j+1)) 7),.slice (sA (n-(j+1)) 8) (sN (n-(j+1)) 8) (sC (n-(j+1)) 8),.bool (sB (n-(j+1)) 9),.slice (sA (n-(j+1)) 10) (sN (n-(j+1)) 10) (sC (n-(j+1)) 10),.slice (sA (n-(j+1)) 11) (sN (n-(j+1)) 11) (sC (n-(j+1)) 11)] 35 (0,0))):=⟨r1,r2,r3,r4,r5⟩;have lb:=r1.lt;clear r1 r2 r3 r4 r5
      go_wp2_with (go_at_call 51;refine(HF.out _ hi _ hk4 _ (HV2.out.2.1.alloc HV2.out.2.1.size _)).mono ?_)
      rintro e2 w6 ⟨rfl,hb6⟩
      have nb:¬ 9223372036854775807<(tx (n-(j+1)) k).length+1:=by have:=HQ.out (n-(j+1)) k;omega
      have bd1:(Lib.byteCells (acc (n-(j+1))++(45::32::nt (n-(j+1)) k))).length+((⟨(tx (n-(j+1)) k).toArray⟩:ByteArray) ++ ⟨#[32]⟩).size<=140737488355328:=by
       rw[show (⟨(tx (n-(j+1)) k).toArray⟩:ByteArray) ++ ⟨#[32]⟩=⟨(tx (n-(j+1)) k++[32]).toArray⟩ from ba_app _ _];have k1:=HQ.out (n-(j+1)) k;have k2:=HN.out (n-(j+1)) k;have k3:=HA.out (n-(j+1));rw[Lib.byteCells_length];show _+(tx (n-(j+1)) k++[32]).toArray.size<=_;simp only[Ybx,Yq,Yg,Yam];omega
      have bd2:w0.heap.size+1<=w6.heap.size:=by
       have:=hb6.size;rw[alloc_size]at this;omega
      have hbd:Lib.IsBuilder 92 5 (w0.heap.size+1) (w0.heap.size+1) (Lib.byteCells (acc (n-(j+1))++(45::32::nt (n-(j+1)) k))) w6:=Or.inr (bld_below (bld_below HV2.out.1 (zao _ _)) hb6);have hcall:=bWriteT (w0.heap.size+1) (w0.heap.size+1) (Lib.byteCells (acc (n-(j+1))++(45::32::nt (n-(j+1)) k))) (⟨(tx (n-(j+1)) k).toArray⟩ ++ ⟨#[32]⟩) w6 hbd bd1 bd2;have HCL:=aside_of hcall;clear hcall hbd bd1 bd2
      go_wp2_with (go_at_call 49;refine(Aside.out HCL).mono ?_)
      rintro e3 w7 ⟨rfl,h7,hb7,hk7⟩
      go_wp2
      go_roundg m
      case measure=>omega
      case rel=>
       obtain⟨r1,r2,r3,r4,r5⟩:=HV2.out;have s6:=hb6.size;rw[alloc_size]at s6;have l4:=kept_lt r4;have l5:=kept_lt r5;have tr:∀x o,x<wr.heap.size->wr.heap[x]? = some o->w6.heap[x]? = some o:=fun x o hx ho=>by
        rw[hb6.block _ (by rw[alloc_size];omega),Below.heap_alloc _ _ _ hx];exact ho
       refine⟨?_,by omega,?_,?_,?_,?_,?_⟩
       ·congr 1;omega
       ·have e:nt (n-(j+1)) (4-m)=nt (n-(j+1)) k++(tx (n-(j+1)) k++[32]):=by
         have:=HTS.out (n-(j+1)) k (by omega);rw[show k+1=4-m by omega]at this;exact this
        have e2:acc (n-(j+1))++(45::32::nt (n-(j+1)) (4-m))=(acc (n-(j+1))++(45::32::nt (n-(j+1)) k))++(tx (n-(j+1)) k++[32]):=by rw[e];simp
        rw[show (⟨(tx (n-(j+1)) k).toArray⟩:ByteArray) ++ ⟨#[32]⟩=⟨(tx (n-(j+1)) k++[32]).toArray⟩ from ba_app _ _]at h7;rw[e2,Lib.byteCells_append];exact h7
       ·exact(r2.alloc r2.size _).trans ((hb6.mono (by rw[alloc_size];have:=r2.size;omega)).trans (hb7.mono (by omega)))
       ·exact hk7 _ _ 38 (by decide) (by omega) (tr _ _ (by omega) r3)
       ·exact hk7 _ _ 66 (by decide) (by omega) (tr _ _ l4 r4)
       ·exact hk7 _ _ 35 (by decide) (by omega) (tr _ _ l5 r5)
end Go.Proofs.YthhddiiohgfamaaGreatDoor
end
section
namespace Go.Proofs
open Go.Shelf Go.RowKit
set_option maxRecDepth 100000
def Tryz.jren:Ren:=⟨fun | 156=>84 | 165=>119 | 166=>49 | 169=>53 | 240=>79 | 241=>146 | 277=>170 | n=>n,fun | 0=>0 | 1=>1 | 2=>2 | 3=>3 | 4=>4 | 5=>5 | 6=>6 | 7=>7 | 8=>8 | 9=>9 | 10=>10 | 11=>11 | 12=>12 | 13=>13 | 14=>14 | 15=>15 | 16=>16 | 17=>17 | 18=>18 | 19=>19 | 20=>20 | 21=>21 | 22=>172 | 23=>160 | 24=>215 | 25=>216 | 27=>173 | 31=>129 | 37=>90 | 40=>222 | 41=>205 | 46=>156 | 51=>114 | 52=>179 | 53=>127 | 55=>197 | 61=>143 | 62=>174 | 63=>208 | 64=>213 | 67=>130 | 70=>89 | 71=>91 | 72=>92 | 73=>161 | 74=>93 | 75=>94 | 76=>95 | 77=>96 | 80=>100 | 81=>235 | 103=>144 | 105=>206 | 106=>207 | 111=>214 | 113=>171 | 114=>221 | 115=>186 | 116=>187 | 117=>188 | 118=>189 | 119=>225 | 122=>185 | 123=>190 | 124=>191 | 127=>131 | 137=>226 | 138=>227 | 139=>228 | 146=>169 | 150=>196 | 151=>229 | 164=>154 | 165=>155 | 166=>209 | n=>n,fun n=>n⟩
def Tryz.joinLaid:JL Tryz.prog Tryz.jren:={
 mixed:=by kernel_rfl,
 f169:=Tryz.func53.trans (congrArg some (by kernel_rfl)),
 t0:=Tryz.underlying0,
 a0:=Tryz.isAgg0,
 z0:=Tryz.sizeOf0,
 v0:=Tryz.zeroValue0,
 t3:=Tryz.underlying3,
 a3:=Tryz.isAgg3,
 z3:=Tryz.sizeOf3,
 v3:=Tryz.zeroValue3,
 t9:=Tryz.underlying9,
 a9:=Tryz.isAgg9,
 z9:=Tryz.sizeOf9,
 v9:=Tryz.zeroValue9,
 t37:=Tryz.underlying90,
 a37:=Tryz.isAgg90,
 z37:=Tryz.sizeOf90,
 v37:=Tryz.zeroValue90,
 t70:=Tryz.underlying89,
 a70:=Tryz.isAgg89,
 z70:=Tryz.sizeOf89,
 v70:=Tryz.zeroValue89,
 t72:=Tryz.underlying92,
 a72:=Tryz.isAgg92,
 z72:=Tryz.sizeOf92,
 v72:=Tryz.zeroValue92,
 t127:=Tryz.underlying131,
 a127:=Tryz.isAgg131,
 z127:=Tryz.sizeOf131,
 v127:=Tryz.zeroValue131,
 f241:=Tryz.func146.trans (congrArg some (by kernel_rfl)),
 f277:=Tryz.func170.trans (congrArg some (by kernel_rfl)),
 sizeBuilder:=by kernel_rfl,
 liesBuilder:=by kernel_rfl,
 t5:=Tryz.underlying5,
 a5:=Tryz.isAgg5,
 z5:=Tryz.sizeOf5,
 v5:=Tryz.zeroValue5,
 infoByte:=by kernel_rfl,
 cellsByte:=by kernel_rfl,
 sizeByte:=by kernel_rfl,
 neB5:=by decide,
 f156:=Tryz.func84.trans (congrArg some (by kernel_rfl)),
 f165:=Tryz.func119.trans (congrArg some (by kernel_rfl)),
 f166:=Tryz.func49.trans (congrArg some (by kernel_rfl)),
 t4:=Tryz.underlying4,
 a4:=Tryz.isAgg4,
 z4:=Tryz.sizeOf4,
 v4:=Tryz.zeroValue4,
 t20:=Tryz.underlying20,
 a20:=Tryz.isAgg20,
 z20:=Tryz.sizeOf20,
 v20:=Tryz.zeroValue20,
 t31:=Tryz.underlying129,
 a31:=Tryz.isAgg129,
 z31:=Tryz.sizeOf129,
 v31:=Tryz.zeroValue129,
 t75:=Tryz.underlying94,
 a75:=Tryz.isAgg94,
 z75:=Tryz.sizeOf94,
 v75:=Tryz.zeroValue94,
 t76:=Tryz.underlying95,
 a76:=Tryz.isAgg95,
 z76:=Tryz.sizeOf95,
 v76:=Tryz.zeroValue95,
 t164:=Tryz.underlying154,
 a164:=Tryz.isAgg154,
 z164:=Tryz.sizeOf154,
 v164:=Tryz.zeroValue154,
 e240:=enters_of Tryz.func79 (by kernel_rfl) rfl,
 c240:=fun B b bs w h=>Tryz.bCheck B b bs w h,
 c240f:=fun b w h0 h1 h2=>Tryz.bCheck_fresh b w h0 h1 h2 }
end Go.Proofs
namespace Go.Proofs.YthhddiiohgfamaaGreatDoor
open Go.Ab
def join_ok:∀xs r,prim183 xs=some r->Z6 Tryz.prog (nu 183) xs (·=r):=by
 have e:nu 183=Tryz.jren.f 156:=by kernel_rfl
 rw[e];exact join_pcall Tryz.joinLaid
end Go.Proofs.YthhddiiohgfamaaGreatDoor
end
section
namespace Go.Proofs.YthhddiiohgfamaaGreatDoor
open Go Go.Ab Go.RowKit
abbrev Zqx:Tbl:=fun u=>Zlh.lookup u
def cp_later{w0 W:World}{S:Nat->Nat->Prop}{v:Value}{x:AV}(hS:∀k o,S k o->k<w0.heap.size)(hW:Below w0.heap.size w0 W)(h:CP w0 S v x):CP W S v x:=
 h.mono (fun _ _ h=>h) fun k o u hs hc=>by rw[hW.cell (p:=⟨k,o,none⟩) (hS k o hs)];exact hc
def fig_calls(hm:Tryz.prog.follows .mixedOrders=true)(x:Fz)(hx:fsz x<=100){w0:World}{S:Nat->Nat->Prop}{v:Value}(hv:CP w0 S v (efz x))(hS:∀k o,S k o->k<w0.heap.size)(W:World)(hW:Below w0.heap.size w0 W) :
  Calls Tryz.prog 51 #[v] W fun e w'=>e=.returned (.string ⟨(Zk (fv x)).toArray⟩)/\Below W.heap.size W w':=by
 have h1:=zdo (mTab_ok (text_ok hm) join_ok) hm (u:=251) rfl rfl (mTab_part.call (by kernel_rfl) (zh8 (T:=tab) x (by omega)));refine(h1.2 W S #[v] rfl (fun j u c hu hc=>?_) (fun k o h=>Ym (hS k o h) hW.size)).mono ?_
 ·match j,hu,hc with
  | 0,hu,hc=>cases hu;cases hc;exact cp_later hS hW hv
 ·rintro e w' ⟨u,r,rfl,rfl,hb,hc⟩
  cases hc;exact⟨rfl,hb⟩
def row_calls(hm:Tryz.prog.follows .mixedOrders=true)(l:List Fz)(hl:l.length<=100)(hx:∀x∈l,fsz x<=100){w0:World}{S:Nat->Nat->Prop}{v:Value}(hv:CP w0 S v (.sl (Zc l) .an))(hS:∀k o,S k o->k<w0.heap.size)(W:World)(hW:Below w0.heap.size w0 W) :
  Calls Tryz.prog 52 #[v] W fun e w'=>e=.returned (.string ⟨(List.intercalate [44] (Zba l)).toArray⟩)/\Below W.heap.size W w':=by
 have h1:=zdo (mTab_ok (text_ok hm) join_ok) hm (u:=274) rfl rfl (mTab_part.call (by kernel_rfl) (zyg (T:=tab) l (by omega) (fun x h=>Yd (hx x h) (by decide))));refine(h1.2 W S #[v] rfl (fun j u c hu hc=>?_) (fun k o h=>Ym (hS k o h) hW.size)).mono ?_
 ·match j,hu,hc with
  | 0,hu,hc=>cases hu;cases hc;exact cp_later hS hW hv
 ·rintro e w' ⟨u,r,rfl,rfl,hb,hc⟩
  cases hc;exact⟨rfl,hb⟩
def fig_len{x:Fz}(h:fsz x<=100):(Zk (fv x)).length<=3000:=by
 have h0:sz (fv x)<=100:=zoo h (by decide);have h1:=zil (n:=(fv x).num.natAbs) (k:=100) (d:=964) (Yd (zih _) h0) (by decide +kernel);have h2:=zil (n:=(fv x).den) (k:=100) (d:=964) (Yd (zgc _) h0) (by decide +kernel);have h3:(Z7 (fv x).num).length<=966:=by
  unfold Z7;split
  ·simp;omega
  ·omega
 unfold Zk;split
 ·omega
 ·simp;omega
def row_len{l:List Fz}(hl:l.length<=100)(h:∀x∈l,fsz x<=100):(List.intercalate [44] (Zba l)).length<=300100:=by
 have hq:∀t∈Zba l,t.length<=3000:=by
  intro t ht;obtain⟨x,hx,rfl⟩:=Yy.1 ht;exact fig_len (h x hx)
 have hb:=zd7 (K:=3000) 44 (Zba l) hq;have u3:(Zba l).length<=100:=by unfold Zba;rw[Yw];exact hl
 have u4:(Zba l).length*(3000+1)<=100*(3000+1):=Y2 _ u3;omega
end Go.Proofs.YthhddiiohgfamaaGreatDoor
end
section
namespace Go.Proofs.YthhddiiohgfamaaGreatDoor
open Go Go.Ab Go.RowKit
def gB:Value->Bool | .bool b=>b | _=>false
def gA:Value->Option Addr | .slice a _ _=>a | _=>none
def gN:Value->Nat | .slice _ n _=>n | _=>0
def gC:Value->Nat | .slice _ _ c=>c | _=>0
section
variable{w:World}{S:Nat->Nat->Prop}
def isB{v:Value}{b:Bool}(h:CP w S v (.b b)):v=.bool b:=by cases h;rfl
def isS{v:Value}{els:List (List AV)}{f:Fl}(h:CP w S v (.sl els f)):v=.slice (gA v) (gN v) (gC v):=by cases h<;>rfl
def fig_cp(x:Fz){a b c:Value}(h1:CP w S a (.b x.1))(h2:CP w S b (.sl (Za x.2.1) .an))(h3:CP w S c (.sl (Za x.2.2) .an)):CP w S (.agg #[.bool (gB a),.slice (gA b) (gN b) (gC b),.slice (gA c) (gN c) (gC c)]) (efz x):=by
 have e1:=isB h1;subst e1;rw[<-isS h2,<-isS h3];refine .agg _ _ rfl (fun j v hv=>?_) fun j v c hv hc=>?_
 ·match j,hv with
  | 0,hv=>cases hv;rfl
  | 1,hv=>cases hv;rw[isS h2];rfl
  | 2,hv=>cases hv;rw[isS h3];rfl
  | j+3,hv=>cases hv
 ·match j,hv,hc with
  | 0,hv,hc=>cases hv;cases hc;exact h1
  | 1,hv,hc=>cases hv;cases hc;exact h2
  | 2,hv,hc=>cases hv;cases hc;exact h3
  | j+3,hv,_=>cases hv
def cell_eq{u:Nat->Nat->Value}{i:Nat}{r:Trr}(h:∀j c,(Zei r)[j]? = some c->CP w S (u i j) c)(j:Nat)(hj:j<14) :
  cellV (fun i j=>gB (u i j)) (fun i j=>gA (u i j)) (fun i j=>gN (u i j)) (fun i j=>gC (u i j)) i j=u i j:=by
 have B:∀{v:Value} {b:Bool},CP w S v (.b b)->.bool (gB v)=v:=fun h=>by rw[isB h];rfl
 match j,hj with
 | 0,_=>exact B (h 0 _ rfl)
 | 1,_=>exact(isS (h 1 _ rfl)).symm
 | 2,_=>exact(isS (h 2 _ rfl)).symm
 | 3,_=>exact B (h 3 _ rfl)
 | 4,_=>exact(isS (h 4 _ rfl)).symm
 | 5,_=>exact(isS (h 5 _ rfl)).symm
 | 6,_=>exact B (h 6 _ rfl)
 | 7,_=>exact(isS (h 7 _ rfl)).symm
 | 8,_=>exact(isS (h 8 _ rfl)).symm
 | 9,_=>exact B (h 9 _ rfl)
 | 10,_=>exact(isS (h 10 _ rfl)).symm
 | 11,_=>exact(isS (h 11 _ rfl)).symm
 | 12,_=>exact(isS (h 12 _ rfl)).symm
 | 13,_=>exact B (h 13 _ rfl)
 | j+14,hj=>omega
def rows_cp{v:Value}{l:List Trr}(h:CP w S v (.sl (Z2 l) .an)):∃(ao:Option Addr) (cap:Nat) (u:Nat->Nat->Value),v=.slice ao l.length cap/\(∀i,i<l.length->∃blk off,ao=some ⟨blk,off,none⟩/\∀j,j<14->S blk (off+i*14+j)/\w.cell? ⟨blk,off+i*14+j,none⟩=some (u i j)) /\
  ∀(i:Nat) (r:Trr),l[i]? = some r->∀j c,(Zei r)[j]? = some c->CP w S (u i j) c:=by
 rcases h.inv_sl with ⟨h0,b,rfl,_,_⟩ | ⟨blk,off,z,cap,u,rfl,_,_,_,_,hz,hS,hc⟩
 ·have:l=[]:=by cases l with | nil=>rfl | cons=>cases h0
  subst this;exact⟨b,0,fun _ _=>.bool false,rfl,fun i hi=>(by cases hi),fun i r hr=>by cases hr⟩
 ·rw[zeb];refine⟨_,cap,u,rfl,fun i hi=>⟨blk,off,rfl,fun j hj=>?_⟩,fun i r hr j c hj=>hc i (Zei r) j c (by rw[rowTr_get?,hr];rfl) hj⟩;have z14:z=14:=by
   rw[<-hz i (Zei l[i]) (by rw[rowTr_get?,Ya hi];rfl)]
   rfl
  subst z14;have:=hS i j (by rw[zeb];exact hi) hj;exact⟨this.1,this.2.1⟩
end
end Go.Proofs.YthhddiiohgfamaaGreatDoor
end
section
namespace Go.Proofs.YthhddiiohgfamaaGreatDoor
open Go Go.Ab Go.RowKit
def txP(h:Hs)(i k:Nat):List UInt8:=(((h.l[i]?).bind fun r=>r.nums[k]?).map fun x=>Zk (fv x)).getD []
def ryP(h:Hs)(i:Nat):List UInt8:=((h.l[i]?).map fun r=>List.intercalate [44] (Zba r.y)).getD []
def ntP(h:Hs)(i:Nat):Nat->List UInt8
 | 0=>[]
 | k+1=>if k<4 then ntP h i k++(txP h i k++[32]) else []
structure Sho (h:Hs):Prop where
 l:h.l.length<=100
 t:fsz h.t<=100
 yl:h.y.length<=100
 y:∀x∈h.y,fsz x<=100
 rn:∀r∈h.l,∀x∈r.nums,fsz x<=100
 rl:∀r∈h.l,r.y.length<=100
 ry:∀r∈h.l,∀x∈r.y,fsz x<=100
def sho_of{h:Hs}(hs:Zc0 h=true):Sho h:=by
 simp only[Zc0,Zea,Yk,decide_eq_true_eq,Yl]at hs;obtain⟨⟨a,⟨_,b⟩,c,d⟩,e⟩:=hs;exact⟨a,b _ Yj,c,d,fun r hr=>(e r hr).1.2,fun r hr=>(e r hr).2.1,fun r hr=>(e r hr).2.2⟩
section
variable{h:Hs}
def txP_len(q:Sho h)(i k:Nat):(txP h i k).length<=3000:=by
 unfold txP;cases hr:h.l[i]? with
 | none=>simp
 | some r=>
  cases hx:r.nums[k]? with
  | none=>simp[hx]
  | some x=>
   simp only[Y7,hx,Ya1,Yb5];exact fig_len (q.rn r (Yc hr) x (Yc hx))
def ryP_len(q:Sho h)(i:Nat):(ryP h i).length<=300100:=by
 unfold ryP;cases hr:h.l[i]? with
 | none=>simp
 | some r=>exact row_len (q.rl r (Yc hr)) (q.ry r (Yc hr))
theorem ntP_len(q:Sho h)(i:Nat):∀k,(ntP h i k).length<=3001*k/\(ntP h i k).length<=12004
 | 0=>⟨Yi _,Y4 _⟩
 | k+1=>by
  have h1:=(ntP_len q i k).1;have h2:=txP_len q i k;unfold ntP;split
  ·simp only[Yq,Yg,Yam];omega
  ·simp
def textR_len100(q:Sho h){r:Trr}(hr:r∈h.l):(Zef r).length<=400000:=by
 have u1:=fig_len (q.rn r hr r.t (by simp[Trr.nums]));have u2:=fig_len (q.rn r hr r.w (by simp[Trr.nums]));have u3:=fig_len (q.rn r hr r.h (by simp[Trr.nums]));have u4:=fig_len (q.rn r hr r.e (by simp[Trr.nums]));have u5:=row_len (q.rl r hr) (q.ry r hr);unfold Zef;simp only[Yq,Yg,Yam];omega
theorem flat_len100:∀(l:List (List UInt8)),(∀t∈l,t.length<=400000)->l.flatten.length<=l.length*400000
 | [],_=>by simp
 | t::l,h=>by
  have h1:=h t Yj;have h2:=flat_len100 l fun t ht=>h t (Yh _ ht);simp only[Ycp,Yq,Yg];omega
def acc_len100(q:Sho h)(i:Nat):(Zd8 h i).length<=1000000000:=by
 unfold Zd8;have h1:=flat_len100 ((h.l.take i).map Zef) fun t ht=>by
  obtain⟨r,hr,rfl⟩:=Yy.1 ht;exact textR_len100 q (Yaz hr)
 have h2:=q.l;rw[Yw,Ya3]at h1;omega
def acc_next{i:Nat}{r:Trr}(hr:h.l[i]? = some r):Zd8 h (i+1)=Zd8 h i++(sgn r.ok++(ntP h i 4++(ryP h i++[10]))):=by
 unfold Zd8;rw[Yco,hr,Ydu,Yax,List.flatten_append];congr 1;simp only[Yx,Ybl,Ycp,List.flatten_nil,Ybg,Zef,sgn,ntP,txP,ryP,hr,Y7,Ya1,Yb5,Trr.nums,Ybw,Yav];simp
end
def past_calls(hm:Tryz.prog.follows .mixedOrders=true)(h:Hs)(hs:Zc0 h=true){w0:World}{S:Nat->Nat->Prop}{cargs:Array Value}(hsz:cargs.size=1)
  (hC:∀(j:Nat) (v:Value) (c:AV),cargs[j]? = some v->[ehs h][j]? = some c->CP w0 S v c) (hS:∀k o,S k o->k<w0.heap.size) :
  Calls Tryz.prog 16 cargs w0 fun e w'=>e=.returned (.string ⟨(Za9 h).toArray⟩)/\Below w0.heap.size w0 w':=by
 have q:=sho_of hs;obtain⟨v,rfl⟩:∃v,cargs=#[v]:=by
  obtain⟨l⟩:=cargs
  match l,hsz with
  | [v],_=>exact⟨v,rfl⟩
 have hv:=hC 0 v _ rfl rfl;obtain⟨vs,rfl,hl,h1,hc⟩:∃vs,v=.agg vs/\vs.size=5/\(∀(j:Nat) (v:Value),vs[j]? = some v->v.oneCell'=true)/\∀(j:Nat) (v:Value) (c:AV),vs[j]? = some v->[AV.sl (Z2 h.l) .an,.b h.t.1,.sl (Za h.t.2.1) .an,.sl (Za h.t.2.2) .an,.sl (Zc h.y) .an][j]? = some c->CP w0 S v c:=by
  cases hv with
  | agg vs cs hl h1 hh=>exact⟨vs,rfl,hl,h1,hh⟩
 obtain⟨v0,v1,v2,v3,v4,rfl⟩:∃v0 v1 v2 v3 v4,vs=#[v0,v1,v2,v3,v4]:=by
  obtain⟨l⟩:=vs
  match l,hl with
  | [v0,v1,v2,v3,v4],_=>exact⟨v0,v1,v2,v3,v4,rfl⟩
 have c0:=hc 0 v0 _ rfl rfl;have c1:=hc 1 v1 _ rfl rfl;have c2:=hc 2 v2 _ rfl rfl;have c3:=hc 3 v3 _ rfl rfl;have c4:=hc 4 v4 _ rfl rfl;have e1:=isB c1;have f0:=fig_cp h.t c1 c2 c3;subst e1;have r4:=c4;rw[isS c4]at r4;obtain⟨ao,cap,u,rfl,hu,hcp⟩:=rows_cp c0;rw[isS c2,isS c3,isS c4];have W:=text_walk h.l.length (w0:=w0) h.t.1 (gA v2) (gA v3) (gA v4) (gN v2) (gN v3) (gN v4) (gC v2) (gC v3) (gC v4) ao cap (fun i j=>gB (u i j)) (fun i j=>gA (u i j)) (fun i j=>gN (u i j)) (fun i j=>gC (u i j)) (txP h) (ntP h) (ryP h) (Zd8 h) (Zk (fv h.t)) (List.intercalate [44] (Zba h.y))
  (fun W hW=>fig_calls hm h.t q.t f0 hS W hW)
  (fun W hW=>row_calls hm h.y q.yl q.y r4 hS W hW)
  ⟨Yd (fig_len q.t) (by decide),Yd (row_len q.yl q.y) (by decide)⟩
  (Yd q.l (by decide))
  (fun i hi k hk W hW=>by
   have hr:=Ya hi;have hm':=Y0 hi;generalize h.l[i]=r at hr hm';have C:=hcp i r hr;have F:∀(x:Fz),r.nums[k]? = some x->CP w0 S (.agg #[.bool (gB (u i (3*k))),.slice (gA (u i (3*k+1))) (gN (u i (3*k+1))) (gC (u i (3*k+1))),.slice (gA (u i (3*k+2))) (gN (u i (3*k+2))) (gC (u i (3*k+2)))]) (efz x):=by
    intro x hx
    match k,hk,hx with
    | 0,_,hx=>cases hx;exact fig_cp _ (C 0 _ rfl) (C 1 _ rfl) (C 2 _ rfl)
    | 1,_,hx=>cases hx;exact fig_cp _ (C 3 _ rfl) (C 4 _ rfl) (C 5 _ rfl)
    | 2,_,hx=>cases hx;exact fig_cp _ (C 6 _ rfl) (C 7 _ rfl) (C 8 _ rfl)
    | 3,_,hx=>cases hx;exact fig_cp _ (C 9 _ rfl) (C 10 _ rfl) (C 11 _ rfl)
   obtain⟨x,hx⟩:∃x,r.nums[k]? = some x:=⟨_,Ya (by simpa[Trr.nums]using hk)⟩;have:=fig_calls hm x (q.rn r hm' x (Yc hx)) (F x hx) hS W hW;rw[show txP h i k=Zk (fv x) by unfold txP;rw[hr,Y7,hx];rfl];exact this)
  (fun i hi W hW=>by
   have hr:=Ya hi;have hm':=Y0 hi;generalize h.l[i]=r at hr hm';have C:=hcp i r hr 12 _ rfl;rw[isS C]at C;rw[show ryP h i=List.intercalate [44] (Zba r.y) by unfold ryP;rw[hr];rfl];exact row_calls hm r.y (q.rl r hm') (q.ry r hm') C hS W hW)
  (fun i k=>Yd (txP_len q i k) (by decide))
  (fun i=>Yd (ryP_len q i) (by decide))
  (fun i k=>Yd (ntP_len q i k).2 (by decide))
  (fun i=>acc_len100 q i)
  (fun i=>rfl)
  (fun i k hk=>if_pos hk)
  (fun i hi=>by
   have hr:=Ya hi;generalize h.l[i]=r at hr;have e:=isB (hcp i r hr 13 _ rfl);rw[acc_next hr];simp only[e,gB])
  (fun i hi=>by
   obtain⟨blk,off,e,hh⟩:=hu i hi;refine⟨blk,off,e,hS _ _ (hh 0 (by decide)).1,fun j hj=>?_⟩;rw[(hh j hj).2,cell_eq (hcp i _ (Ya hi)) j hj])
  rfl
 have e:Zd8 h h.l.length++(61::32::(Zk (fv h.t)++(32::List.intercalate [44] (Zba h.y))))=Za9 h:=by
  unfold Zd8 Za9;rw[Ya5]
 rw[e]at W;exact W
def text689_ok(hm:Tryz.prog.follows .mixedOrders=true):∀xs r,prim689 xs=some r->Z6 Tryz.prog (nu 689) xs (·=r):=by
 intro xs r q;obtain⟨h,rfl,hs,rfl⟩:=zm8 q;refine⟨enters_of Tryz.func16 (by kernel_rfl) rfl,fun w S cargs hsz hC hS=>?_⟩;refine(past_calls hm h hs (by simpa using hsz) hC hS).mono ?_
 rintro e w' ⟨rfl,hb⟩
 exact⟨_,_,rfl,rfl,hb,.s _⟩
#print axioms text689_ok
end Go.Proofs.YthhddiiohgfamaaGreatDoor
end
namespace Go.Ab
section
open Go.ChangeShapes Go.WideShapes Go.ChangeAt Go.RowKit
def zj3{H:Type}{enc:TypeId×Value->H}{P:Program}{f:Func}{s:ChangeSpec}{apart fresh handsOn again:Bool}{W W':World}{args:Array Value}{v:Value}{ds gs:List (DataW H)}{before pa pv:List MemPlace}
  (hW:DataW.Whole enc P f.params.toList s.vars apart W args.toList ds gs before)
  (hres:∀(b:Nat) (sp:Nat->Bool) (hd:Bool),DataW.TrodAll enc P W' b sp hd f.resultTypes.toList (v.resultList f.resultTypes.size) (s.fn H (ds++gs)).results [])
  (hargs:∀sp:Nat->Bool,(∀p∈before,sp p.block=true)->DataW.TrodAll enc P W' 0 sp true f.params.toList args.toList (s.fn H (ds++gs)).args pa)
  (hvars:∀sp:Nat->Bool,(∀p∈before,sp p.block=true)->DataW.TrodVars enc P W' sp s.vars (s.fn H (ds++gs)).vars pv)
  (hps:before=pa++pv) (hw:Below W.heap.size W W')
  (hok:∀(j:Nat) (t:TypeId) (r:Value),f.resultTypes[j]? = some t->(v.resultList f.resultTypes.size)[j]? = some r->Value.okWide P W' .any 0 t r) :
  s.post enc P f apart fresh handsOn again W args v W':=by
 have hold:∀p∈before,(fun b=>decide (b<W.heap.size)) p.block=true:=fun p hp=>by simpa using hW.lt p hp
 have hlt:∀p∈before,p.block<W.heap.size:=fun p hp=>hW.lt p hp;refine⟨ds,gs,before,[],pa,pv,hW,hres _ _ _,hargs _ hold,hvars _ hold,World.keptBut_mono (fun p hp=>⟨hp,?_⟩) (hw.frame (·∈before)),fun _=>?_⟩
 ·grind
 ·obtain⟨_,_,_,_,_,hz,hn⟩:=hW;refine⟨hok,_,_,([]++pa)++pv,⟨[]++pa,pv,trodAll_append (hargs _ (fun _ _=>rfl)) (hres _ _ _),hvars _ (fun _ _=>rfl),rfl,?_,?_⟩,?_⟩
  ·intro b off hp;have hp':MemPlace.cell b off∈before:=by grind
   rw[hw.frozen (p:=⟨b,off,none⟩) (hlt _ hp')];exact hz b off hp'
  all_goals grind
end
section
open Go.ChangeShapes Go.WideShapes Go.ChangeAt Go.RowKit
inductive Ty where
 | int (k:IntKind)
 | bool
 | str
 | sl (r:Ty)
 | nil
 | cons (a:Ty) (r:Ty)
def Ty.z:Ty->Nat
 | .nil=>0
 | .cons a r=>a.z+r.z
 | _=>1
def Ok:Ty->List AV->Prop
 | .int k,cs=>∃n,cs=[.i k n]/\(Lit.int k n).wf=true
 | .bool,cs=>∃b,cs=[.b b]
 | .str,cs=>∃l,cs=[.s l]/\l.length<=maxLen
 | .sl r,cs=>∃els f,cs=[.sl els f]/\els.length<=maxLen/\(f=.nl/\els=[]\/f=.so)/\∀row∈els,Ok r row
 | .nil,cs=>cs=[]
 | .cons a r,cs=>∃c1 c2,cs=c1++c2/\Ok a c1/\Ok r c2
theorem Ok.len:∀{ty:Ty} {cs:List AV},Ok ty cs->cs.length=ty.z
 | .int _,_,⟨_,h,_⟩=>by rw[h];rfl
 | .bool,_,⟨_,h⟩=>by rw[h];rfl
 | .str,_,⟨_,h,_⟩=>by rw[h];rfl
 | .sl _,_,⟨_,_,h,_⟩=>by rw[h];rfl
 | .nil,_,h=>by rw[show _=[] from h];rfl
 | .cons _ _,_,⟨_,_,h,h1,h2⟩=>by rw[h,Yq,h1.len,h2.len];rfl
def Zde(w:World)(S:Nat->Nat->Prop)(cs:List Value)(xs:List AV):Prop:=
 xs.length=cs.length/\∀(j:Nat) (v:Value) (c:AV),cs[j]? = some v->xs[j]? = some c->CP w S v c/\v.oneCell'=true
section
variable{H:Type}{enc:TypeId×Value->H}{P:Program}{w:World}{base:Nat}{held:Bool}{S:Nat->Nat->Prop}
def Zde.nil:Zde w S [] []:=⟨rfl,fun j v c h=>by grind⟩
def Zde.one{v:Value}{c:AV}(h:CP w S v c)(h1:v.oneCell'=true):Zde w S [v] [c]:=by
 refine⟨rfl,fun j v' c' hv hc=>?_⟩
 grind
def Zde.append{cs cs':List Value}{xs xs':List AV}(h:Zde w S cs xs)(h':Zde w S cs' xs'):Zde w S (cs++cs') (xs++xs'):=by
 refine⟨by rw[Yq,Yq,h.1,h'.1],fun j v c hv hc=>?_⟩;by_cases hj:j<cs.length
 ·rw[Yo hj]at hv;rw[Yo (by rw[h.1];omega)]at hc;exact h.2 j v c hv hc
 ·rw[Ye (by omega)]at hv;rw[Ye (by rw[h.1];omega),h.1]at hc;exact h'.2 _ v c hv hc
def Zfj(P:Program)(g:TypeId->Option Ty)(tot:Nat):Nat->List Field->Option Ty
 | off,[]=>if off=tot then some .nil else none
 | off,f::fs=>(g f.type).bind fun a=>if f.offset=off/\a.z=P.cellsOf f.type then (Zfj P g tot (off+a.z) fs).map (.cons a) else none
def Zjy:Nat->Ty->Ty
 | 0,_=>.nil
 | n+1,a=>.cons a (Zjy n a)
def Zgg(P:Program):Nat->TypeId->Option Ty
 | 0,_=>none
 | n+1,t=>
  match P.underlying t with
  | some .bool=>some .bool
  | some (.int k)=>some (.int k)
  | some .string=>some .str
  | some (.slice e)=>(Zgg P n e).bind fun r=>if r.z=P.cellsOf e/\0<r.z then some (.sl r) else none
  | some (.struct fs)=>Zfj P (Zgg P n) (P.cellsOf t) 0 fs.toList
  | some (.array k e)=>(Zgg P n e).bind fun a=>if a.z=P.cellsOf e/\k*a.z=P.cellsOf t then some (Zjy k a) else none
  | _=>none
theorem zti{α:Type}{Q:Nat->α->Prop}:∀(n:Nat),(∀i,i<n->∃x,Q i x)->∃l:List α,l.length=n/\∀i x,l[i]? = some x->Q i x
 | 0,_=>⟨[],rfl,fun i x h=>by grind⟩
 | n+1,h=>by
  obtain⟨l,hl,hq⟩:=zti n fun i hi=>h i (by omega);obtain⟨x,hx⟩:=h n (by omega);refine⟨l++[x],by grind,fun i y hy=>?_⟩
  grind
def Ze6(S:Nat->Nat->Prop)(ps:List MemPlace):Prop:=∀k o,MemPlace.cell k o∈ps->S k o
theorem zg3{n:Nat}{g:TypeId->Option Ty}{cs:List Value}
  (ih:∀t cs x ty,DataW.trod enc P w base (fun _=>true) held n t cs=some x->g t=some ty->Ze6 S x.2->∃xs,Ok ty xs/\Zde w S cs xs) :
  ∀(fs:List Field) (off:Nat) (ty:Ty) (ys:List (DataW H×List MemPlace)),
   ys.length=fs.length->(∀(i:Nat) (f:Field),fs[i]? = some f->DataW.trod enc P w base (fun _=>true) held n f.type ((cs.drop f.offset).take (P.cellsOf f.type))=ys[i]?) ->
   Zfj P g cs.length off fs=some ty->Ze6 S (ys.flatMap (·.2))->∃xs,Ok ty xs/\Zde w S (cs.drop off) xs
 | [],off,ty,ys,hl,hm,ht,hp=>by
  simp only[Zfj]at ht;split at ht<;>cases ht;rename_i ho;exact⟨[],rfl,by rw[ho,Yah];exact Zde.nil⟩
 | f::fs,off,ty,[],hl,hm,ht,hp=>by grind
 | f::fs,off,ty,y::ys1,hl,hm,ht,hp=>by
  obtain⟨a,ha,ht1⟩:=bind_some ht;split at ht1
  ·rename_i hc;obtain⟨ho,hz⟩:=hc;obtain⟨r,hr,rfl⟩:=map_some ht1;have hy:=hm 0 f rfl;rw[ho,<-hz]at hy;obtain⟨xs1,ho1,hr1⟩:=ih _ _ _ _ hy ha fun k o h=>hp k o (by grind);obtain⟨xs2,ho2,hr2⟩:=zg3 ih fs _ r ys1 (by grind) (fun i f' hf=>by simpa using hm (i+1) f' (by grind)) hr fun k o h=>hp k o (by
    grind)
   refine⟨xs1++xs2,⟨xs1,xs2,rfl,ho1,ho2⟩,?_⟩;have e:cs.drop off=(cs.drop off).take a.z++cs.drop (off+a.z):=by rw[<-Yei,Yau]
   rw[e];exact hr1.append hr2
  grind
theorem zi4{n:Nat}{e:TypeId}{r:Ty}(ih:∀cs x,DataW.trod enc P w base (fun _=>true) held n e cs=some x->Ze6 S x.2->∃xs,Ok r xs/\Zde w S cs xs) :
  ∀(k:Nat) (cs:List Value) (ys:List (DataW H×List MemPlace)),ys.length=k->cs.length=k*r.z ->
   (∀(i:Nat),i<k->DataW.trod enc P w base (fun _=>true) held n e ((cs.drop (i*r.z)).take r.z)=ys[i]?)->Ze6 S (ys.flatMap (·.2))->∃xs,Ok (Zjy k r) xs/\Zde w S cs xs
 | 0,cs,ys,hl,hc,hm,hp=>by
  rw[Yc9,List.length_eq_zero_iff]at hc;subst hc;exact⟨[],rfl,Zde.nil⟩
 | k+1,cs,[],hl,hc,hm,hp=>by grind
 | k+1,cs,y::ys,hl,hc,hm,hp=>by
  have hy:=hm 0 (by omega);rw[Yc9,Yat]at hy;obtain⟨xs1,ho1,hr1⟩:=ih _ _ hy fun k o h=>hp k o (by grind);obtain⟨xs2,ho2,hr2⟩:=zi4 ih k (cs.drop r.z) ys (by grind) (by grind) (fun i hi=>by
   grind[List.drop_drop]) fun k o h=>hp k o (by
    grind)
  refine⟨xs1++xs2,⟨xs1,xs2,rfl,ho1,ho2⟩,?_⟩;have e:cs=cs.take r.z++cs.drop r.z:=(Yau ..).symm;rw[e];exact hr1.append hr2
def zpd{a:Addr}{m z:Nat}{cs:List Value}(h:w.cells? base (a.add m) z=some cs)(j:Nat)(hj:j<z):w.cell? ((a.add m).add j)=cs[j]? := (World.cells?_some h).2.2 j hj
theorem ztj{a:Addr}{v:Value}(h:w.cell? a=some v):a.spot=none:=by
 unfold World.cell? at h;split at h
 all_goals simp_all
theorem ze9:∀(n m:Nat) (t:TypeId) (cs:List Value) (x:DataW H×List MemPlace) (ty:Ty),
  DataW.trod enc P w base (fun _=>true) held n t cs=some x->Zgg P m t=some ty->Ze6 S x.2->∃xs,Ok ty xs/\Zde w S cs xs
 | 0,_,_,_,_,_,h,_,_=>by simp[DataW.trod]at h
 | n+1,0,_,_,_,_,_,ht,_=>by simp[Zgg]at ht
 | n+1,m+1,t,cs,x,ty,h,ht,hp=>by
  simp only[Zgg]at ht;split at ht
  ·rename_i hu;cases ht;obtain⟨b,rfl,rfl⟩:=DataW.trod_bool hu h;exact⟨[.b b],⟨b,rfl⟩,Zde.one (.b b) rfl⟩
  ·rename_i k hu;cases ht;obtain⟨z,rfl,rfl,hw⟩:=DataW.trod_int hu h;exact⟨[.i k z],⟨z,rfl,hw⟩,Zde.one (.i k z) rfl⟩
  ·rename_i hu;cases ht;obtain⟨s,rfl,rfl,hs⟩:=DataW.trod_string hu h;exact⟨[.s s.data.toList],⟨_,rfl,by simp_all⟩,Zde.one (.s s.data.toList) rfl⟩
  ·rename_i e hu;obtain⟨r,hr,ht1⟩:=bind_some ht;split at ht1
   ·rename_i hz;cases ht1;obtain⟨hz,hzp⟩:=hz;rcases DataW.trod_slice hu h with ⟨rfl,rfl⟩ | ⟨a,len,cap,elems,rest,n',hn',rfl,rfl,hb,hl,hmx,hlen,hel,hsp,hns⟩
    ·exact⟨[.sl [] .nl],⟨[],.nl,rfl,Y4 _,.inl ⟨rfl,rfl⟩,fun row h=>by grind⟩,Zde.one (.slnil _ (.inl rfl)) rfl⟩
    ·obtain⟨hrl,hrest⟩:=hsp rfl;have hall:∀i,i<cap->∃y cs',y∈elems++rest/\w.cells? base (a.add (i*P.cellsOf e)) (P.cellsOf e)=some cs'/\DataW.trod enc P w base (fun _=>true) held n e cs'=some y:=by
      intro i hi;by_cases hil:i<len
      ·have h1:=hel i hil;rw[Ya (by omega)]at h1;obtain⟨cs',h2,h3⟩:=bind_some h1
       grind
      ·have h1:=hrest (i-len) (by omega);rw[Ya (by omega),show len+(i-len)=i by omega]at h1;obtain⟨cs',h2,h3⟩:=bind_some h1
       grind
     by_cases hcap:cap=0
     ·have hl0:len=0:=by omega
      subst hcap;subst hl0;exact⟨[.sl [] .so],⟨[],.so,rfl,Y4 _,.inr rfl,fun row h=>by grind⟩,Zde.one (.slz a _ (.inl rfl)) rfl⟩
     ·have hspot:a.spot=none:=by
       obtain⟨y,cs',_,h2,_⟩:=hall 0 (by omega);have h3:=zpd h2 0 (by omega)
       grind[World.cells?_some,ztj,Addr.add]
      obtain⟨blk,off,sp⟩:=a;have hrows:∀i,i<len->∃xs,Ok r xs/\∃cs',w.cells? base ((⟨blk,off,none⟩:Addr).add (i*P.cellsOf e)) (P.cellsOf e)=some cs'/\Zde w S cs' xs:=by
       intro i hi;obtain⟨y,cs',hy,h2,h3⟩:=hall i (by omega);obtain⟨xs,ho,hrc⟩:=ze9 n m e cs' y r h3 hr fun k o hk=>hp k o (by
        grind)
       grind
      obtain⟨els,hels,hq⟩:=zti len hrows;refine⟨[.sl els .so],⟨els,.so,rfl,by omega,.inr rfl,fun row hrow=>?_⟩,Zde.one ?_ rfl⟩
      ·grind[List.getElem?_of_mem]
      ·have hcell:∀i j,i<els.length->j<r.z->∃v,w.cell? ⟨blk,off+i*r.z+j,none⟩=some v/\v.oneCell'=true/\∀row c,els[i]? = some row->row[j]? = some c->CP w S v c:=by
        intro i j hi hj;obtain⟨ho,cs',h2,hrc⟩:=hq i _ (Ya hi);have h3:=zpd h2 j (by omega);have h4:=(World.cells?_some h2).2.1;rw[zbc,zbc,<-hz,Ya (by omega)]at h3;have hlr:=ho.len;have h5:=hrc.2 j _ _ (Ya (by omega)) (Ya (by omega))
        grind
       have hS:∀i j,i<els.length->j<r.z->S blk (off+i*r.z+j):=by
        intro i j hi hj;refine hp _ _ ?_;rw[Yaj];left;unfold MemPlace.row;rw[Yy];refine⟨i*r.z+j,?_,by rw[Yap]⟩;have h1:(i+1)*r.z<=(elems.length+rest.length)*r.z:=Y2 _ (by omega)
        grind
       have:=CP.sl (w:=w) (S:=S) blk off r.z cap els .so (fun i j=>(w.cell? ⟨blk,off+i*r.z+j,none⟩).getD undef) (by simp) (by simp) (by omega) hmx
        (fun i row hrow=>(hq i row hrow).1.len) (fun i j hi hj=>?_) (fun i row j c hrow hc=>?_)
       ·grind
       ·grind
       ·have hi:=(Yr.1 hrow).1;have hj:=(Yr.1 hc).1;rw[(hq i row hrow).1.len]at hj
        grind
   grind
  ·rename_i fs hu;obtain⟨xs,n',hn',rfl,hcl,hxl,hx⟩:=DataW.trod_struct hu h;cases hn';rw[<-hcl]at ht;have:=zg3 (S:=S) (g:=Zgg P m) (cs:=cs) (n:=n) (fun t cs x ty h1 h2 h3=>ze9 n m t cs x ty h1 h2 h3) fs.toList 0 ty xs (by omega) (fun i f hf=>hx i f (by grind)) ht hp
   grind
  ·rename_i k e hu;obtain⟨r,hr,ht1⟩:=bind_some ht;split at ht1
   ·rename_i hz;cases ht1;obtain⟨hz,hzt⟩:=hz;obtain⟨xs,n',hn',rfl,hcl,hxl,hx⟩:=DataW.trod_array hu h;cases hn';rw[<-hz]at hx;exact zi4 (S:=S) (n:=n) (e:=e) (r:=r) (fun cs x h1 h3=>ze9 n m e cs x r h1 hr h3) k cs xs hxl (by omega) hx hp
   grind
  grind
end
end
section
open Go.ChangeShapes Go.WideShapes Go.ChangeAt Go.RowKit
def isAgg(P:Program)(t:TypeId):Bool:=match P.underlying t with | some (.struct _)=>true | some (.array _ _)=>true | _=>false
def Zjz(P:Program)(m:Nat):List TypeId->Option (List (Bool×Ty))
 | []=>some []
 | t::ts=>(Zgg P m t).bind fun a=>(Zjz P m ts).map fun r=>(isAgg P t,a)::r
def Ziy:Bool×Ty->AV->Prop
 | (true,ty),x=>∃cs,x=.agg cs/\Ok ty cs
 | (false,ty),x=>Ok ty [x]
def Zhp:List (Bool×Ty)->List AV->Prop
 | [],xs=>xs=[]
 | a::r,xs=>∃x ys,xs=x::ys/\Ziy a x/\Zhp r ys
section
variable{H:Type}{enc:TypeId×Value->H}{P:Program}{w:World}{S:Nat->Nat->Prop}
def zw7{m:Nat}{t:TypeId}{v:Value}{d:DataW H}{p:List MemPlace}{ty:Ty}{base:Nat}(hA:DataW.Trod enc P w 0 (fun _=>true) true t v d p)(hT:Zgg P m t=some ty)
  (hval:Value.okWide P w .any base t v) (hp:Ze6 S p):∃x,Ziy (isAgg P t,ty) x/\CP w S v x:=by
 obtain⟨fuel,hf⟩:=hA;obtain⟨xs,ho,hrc⟩:=ze9 (S:=S) fuel m t _ _ ty hf hT hp;have hlen:=ho.len;cases hu:P.underlying t with
 | none=>cases m<;>simp[Zgg,hu]at hT
 | some desc=>
  have one:∀(hag:isAgg P t=false) (hz:ty.z=1) (hv:v.cells=#[v]),∃x,Ziy (isAgg P t,ty) x/\CP w S v x:=by
   intro hag hz hv;rw[hag]
   match xs,hlen with
   | [x],_=>
    refine⟨x,ho,?_⟩;have:=hrc.2 0 v x (by grind) rfl
    grind
   | [],h=>grind
   | _::_::_,h=>grind
  cases m with
  | zero=>simp[Zgg]at hT
  | succ m=>
  cases desc<;>simp only[Zgg,hu]at hT<;>try (cases hT;done)
  case struct fs=>
   have hag:isAgg P t=true:=by simp[isAgg,hu]
   rw[hag];unfold Value.okWide at hval;rw[hu]at hval;obtain⟨cs,rfl,hcs,_⟩:=hval;refine⟨.agg xs,⟨xs,rfl,ho⟩,.agg cs xs ?_ ?_ ?_⟩
   ·have:=hrc.1;simpa[Value.cells]using this.symm
   ·intro j u hu;have hl:=hrc.1;have hj:j<cs.size:=(Ya7.1 hu).1;have hj':j<xs.length:=by rw[hl];simpa[Value.cells]using hj
    exact(hrc.2 j u _ (by simpa[Value.cells]using hu) (Ya hj')).2
   ·intro j u c hu hc;exact(hrc.2 j u c (by simpa[Value.cells]using hu) hc).1
  case array k e=>
   have hag:isAgg P t=true:=by simp[isAgg,hu]
   rw[hag];unfold Value.okWide at hval;rw[hu]at hval;obtain⟨cs,rfl,hcs,_⟩:=hval;refine⟨.agg xs,⟨xs,rfl,ho⟩,.agg cs xs ?_ ?_ ?_⟩
   ·have:=hrc.1;simpa[Value.cells]using this.symm
   ·intro j u hu;have hl:=hrc.1;have hj:j<cs.size:=(Ya7.1 hu).1;have hj':j<xs.length:=by rw[hl];simpa[Value.cells]using hj
    exact(hrc.2 j u _ (by simpa[Value.cells]using hu) (Ya hj')).2
   ·intro j u c hu hc;exact(hrc.2 j u c (by simpa[Value.cells]using hu) hc).1
  case bool=>
   cases hT;unfold Value.okWide Cell.okWide Cell.ok at hval;refine one (by simp[isAgg,hu]) rfl ?_;cases v<;>first | rfl | grind
  case int k=>
   cases hT;unfold Value.okWide Cell.okWide Cell.ok at hval;rw[hu]at hval;refine one (by simp[isAgg,hu]) rfl ?_;cases v<;>first | rfl | grind
  case string=>
   cases hT;unfold Value.okWide Cell.okWide Cell.ok at hval;rw[hu]at hval;refine one (by simp[isAgg,hu]) rfl ?_;cases v<;>first | rfl | grind
  case slice e=>
   obtain⟨r,hr,ht1⟩:=bind_some hT;split at ht1<;>cases ht1;unfold Value.okWide Cell.okWide Cell.ok at hval;rw[hu]at hval;refine one (by simp[isAgg,hu]) rfl ?_;cases v<;>first | rfl | grind
theorem zlg{m base:Nat}:∀(ts:List TypeId) (vs:List Value) (ds:List (DataW H)) (p:List MemPlace) (tys:List (Bool×Ty)),DataW.TrodAll enc P w 0 (fun _=>true) true ts vs ds p->Zjz P m ts=some tys ->
  (∀(j:Nat) t v,ts[j]? = some t->vs[j]? = some v->Value.okWide P w .any base t v)->Ze6 S p ->
  ∃xs,Zhp tys xs/\vs.length=xs.length/\∀(j:Nat) (v:Value) (c:AV),vs[j]? = some v->xs[j]? = some c->CP w S v c
 | [],vs,ds,p,tys,hA,hT,hval,hp=>by
  obtain⟨rfl,_,_⟩:=trodAll_nil hA;cases hT;exact⟨[],rfl,rfl,fun j v c h=>by grind⟩
 | t::ts,vs,ds,p,tys,hA,hT,hval,hp=>by
  obtain⟨v,vs1,d,ds1,a,b,rfl,rfl,rfl,h1,h2⟩:=trodAll_cons hA;obtain⟨ty,hty,hT1⟩:=bind_some hT;obtain⟨r,hr,rfl⟩:=map_some hT1;obtain⟨x,hx,hC⟩:=zw7 (S:=S) h1 hty (hval 0 t v rfl rfl) fun k o h=>hp k o (Y3 _ h);obtain⟨xs,ho,hl,hc⟩:=zlg (m:=m) (base:=base) ts vs1 ds1 b r h2 hr (fun j t v ht hv=>hval (j+1) t v (by grind) (by grind)) fun k o h=>hp k o (Ys _ h);refine⟨x::xs,⟨x,xs,rfl,hx,ho⟩,by grind,fun j u c hu hcc=>?_⟩
  grind
theorem zpe(hl:laidOutB P=true){W W':World}(hb:Below W.heap.size W W'){sp:Nat->Bool}:∀(ts:List TypeId) (vs:List Value) (ds:List (DataW H)) (p:List MemPlace),
  (ts.all fun t=>P.readableRec t&&decide (t<P.types.size))=true->DataW.TrodAll enc P W 0 (fun _=>true) true ts vs ds p->(∀x∈p,x.block<W.heap.size)->(∀x∈p,sp x.block=true)->DataW.TrodAll enc P W' 0 sp true ts vs ds p
 | [],_,_,_,_,hA,_,_=>by
  obtain⟨rfl,rfl,rfl⟩:=trodAll_nil hA;exact rfl
 | t::ts,vs,ds,p,hr,hA,hlt,hsp=>by
  obtain⟨v,vs1,d,ds1,a,b,rfl,rfl,rfl,h1,h2⟩:=trodAll_cons hA;rw[Ybk,Yk,Yk,decide_eq_true_eq]at hr;exact⟨a,b,WideElems.Trod_stays hl hr.1.1 hr.1.2 h1 (fun x hx=>hb.same (hlt x (Y3 _ hx))) (fun x hx=>hsp x (Y3 _ hx)),
   zpe hl hb ts vs1 ds1 b hr.2 h2 (fun x hx=>hlt x (Ys _ hx)) (fun x hx=>hsp x (Ys _ hx)),rfl⟩
theorem ztk:∀(ts:List TypeId) (vs:List Value) (ds:List (DataW H)) (p:List MemPlace),DataW.TrodAll enc P w 0 (fun _=>true) true ts vs ds p->ds.length=ts.length
 | [],_,_,_,hA=>by
  obtain⟨rfl,rfl,rfl⟩:=trodAll_nil hA
  rfl
 | t::ts,vs,ds,p,hA=>by
  obtain⟨v,vs1,d,ds1,a,b,rfl,rfl,rfl,h1,h2⟩:=trodAll_cons hA;simp[ztk ts vs1 ds1 b h2]
def zw8{f:FuncId}{fn:Func}{s:ChangeSpec}{m tb:Nat}{tys:List (Bool×Ty)}{fresh handsOn again:Bool}(hvars:s.vars=[])(hT:Zjz P m fn.params.toList=some tys)(hl:laidOutB P=true)
  (hread:(fn.params.toList.all fun t=>P.readableRec t&&decide (t<P.types.size))=true) (hr:fn.resultTypes=#[tb]) (hb:P.underlying tb=some .bool)
  (hfn:∀ds:List (DataW H),ds.length=fn.params.toList.length->s.fn H ds={ results:=[.lit (.bool true)],args:=ds })
  (hcall:∀xs,Zhp tys xs->Z6 P f xs (·=.b true)) {W:World} {args:Array Value} {ds gs:List (DataW H)} {before:List MemPlace} {base:Nat}
  (hval:∀(j:Nat) t v,fn.params[j]? = some t->args[j]? = some v->Value.okWide P W .any base t v) (hW:DataW.Whole enc P fn.params.toList s.vars false W args.toList ds gs before) :
  Calls P f args W fun e W'=>∃v,e=.returned v/\s.post enc P fn false fresh handsOn again W args v W':=by
 have hW':=hW;obtain⟨p,q,hA,hV,rfl,hfz,hnd⟩:=hW;rw[hvars]at hV;obtain⟨rfl,rfl⟩:=trodVars_none hV;have hlt:∀x∈p,x.block<W.heap.size:=fun x hx=>hW'.lt x (Y3 _ hx);obtain⟨xs,ho,hlen,hC⟩:=zlg (S:=fun k o=>MemPlace.cell k o∈p) _ _ _ _ _ hA hT (fun j t v ht hv=>hval j t v (by grind) (by grind)) (fun k o h=>h);have hc:=(hcall xs ho).2 W (fun k o=>MemPlace.cell k o∈p) args (by omega) (fun j v c hv hc=>hC j v c (by grind) hc) (fun k o h=>hlt _ h);refine hc.mono fun e W' ⟨v,r,he,hrr,hbel,hCr⟩=>?_;subst he hrr;have hv:v=.bool true:=by cases hCr;rfl
 subst hv;have hlf:=hfn ds (ztk _ _ _ _ hA);refine⟨_,rfl,zj3 (pa:=p) (pv:=[]) hW' (fun b sp hd=>?_) (fun sp hsp=>?_) (fun sp _=>?_) rfl hbel (ok_one hr rfl (okWide_bool_mk hb _))⟩
 ·rw[Ybg,hlf,hr];exact trodAll_mk1 (shut_bool hb _)
 ·grind[zpe]
 ·rw[Ybg,hlf,hvars];exact rfl
end
end
theorem zkc:∀(els:List (List AV)),(∀row∈els,Ok (.int .u32) row)->∃l:List UInt32,els=Za l
 | [],_=>⟨[],rfl⟩
 | r::els,h=>by
  obtain⟨l,rfl⟩:=zkc els fun row hr=>h row (Yh _ hr);obtain⟨n,rfl,hw⟩:=h r Yj;have h1:0<=n/\n<4294967296:=by
   simp[Lit.wf,IntKind.min,IntKind.max,IntKind.signed,IntKind.bits]at hw;omega
  refine⟨w32 n.toNat::l,?_⟩;have:(w32 n.toNat).toNat=n.toNat:=zaf (by omega);simp only[Za,Yx,this,u32];rw[Ydo h1.1]
def zxi{P:Program}{ν:Nat->FuncId}{T:Tbl}(hT:TOk P ν T)(hm:P.follows .mixedOrders=true){u:Nat}{af:AFx}{xs ys:List AV}{r:AV}(hu:T u=some af)(hl:af.lent=none)(h:Zb T u ys=some r)(hx:xs.map wkA=ys):Z6 P (ν u) xs (·=r):=by
 subst hx;have h1:=zdo hT hm hu hl h;exact Z6.wk (ex:=false) h1
abbrev tyF:Ty:=.cons .bool (.cons (.sl (.int .u32)) (.cons (.sl (.int .u32)) .nil))
def zjf{cs:List AV}(h:Ok tyF cs):∃x:Fz,wkR cs=Zak x:=by
 obtain⟨c1,c2,rfl,⟨b,rfl⟩,c3,c4,rfl,⟨els,f,rfl,_,_,he⟩,c5,c6,rfl,⟨els2,f2,rfl,_,_,he2⟩,rfl⟩:=h;obtain⟨l,rfl⟩:=zkc els he;obtain⟨l2,rfl⟩:=zkc els2 he2;refine⟨(b,l,l2),?_⟩;simp[wkA,wkR]
theorem zmb:∀(els:List (List AV)),(∀r∈els,Ok tyF r)->∃l:List Fz,wkL els=Zc l
 | [],_=>⟨[],rfl⟩
 | r::els,h=>by
  obtain⟨l,hl⟩:=zmb els fun r hr=>h r (Yh _ hr);obtain⟨x,hx⟩:=zjf (h r Yj);refine⟨x::l,?_⟩;simp only[wkL,hx,hl]
  rfl
def zmc{cs:List AV}(h:Ok (.sl tyF) cs):∃l:List Fz,wkR cs=[.sl (Zc l) .an]:=by
 obtain⟨els,f,rfl,_,_,he⟩:=h;obtain⟨l,hl⟩:=zmb els he;exact⟨l,by simp[wkR,wkA,hl]⟩
def zrb{P:Program}{ν:Nat->FuncId}{l l':List (Nat×AFx)}(hT:TOk P ν fun u=>l'.lookup u)(hp:Part l l')(hm:P.follows .mixedOrders=true){u:Nat}{af:AFx}{xs ys:List AV}{r:AV}
  (hu:l'.lookup u=some af) (hl:af.lent=none) (h:Zb (fun u=>l.lookup u) u ys=some r) (hx:xs.map wkA=ys):Z6 P (ν u) xs (·=r):=
 zxi hT hm hu hl (hp.call (by rw[hu];rfl) h) hx
def zjg(a b:List AV):wkR (a++b)=wkR a++wkR b:=by rw[zhk,zhk,zhk,Yax]
abbrev tyS:Ty:=.cons tyF (.cons tyF (.cons (.sl tyF) (.cons (.sl tyF) (.cons (.sl tyF) (.cons (.sl tyF) .nil)))))
abbrev tyI:Ty:=.cons (.int .i64) (.cons (.int .i64) (.cons (.int .i64) (.cons tyF .nil)))
abbrev tyT:Ty:=.cons (.sl tyI) (.cons (.sl (.int .i64)) (.cons (.int .i64) (.cons (.int .i64) .nil)))
abbrev tyP:Ty:=.cons tyF (.cons (.sl tyF) (.cons (.sl tyF) .nil))
abbrev Znc:Ty:=.cons .str (.cons (.sl tyF) (.cons (.sl (.sl tyF)) (.cons (.sl tyF) (.cons (.sl tyF) .nil))))
abbrev Zpe:Ty:=.cons tyT (.cons Znc (.cons (.sl tyF) (.cons (.int .i64) .nil)))
abbrev Zlv:Ty:=.cons tyF (.cons tyF (.cons tyF (.cons tyF (.cons (.sl tyF) (.cons .bool .nil)))))
abbrev Zlw:Ty:=.cons (.sl Zlv) (.cons tyF (.cons (.sl tyF) .nil))
def zxj{cs:List AV}(h:Ok Zlv cs):∃r:Trr,wkR cs=Zei r:=by
 obtain⟨c1,c1',rfl,h1,c2,c2',rfl,h2,c3,c3',rfl,h3,c4,c4',rfl,h4,c5,c5',rfl,h5,c6,c6',rfl,⟨b,rfl⟩,rfl⟩:=h;obtain⟨t,e1⟩:=zjf h1;obtain⟨w,e2⟩:=zjf h2;obtain⟨hh,e3⟩:=zjf h3;obtain⟨e,e4⟩:=zjf h4;obtain⟨y,e5⟩:=zmc h5;refine⟨⟨t,w,hh,e,y,b⟩,?_⟩;simp only[zjg,e1,e2,e3,e4,e5]
 rfl
theorem zuw:∀(els:List (List AV)),(∀r∈els,Ok Zlv r)->∃l:List Trr,wkL els=Z2 l
 | [],_=>⟨[],rfl⟩
 | r::els,h=>by
  obtain⟨l,hl⟩:=zuw els fun r hr=>h r (Yh _ hr);obtain⟨x,hx⟩:=zxj (h r Yj);refine⟨x::l,?_⟩;simp only[wkL,hx,hl]
  rfl
def zxk{x:AV}(h:Ziy (true,Zlw) x):∃a:Hs,wkA x=ehs a:=by
 obtain⟨cs,rfl,c1,c1',rfl,⟨els,f,rfl,_,_,he⟩,c2,c2',rfl,h2,c3,c3',rfl,h3,rfl⟩:=h;obtain⟨l,hl⟩:=zuw els he;obtain⟨t,e2⟩:=zjf h2;obtain⟨y,e3⟩:=zmc h3;refine⟨⟨l,t,y⟩,?_⟩;rw[wkA];simp only[zjg,e2,e3];simp[wkR,wkA,hl]
end Go.Ab
section
namespace Go.Proofs.YthhddiiohgfamaaGreatDoor
open Go Go.Ab Go.ChangeShapes Go.WideShapes Go.ChangeAt Go.RowKit
def Tryz.own:ownKnob Tryz.prog.godebug=none:=by kernel_rfl
def Tryz.laidOut:laidOutB Tryz.prog=true:=by kernel_rfl
def Tryz.mixed:Tryz.prog.follows .mixedOrders=true:=by kernel_rfl
def Tryz.rowed:mapsRowed Tryz.prog=true:=by kernel_rfl
def Tryz.heard:Tryz.prog.stopsHeard=true:=by kernel_rfl
def Tryz.enters:Tryz.prog.mayEnter=true:=by kernel_rfl
def Tryz.keys:Tryz.prog.plainKeys=Rows.pastTellsRow.plainKeys:=by kernel_rfl
def Tryz.lifts:Tryz.prog.liftsFinal=Rows.pastTellsRow.lifted:=by kernel_rfl
def Tryz.makes:Tryz.prog.make=some Rows.pastTellsRow.make:=by kernel_rfl
def laid2:List (String×DataW Unit):=[("unicode/utf8.acceptRanges",Rows.laid_unicode_utf8_acceptRanges),("unicode/utf8.first",Rows.laid_unicode_utf8_first)]
noncomputable def laidWorld(os:Os):World:=
 let put (h:Array Obj) (g:Nat) (cs:Array Value):Array Obj:=h.modify g fun
  | .cells _ t frozen=>.cells cs t frozen
  | o=>o
 let w0:=World.holding Tryz.prog os ⟨#[],#[],[]⟩
 let h1:=put w0.heap 1 (Lib.firstTab.map fun z=>Value.int .u8 z).toArray
 let h2:=put h1 2 ((List.range 16).flatMap fun i=>[Value.int .u8 (Lib.accLo i),Value.int .u8 (Lib.accHi i)]).toArray
 { w0 with heap:=h2 }
def laid_met(os:Os)(args:Array Value):laidMetH Tryz.prog laid2 ((laidWorld os).forCall (fun _ _=>0) ⟨#[],args,[]⟩).memory:=
 laidMetH_of_parts3 (fuel:=8) (laidMet_of_run' 8 (by kernel_rfl) (by kernel_rfl)) (by kernel_rfl) (by kernel_rfl)
def laid_shaped(os:Os):(laidWorld os).Shaped Tryz.prog:=World.shaped_of_RefB (by kernel_rfl) (by kernel_rfl)
def tab_all:TOk Tryz.prog nu (fun u=>lTab.lookup u):=lTab_ok (text_ok Tryz.mixed) (str344_ok) (str194_ok) (str361_ok) (text689_ok Tryz.mixed)
end Go.Proofs.YthhddiiohgfamaaGreatDoor
end
namespace Go.Ab
section
variable{T:Tbl}[Zdg T][Zap T][Zbi T]
def zr7(s:List UInt8)(c:UInt8)(hs:s.length<=1000000)(n:Int)(hn:n=(s.count c:Int)+1):Zb T 698 [.s s,.s [c],.i .i64 n]=some (.sl (Zf (Zt c s)) .an):=by
 have hc:=zkn (T:=T) s c;have hcl:s.count c<=s.length:=Ydh;have hlen:=zbo c s;have h:=zjl (T:=T) c (Zt c s) (by omega) ([],s) ⟨by simp,hs⟩;unfold Zkq at h;simp only[Yam,Ydc,Y8]at h;have e0:Zf []=[]:=rfl;rw[e0,Ybn,hlen]at h;have w2:IntKind.wrap .i64 ((s.length:Int)+1)=((s.length+1:Nat):Int):=zab _ (by omega);have w3:IntKind.wrap .i64 (((s.count c+1:Nat):Int)-1)=((s.count c+1:Nat):Int)-1:=zab _ (by omega);have w4:IntKind.wrap .i64 (((s.count c+1:Nat):Int)-1+1)=((s.count c+1:Nat):Int):=by
  rw[Int.sub_add_cancel];exact zab _ (by omega)
 have mm:min ((s.count c+1:Nat):Int) ((s.length+1:Nat):Int)=((s.count c+1:Nat):Int):=by omega
 have hz:wkL (List.replicate (s.count c+1) [AV.s []])=List.replicate (s.count c+1) [AV.s []]:=by rw[zbw,List.map_replicate];rfl
 obtain⟨L,hL⟩:∃L,L=Zt c s:=⟨_,rfl⟩;rw[<-hL]at h ⊢ hlen;have hne:L≠[]:=by intro e;rw[e]at hlen;simp at hlen
 have hset:(Zf L.dropLast++[[AV.s []]]).set (s.count c) [AV.s (L.getLastD [])]=Zf L:=by
  have h1:L.dropLast.length=s.count c:=by rw[Ya8];omega
  rw[Yai _ _ (by simp;omega),zaz,h1,Ybe,Yb7];have h2:L=L.dropLast++[L.getLastD []]:=by
   rw[Ydw,Ydf hne,Yb5,Ycg]
  conv=>rhs;rw[h2]
  simp[Zf]
 have hl2:(Zf L.dropLast++[[AV.s []]]).length=s.count c+1:=by simp[Ya8];omega
 have hg:(Zf L.dropLast++[[AV.s []]])[s.count c]? = some [AV.s []]:=by
  rw[Ye (by simp[Ya8];omega)];simp[Ya8,hlen]
 have hr:(Zf L).length=s.count c+1:=by simp[hlen]
 have n1:¬ ((s.count c:Int)+1<0):=by omega
 have n0:¬ ((s.count c:Int)+1=0):=by omega
 have n2:(s.count c:Int)+1<=4294967296:=by omega
 have hwR:wkL (Zf L)=Zf L:=zbs L;subst hn;generalize s.count c=k at *
 generalize Zf L.dropLast++[[AV.s []]]=B at *
 obtain⟨hb,hgE⟩:=Yr.1 hg;generalize L.getLastD []=last at *
 generalize Zf L=R at *
 clear hL hne;have hk:(((k+1:Nat):Int)-1)=k:=by omega
 rw[hk]at h w3 w4;have tk:List.take (k+1) R=R:=Yb (by omega);have hnlt:¬ s.length<k:=by omega
 have nn:(0:Int)<=(k:Int)+1:=by omega
 have nt:((k:Int)+1).toNat=k+1:=by omega
 have nk:(k:Int)<(k:Int)+1:=by omega
 have nle:(k:Int)+1<=(R.length:Int):=by omega
 have nle2:(k:Int)<=(B.length:Int):=by omega
 have hg354:Zb T 354 [.s s,.s [c],.i .i64 0,.i .i64 ((k:Int)+1)]=some (.sl R .an):=by
  rw[zaa Zap.h354 rfl,b354];simp -implicitDefEqProofs[hc,w2,w3,w4,mm,hz,h,hset,hl2,hg,hgE,hr,n0,n1,n2,tk,hnlt,nn,nt,nk,nle,nle2,hwR,hr]
 rw[zaa Zbi.h698 rfl,b698];simp -implicitDefEqProofs[hg354,hwR]
end
section
variable{T:Tbl}[Zp T][Zap T]
def zc3(l:List UInt8)(a b:UInt8):Zb T 345 [.s l,.s [a,b]]=some (.b (decide (l.take 2=[a,b]))):=by
 have h1:Zb T 123 [.s l,.s [a,b]]=some (.b (decide (l.take 2=[a,b]))):=by
  rw[zaa Zp.h123 rfl,b123]
  match l with
  | []=>simp -implicitDefEqProofs
  | [x]=>simp -implicitDefEqProofs
  | x::y::r=>
   have h2:(2:Int)<=(r.length:Int)+1+1:=by omega
   by_cases hc:x=a<;>by_cases hd:y=b<;>simp -implicitDefEqProofs[h2,hc,hd]
 rw[zaa Zap.h345 rfl,b345];simp -implicitDefEqProofs[h1]
end
section
variable{T:Tbl}[Zp T][Zdg T][Zap T][Zbi T]
def zr4(b:UInt8)(hb:b=43\/b=45)(r:List UInt8)(hr:r.count 32=4):Zb T 696 [.s (b::32::r)]=some (.i .i64 4):=by
 have c1:=zc3 (T:=T) (b::32::r) 43 32;have c2:=zc3 (T:=T) (b::32::r) 45 32;have c3:=zkn (T:=T) r 32;rw[hr]at c3;have n1:(2:Int)<=(r.length:Int)+1+1:=by omega
 rw[zaa Zbi.h696 rfl,b696];rcases hb with rfl | rfl
 ·simp at c1;simp -implicitDefEqProofs[c1,c3,n1]
 ·simp at c1 c2;simp -implicitDefEqProofs[c1,c2,c3,n1]
def zr5(r:List UInt8)(hr:r.count 32=1):Zb T 696 [.s (61::32::r)]=some (.i .i64 1):=by
 have c1:=zc3 (T:=T) (61::32::r) 43 32;have c2:=zc3 (T:=T) (61::32::r) 45 32;have c4:=zc3 (T:=T) (61::32::r) 61 32;have c3:=zkn (T:=T) r 32;rw[hr]at c3;have n1:(2:Int)<=(r.length:Int)+1+1:=by omega
 simp at c1 c2 c4;rw[zaa Zbi.h696 rfl,b696];simp -implicitDefEqProofs[c1,c2,c3,c4,n1]
end
def shQ(q:Rat):Prop:=(Zs q.num.natAbs).length<=60/\(Zs q.den).length<=60
def atL(a:Nat)(qs:List Rat)(i:Nat):Nat:=a+((qs.take i).map fun q=>(Zk q).length+1).sum
def zp2(a:Nat)(qs:List Rat)(i:Nat)(h:i<qs.length):atL a qs (i+1)=atL a qs i+((Zk (qs[i]'h)).length+1):=by
 unfold atL;rw[Y5 h,Yax,Yeh];simp;omega
def zkj{q:Rat}(h:shQ q):(Zk q).length<=200:=by
 obtain⟨h1,h2⟩:=h;have h3:(Z7 q.num).length<=61:=by
  unfold Z7;split
  ·simp only[Yg];omega
  ·omega
 unfold Zk;split
 ·omega
 ·simp only[Yq,Yg];omega
theorem zzh(a:Nat)(qs:List Rat)(h:∀q∈qs,shQ q):∀i,atL a qs i<=a+i*201
 | 0=>by simp[atL]
 | i+1=>by
  have ih:=zzh a qs h i;by_cases hi:i<qs.length
  ·rw[zp2 a qs i hi];have:=zkj (h _ (Y0 hi));omega
  ·have e:atL a qs (i+1)=atL a qs i:=by
    unfold atL;rw[Yb (by omega),Yb (by omega)]
   omega
section
variable{T:Tbl}[Zaf T][Zn T][Zw T][Zz T][Zr T][Zv T][Zp T][Zat T][Zg T][Zm T][Zy T][Zcr T][Zdg T][Zap T][Zcj T][Zd7 T][Za5 T][Zb3 T][Ze3 T][Zbi T]
def zvn(q:Rat)(h:shQ q):Zb T 256 [.s (Zk q)]=some (.tup [efz (fz q),flt 0 0]):=by
 have c:=zmf (T:=T) (Zk q) (by have:=zkj h;omega);rw[znb h.1 h.2]at c;exact c
def zvo(l:List Rat)(hl:l.length<=8)(h:∀q∈l,shQ q)(hw:(List.intercalate [44] (l.map Zk)).length<=100000):Zb T 275 [.s (List.intercalate [44] (l.map Zk))]=some (.tup [.sl (Zc (fzs l)) .an,flt 0 0]):=by
 have c:=zxp (T:=T) (List.intercalate [44] (l.map Zk)) hw;rw[zsr l h]at c;exact c
def Zkh(a:Nat)(qs:List Rat)(w:List UInt8)(i:Nat):St:=
 ⟨[(1,.i .i64 (atL a qs i)),(2,.i .i64 qs.length),(8,.ptr (.loc 8) 1 4 0 0),(9,.sl (Zf (qs.map Zk++[w])) .an),(10,.bs (.loc 10) 2 3 0 i),(23,.sl (Zf (qs.map Zk)) .an),(24,.i .i64 qs.length),(25,.i .i64 i)],
  [(.loc 8,⟨1,.str,4,[[.i .i64 0,.i .i64 0,.i .i64 0,.i .i64 0]]⟩),(.loc 10,⟨2,.own,3,Zc (fzs (qs.take i))⟩)],4⟩
def zoi(a:Nat)(ha:a<=10000000)(qs:List Rat)(hq:qs.length<=4)(h:∀q∈qs,shQ q)(w:List UInt8) :
  Zu T 0 0 (.norm false [1,2,8,9,10]) l697_0 (Zkh a qs w 0)=some (.n,⟨[(1,.i .i64 (atL a qs qs.length)),(2,.i .i64 qs.length),(8,.ptr (.loc 8) 1 4 0 0),(9,.sl (Zf (qs.map Zk++[w])) .an),(10,.bs (.loc 10) 2 3 0 qs.length)],
   [(.loc 8,⟨1,.str,4,[[.i .i64 0,.i .i64 0,.i .i64 0,.i .i64 0]]⟩),(.loc 10,⟨2,.own,3,Zc (fzs qs)⟩)],4⟩):=by
 refine za3 (Zkh a qs w) qs.length _ (fun i hi=>?_) ?_
 ·have hi':(i:Int)<qs.length:=by omega
  have hws:=zc2 hi (by omega);have hm:=h _ (Y0 hi);have c1:=zvn (T:=T) _ hm;have hlen:=zkj hm;have hal:=zzh a qs h i;have hal2:=Y2 201 (Ydb (Ym hi hq));have e:=zp2 a qs i hi;have hga:(qs.map Zk)[i]? = some (Zk (qs[i]'hi)):=by rw[Yan,Ya hi];rfl
  have hml:(fzs (qs.take i)).length=i:=by unfold fzs;rw[Yw,Ya3];omega
  have hp:=zc5 hml (fz (qs[i]'hi));have ht:List.take i (fzs (qs.take i))=fzs (qs.take i):=Yb (by omega);have e2:fzs (qs.take (i+1))=fzs (qs.take i)++[fz (qs[i]'hi)]:=by unfold fzs;rw[Y5 hi,Yax];rfl
  have hgl:i<(qs.map Zk).length:=by rw[Yw];exact hi
  have hg2:(qs.map Zk)[i]'hgl=Zk (qs[i]'hi):=List.getElem_map ..;have hi4:i+1<=4294967296:=by omega
  have hrow:∀h',(Zf (qs.map Zk))[i]'h'=[AV.s (Zk (qs[i]'hi))]:=by intro h';simp[Zf]
  rw[ht]at hp;unfold Zkh;rw[e,e2];have w1:IntKind.wrap .i64 (((Zk (qs[i]'hi)).length:Int)+1)=((Zk (qs[i]'hi)).length:Int)+1:=zab _ (by omega);have w2:IntKind.wrap .i64 ((atL a qs i:Int)+(((Zk (qs[i]'hi)).length:Int)+1))=(atL a qs i:Int)+(((Zk (qs[i]'hi)).length:Int)+1):=zab _ (by omega);generalize atL a qs i=A at *
  generalize Zk (qs[i]'hi)=tq at *
  generalize fz (qs[i]'hi)=F at *
  generalize fzs (qs.take i)=P at *
  generalize qs.map Zk=W at *
  obtain⟨f1,f2,f3⟩:=F;simp -implicitDefEqProofs[l697_0,flt,hi,hi',hws,c1,hga,hgl,hg2,hrow,hml,hp,ht,w1,w2,hi4]
 ·have ht:qs.take qs.length=qs:=Ya5;unfold Zkh;rw[ht];generalize atL a qs qs.length=A at *
  constructor<;>simp -implicitDefEqProofs[l697_0]
def zh4(a:Nat)(ha:a<=10000000)(qs:List Rat)(hq:qs.length<=4)(h:∀q∈qs,shQ q)(l:List Rat)(hl:l.length<=8)(h2:∀q∈l,shQ q)(s:List UInt8)(hsl:s.length<=1000000)
  (hsp:Zt 32 s=qs.map Zk++[List.intercalate [44] (l.map Zk)]) (hwl:(List.intercalate [44] (l.map Zk)).length<=100000) :
  Zb T 697 [.s s,.i .i64 a,.i .i64 qs.length]=some (.tup [.sl (Zc (fzs qs)) .an,.sl (Zc (fzs l)) .an,flt 0 0]):=by
 have hcn:=zbo 32 s;rw[hsp]at hcn;have hcount:s.count 32=qs.length:=by simp at hcn;omega
 have c1:=zr7 (T:=T) s 32 hsl ((qs.length:Int)+1) (by rw[hcount]);rw[hsp]at c1;have hlp:=zoi (T:=T) a ha qs hq h (List.intercalate [44] (l.map Zk));have c2:=zvo (T:=T) l hl h2 hwl;have w0:IntKind.wrap .i64 ((qs.length:Int)+1)=(qs.length:Int)+1:=zab _ (by omega);have e0:atL a qs 0=a:=by simp[atL]
 have hml:(fzs qs).length=qs.length:=by unfold fzs;rw[Yw]
 have ht:List.take qs.length (fzs qs)=fzs qs:=Yb (by omega);have ef:fzs (qs.take 0)=[]:=rfl;have er:Zc []=[]:=rfl;unfold Zkh at hlp;rw[e0,ef,er]at hlp;simp only[Y8]at hlp;generalize List.intercalate [44] (l.map Zk)=w at *
 have hrow:∀h',(Zf (qs.map Zk++[w]))[qs.length]'h'=[AV.s w]:=by intro h';simp[Zf]
 have hlen:(Zf (qs.map Zk++[w])).length=qs.length+1:=by simp
 have htk:List.take qs.length (Zf (qs.map Zk++[w]))=Zf (qs.map Zk):=by
  unfold Zf;rw[Yax,Ybt (by simp),Yb (by simp)]
 have htl:(Zf (qs.map Zk)).length=qs.length:=by simp
 have hwk1:wkL (Zf (qs.map Zk++[w]))=Zf (qs.map Zk++[w]):=zbs _;have hwk2:wkL (Zf (qs.map Zk))=Zf (qs.map Zk):=zbs _;have n1:qs.length<=4294967296:=by omega
 have n2:(qs.length:Int)<=(qs.length:Int)+1:=by omega
 have n3:(qs.length:Int)<(qs.length:Int)+1:=by omega
 have hz:Option.all (fun r=>decide (r.length=1)) (Zf (qs.map Zk++[w])).head? = true:=by cases qs<;>rfl
 generalize Zf (qs.map Zk++[w])=R at *
 generalize Zf (qs.map Zk)=R2 at *
 generalize atL a qs qs.length=A at *
 generalize fzs qs=FQ at *
 generalize fzs l=FL at *
 rw[zaa Zbi.h697 rfl,b697];simp -implicitDefEqProofs[flt,c1,c2,w0,hlp,hml,ht,hrow,hlen,htk,htl,hwk1,hwk2,n1,n2,n3,hz]
end
def Zig(l:List UInt8):Prop:=∀c∈l,44<=c.toNat
def Zig.ne{l:List UInt8}(h:Zig l){d:UInt8}(hd:d.toNat<44):∀c∈l,c≠d:=fun c hc e=>by have:=h c hc;rw[e]at this;omega
def zks(n:Nat):Zig (Zs n):=fun c hc=>by have:=zb5 n c hc;omega
def zqc(z:Int):Zig (Z7 z):=by
 unfold Z7;split
 ·intro c hc;rcases Yn.1 hc with rfl | hc
  ·decide
  ·exact zks _ c hc
 ·exact zks _
def zfp(q:Rat):Zig (Zk q):=by
 unfold Zk;split
 ·exact zqc _
 ·intro c hc;rcases Yaj.1 hc with hc | hc
  ·exact zqc _ c hc
  ·rcases Yn.1 hc with rfl | hc
   ·decide
   ·exact zks _ c hc
theorem zqd:∀ts:List (List UInt8),(∀t∈ts,Zig t)->Zig (List.intercalate [44] ts)
 | [],_=>by intro c hc;simp[List.intercalate]at hc
 | [t],h=>by
  have:=h t Yj;simpa[List.intercalate]using this
 | t::t2::ts,h=>by
  have h1:=h t Yj;have h2:=zqd (t2::ts) fun t ht=>h t (Yh _ ht);have e:List.intercalate [44] (t::t2::ts)=t++44::List.intercalate [44] (t2::ts):=by simp[List.intercalate]
  rw[e];intro c hc;rcases Yaj.1 hc with hc | hc
  ·exact h1 c hc
  ·rcases Yn.1 hc with rfl | hc
   ·decide
   ·exact h2 c hc
def zkt(l:List Fz):Zig (List.intercalate [44] (Zba l)):=zqd _ fun t ht=>by
 obtain⟨x,_,rfl⟩:=Yy.1 ht;exact zfp _
def Zcs(r:Trr):List UInt8:=Zk (fv r.t)++32::(Zk (fv r.w)++32::(Zk (fv r.h)++32::(Zk (fv r.e)++32::List.intercalate [44] (Zba r.y))))
def Zd9(h:Hs):List UInt8:=Zk (fv h.t)++32::List.intercalate [44] (Zba h.y)
def Zal(r:Trr):List UInt8:=(if r.ok then 43 else 45)::32::Zcs r
def Zbb(h:Hs):List UInt8:=61::32::Zd9 h
def zjt(r:Trr):Zef r=Zal r++[10]:=by unfold Zef Zal Zcs;simp
def zju(r:Trr):Zt 32 (Zcs r)=[fv r.t,fv r.w,fv r.h,fv r.e].map Zk++[List.intercalate [44] ((r.y.map fv).map Zk)]:=by
 have n:∀q,∀c∈Zk q,c≠(32:UInt8):=fun q=>(zfp q).ne (by decide);unfold Zcs;rw[zb0 _ (n _),zb0 _ (n _),zb0 _ (n _),zb0 _ (n _),zed ((zkt _).ne (by decide))];simp[Zba,Function.comp_def]
def zjv(h:Hs):Zt 32 (Zd9 h)=[fv h.t].map Zk++[List.intercalate [44] ((h.y.map fv).map Zk)]:=by
 unfold Zd9;rw[zb0 _ ((zfp _).ne (by decide)),zed ((zkt _).ne (by decide))];simp[Zba,Function.comp_def]
def zsl(r:Trr):(Zcs r).count 32=4:=by
 have h:=zbo 32 (Zcs r);rw[zju]at h;simp at h;omega
def zsm(h:Hs):(Zd9 h).count 32=1:=by
 have q:=zbo 32 (Zd9 h);rw[zjv]at q;simp at q;omega
def zfq{a b:List UInt8}(ha:∀c∈a,c≠(10:UInt8))(hb:∀c∈b,c≠(10:UInt8)):∀c∈a++32::b,c≠(10:UInt8):=by
 intro c hc;rcases Yaj.1 hc with hc | hc
 ·exact ha c hc
 ·rcases Yn.1 hc with rfl | hc
  ·decide
  ·exact hb c hc
def zsn(r:Trr):∀c∈Zal r,c≠(10:UInt8):=by
 have n:∀q,∀c∈Zk q,c≠(10:UInt8):=fun q=>(zfp q).ne (by decide);have hr:=zfq (n (fv r.t)) (zfq (n (fv r.w)) (zfq (n (fv r.h)) (zfq (n (fv r.e)) ((zkt r.y).ne (d:=10) (by decide)))));intro c hc;unfold Zal at hc;rcases Yn.1 hc with h | hc
 ·subst h;split<;>decide
 ·rcases Yn.1 hc with rfl | hc
  ·decide
  ·exact hr c hc
def zso(h:Hs):∀c∈Zbb h,c≠(10:UInt8):=by
 have hr:=zfq ((zfp (fv h.t)).ne (d:=10) (by decide)) ((zkt h.y).ne (d:=10) (by decide));intro c hc;unfold Zbb at hc;rcases Yn.1 hc with rfl | hc
 ·decide
 ·rcases Yn.1 hc with rfl | hc
  ·decide
  ·exact hr c hc
theorem zii(h:Hs):∀l:List Trr,Zt 10 ((l.map Zef).flatten++Zbb h)=l.map Zal++[Zbb h]
 | []=>by simpa using zed (zso h)
 | r::l=>by
  have e:(((r::l).map Zef).flatten++Zbb h)=Zal r++10::((l.map Zef).flatten++Zbb h):=by simp[zjt]
  rw[e,zb0 _ (zsn r),zii h l]
  rfl
def zsp(h:Hs):Zt 10 (Za9 h)=h.l.map Zal++[Zbb h]:=zii h h.l
def rdF(x:Fz):Prop:=x=fz (fv x)/\shQ (fv x)
structure RdH (h:Hs):Prop where
 len:h.l.length<=100
 t:rdF h.t
 y:∀x∈h.y,rdF x
 yl:h.y.length<=8
 rt:∀r∈h.l,∀x∈r.nums,rdF x
 ry:∀r∈h.l,∀x∈r.y,rdF x
 rl:∀r∈h.l,r.y.length<=8
def zku{l:List Fz}(h:∀x∈l,rdF x):fzs (l.map fv)=l:=by
 unfold fzs;rw[Ybm];exact(List.map_congr_left fun x hx=>(h x hx).1.symm).trans (List.map_id l)
def ze3{x:Fz}(h:rdF x):(Zk (fv x)).length<=200:=zkj h.2
def zdg{l:List Fz}(h:∀x∈l,rdF x)(hl:l.length<=8):(List.intercalate [44] (Zba l)).length<=1608:=by
 have hq:∀t∈Zba l,t.length<=200:=by
  intro t ht;obtain⟨x,hx,rfl⟩:=Yy.1 ht;exact ze3 (h x hx)
 have hb:=zd7 (K:=200) 44 (Zba l) hq;have u3:(Zba l).length<=8:=by unfold Zba;rw[Yw];exact hl
 have u4:(Zba l).length*(200+1)<=8*(200+1):=Y2 _ u3;omega
def zec{r:Trr}(h1:∀x∈r.nums,rdF x)(h2:∀x∈r.y,rdF x)(h3:r.y.length<=8):(Zcs r).length<=2500:=by
 have u1:=ze3 (h1 r.t (by simp[Trr.nums]));have u2:=ze3 (h1 r.w (by simp[Trr.nums]));have u3:=ze3 (h1 r.h (by simp[Trr.nums]));have u4:=ze3 (h1 r.e (by simp[Trr.nums]));have u5:=zdg h2 h3;unfold Zcs;simp only[Yq,Yg];omega
def atR(l:List Trr)(i:Nat):Nat:=((l.take i).map fun r=>(Zal r).length+1).sum
def zqe(l:List Trr)(i:Nat)(h:i<l.length):atR l (i+1)=atR l i+((Zal (l[i]'h)).length+1):=by
 unfold atR;rw[Y5 h,Yax,Yeh];simp
theorem zwk(l:List Trr)(h:∀r∈l,(Zcs r).length<=2500):∀i,atR l i<=i*2503
 | 0=>by simp[atR]
 | i+1=>by
  have ih:=zwk l h i;by_cases hi:i<l.length
  ·rw[zqe l i hi];have:=h _ (Y0 hi);have e:(Zal (l[i]'hi)).length=(Zcs (l[i]'hi)).length+2:=rfl;omega
  ·have e:atR l (i+1)=atR l i:=by
    unfold atR;rw[Yb (by omega),Yb (by omega)]
   omega
def zwl{h:Hs}(hh:RdH h):(Za9 h).length<=600000:=by
 have b:=zp5 (h.l.map Zef) (fun t ht=>by
  obtain⟨r,hr,rfl⟩:=Yy.1 ht;have:=zec (hh.rt r hr) (hh.ry r hr) (hh.rl r hr);rw[zjt];have e:(Zal r).length=(Zcs r).length+2:=rfl;rw[Yq,e];simp;omega)
 have hl:=hh.len;have u1:=ze3 hh.t;have u5:=zdg hh.y hh.yl;unfold Za9;simp only[Yq,Yg,Yw]at b ⊢;omega
section
variable{T:Tbl}[Zaf T][Zn T][Zw T][Zz T][Zr T][Zv T][Zp T][Zat T][Zg T][Zm T][Zy T][Zcr T][Zdg T][Zap T][Zcj T][Zd7 T][Za5 T][Zb3 T][Ze3 T][Zbi T]
abbrev Zki:List (List AV):=[[.sl [] .an,.b false,.sl [] .an,.sl [] .an,.sl [] .an]]
abbrev Zkj:List (List AV):=[[.i .i64 0,.i .i64 0,.i .i64 0,.i .i64 0]]
def Ziq(h:Hs)(i:Nat):St:=
 ⟨[(0,.s (Za9 h)),(2,.ptr (.loc 2) 1 5 0 0),(3,.ptr (.loc 3) 2 4 0 0),(4,.ptr (.loc 4) 3 5 0 0),(5,.i .i64 (atR h.l i)),(6,.b false),(14,.sl (Zf (h.l.map Zal++[Zbb h])) .an),(15,.i .i64 ((h.l.length:Int)+1)),(16,.i .i64 i)],
  [(.loc 2,⟨1,.str,5,Zki⟩),(.loc 3,⟨2,.str,4,Zkj⟩),(.loc 4,⟨3,.str,5,[[.bs (.fld (.loc 4) 0) 4 14 0 i,.b false,.sl [] .an,.sl [] .an,.sl [] .an]]⟩),(.fld (.loc 4) 0,⟨4,.own,14,Z2 (h.l.take i)⟩)],6⟩
def zr6(h:Hs)(hh:RdH h)(i:Nat)(hi:i<h.l.length):evX (orc T) T 0 l695_0 (Ziq h i)=some (.n,Ziq h (i+1)):=by
 have hlen:=hh.len;have hm:=Y0 hi;have hi':(i:Int)<(h.l.length:Int)+1:=by omega
 have hws:=zc2 hi (by omega);have rt:=hh.rt _ hm;have ry:=hh.ry _ hm;have rl:=hh.rl _ hm;have hln:=zec rt ry rl;have hrest:∀r∈h.l,(Zcs r).length<=2500:=fun r hr=>zec (hh.rt r hr) (hh.ry r hr) (hh.rl r hr);have hal:=zwk h.l hrest i;have e:=zqe h.l i hi;have hrow:∀h',(Zf (h.l.map Zal++[Zbb h]))[i]'h'=[AV.s (Zal (h.l[i]'hi))]:=by
  intro h';simp[Zf,List.getElem_append_left,hi]
 have hrl:(Zf (h.l.map Zal++[Zbb h])).length=h.l.length+1:=by simp
 have hrow2:(Zf (h.l.map Zal++[Zbb h]))[i]? = some [AV.s (Zal (h.l[i]'hi))]:=by rw[Ya (by omega),hrow]
 have c1:=zr4 (T:=T) (if (h.l[i]'hi).ok then 43 else 45) (by split<;>simp) (Zcs (h.l[i]'hi)) (zsl _);have c2:=zh4 (T:=T) (atR h.l i+2) (by omega) [fv (h.l[i]'hi).t,fv (h.l[i]'hi).w,fv (h.l[i]'hi).h,fv (h.l[i]'hi).e] (by simp) (fun q hq=>by
   simp only[Yn,Yay,or_false]at hq;rcases hq with rfl | rfl | rfl | rfl
   ·exact(rt (h.l[i]'hi).t (by simp[Trr.nums])).2
   ·exact(rt (h.l[i]'hi).w (by simp[Trr.nums])).2
   ·exact(rt (h.l[i]'hi).h (by simp[Trr.nums])).2
   ·exact(rt (h.l[i]'hi).e (by simp[Trr.nums])).2) ((h.l[i]'hi).y.map fv) (by rw[Yw];exact rl) (fun q hq=>by
   obtain⟨x,hx,rfl⟩:=Yy.1 hq;exact(ry x hx).2) (Zcs (h.l[i]'hi)) (by omega) (zju _) (by
   have:=zdg ry rl;rw[Ybm];exact Yd this (by decide))
 have ef:fzs [fv (h.l[i]'hi).t,fv (h.l[i]'hi).w,fv (h.l[i]'hi).h,fv (h.l[i]'hi).e]=(h.l[i]'hi).nums:=zku (l:=(h.l[i]'hi).nums) rt;rw[ef,zku ry]at c2;have el:Zal (h.l[i]'hi)=(if (h.l[i]'hi).ok then 43 else 45)::32::Zcs (h.l[i]'hi):=rfl;rw[el]at hrow2 e;clear hrow;have hml:(h.l.take i).length=i:=by rw[Ya3];omega
 have hp:=zjr hml (h.l[i]'hi);have ht:List.take i (h.l.take i)=h.l.take i:=Yb (by omega);rw[ht]at hp;have et:h.l.take (i+1)=h.l.take i++[h.l[i]'hi]:=Y5 hi;have hi4:i+1<=4294967296:=by omega
 have n1:(2:Int)<=((Zcs (h.l[i]'hi)).length:Int)+1+1:=by omega
 have n2:(0:Int)<((Zcs (h.l[i]'hi)).length:Int)+1+1:=by omega
 have w1:IntKind.wrap .i64 ((atR h.l i:Int)+2)=(atR h.l i:Int)+2:=zab _ (by omega);have w2:IntKind.wrap .i64 (((Zcs (h.l[i]'hi)).length:Int)+1+1+1)=((Zcs (h.l[i]'hi)).length:Int)+1+1+1:=zab _ (by omega);have w3:IntKind.wrap .i64 ((atR h.l i:Int)+(((Zcs (h.l[i]'hi)).length:Int)+1+1+1))=(atR h.l i:Int)+(((Zcs (h.l[i]'hi)).length:Int)+1+1+1):=zab _ (by omega);simp only[Yg]at e;unfold Ziq;rw[e,et];have hrn:Zc (h.l[i]'hi).nums=[Zak (h.l[i]'hi).t,Zak (h.l[i]'hi).w,Zak (h.l[i]'hi).h,Zak (h.l[i]'hi).e]:=rfl;rw[hrn]at c2;replace c2:Zb T 697 [.s (Zcs (h.l[i]'hi)),.i .i64 ((atR h.l i:Int)+2),.i .i64 4]=some (.tup [.sl [Zak (h.l[i]'hi).t,Zak (h.l[i]'hi).w,Zak (h.l[i]'hi).h,Zak (h.l[i]'hi).e] .an,.sl (Zc (h.l[i]'hi).y) .an,flt 0 0]):=c2;have hwk1:wkL (Zf (h.l.map Zal++[Zbb h]))=Zf (h.l.map Zal++[Zbb h]):=zbs _;clear hrest hal hln el ef hrn rt ry;generalize Za9 h=TX at *
 generalize Zf (h.l.map Zal++[Zbb h])=R at *
 generalize atR h.l i=A at *
 generalize h.l.take i=P at *
 generalize Zcs (h.l[i]'hi)=S at *
 generalize h.l[i]'hi=q at *
 obtain⟨q1,q2,q3,q4,q5,q6⟩:=q;dsimp only at *
 cases q6<;>simp only[if_true,Yad,if_false]at c1 hrow2<;>simp -implicitDefEqProofs[l695_0,flt,hi,hi',hws,hrow2,hrl,c1,c2,hml,hp,ht,w1,w2,w3,n1,n2,hi4,hwk1]
def Zk9(h:Hs):St:=
 ⟨[(0,.s (Za9 h)),(2,.ptr (.loc 2) 1 5 0 0),(3,.ptr (.loc 3) 2 4 0 0),(4,.ptr (.loc 4) 3 5 0 0),(5,.i .i64 ((atR h.l h.l.length:Int)+(((Zd9 h).length:Int)+1+1+1))),(6,.b true),(14,.sl (Zf (h.l.map Zal++[Zbb h])) .an),(15,.i .i64 ((h.l.length:Int)+1)),(16,.i .i64 ((h.l.length:Int)+1))],
  [(.loc 2,⟨1,.str,5,Zki⟩),(.loc 3,⟨2,.str,4,Zkj⟩),(.loc 4,⟨3,.str,5,[[.bs (.fld (.loc 4) 0) 4 14 0 h.l.length,.b h.t.1,.sl (Za h.t.2.1) .an,.sl (Za h.t.2.2) .an,.sl (Zc h.y) .an]]⟩),(.fld (.loc 4) 0,⟨4,.own,14,Z2 h.l⟩)],6⟩
def zx7{h:Hs}(hh:RdH h):(Zd9 h).length<=2500:=by
 have u1:=ze3 hh.t;have u5:=zdg hh.y hh.yl;unfold Zd9;simp only[Yq,Yg];omega
def zvp(h:Hs)(hh:RdH h):evX (orc T) T 0 l695_0 (Ziq h h.l.length)=some (.n,Zk9 h):=by
 have hlen:=hh.len;have hi':(h.l.length:Int)<(h.l.length:Int)+1:=by omega
 have hws:IntKind.wrap .i64 ((h.l.length:Int)+1)=(h.l.length:Int)+1:=zab _ (by omega);have hln:=zx7 hh;have hrest:∀r∈h.l,(Zcs r).length<=2500:=fun r hr=>zec (hh.rt r hr) (hh.ry r hr) (hh.rl r hr);have hal:=zwk h.l hrest h.l.length;have hrow2:(Zf (h.l.map Zal++[Zbb h]))[h.l.length]? = some [AV.s (61::32::Zd9 h)]:=by
  simp[Zf,Zbb]
 have hrl:(Zf (h.l.map Zal++[Zbb h])).length=h.l.length+1:=by simp
 have c1:=zr5 (T:=T) (Zd9 h) (zsm _);have c2:=zh4 (T:=T) (atR h.l h.l.length+2) (by omega) [fv h.t] (by simp) (fun q hq=>by
   rw[Yab.1 hq];exact hh.t.2) (h.y.map fv) (by rw[Yw];exact hh.yl) (fun q hq=>by
   obtain⟨x,hx,rfl⟩:=Yy.1 hq;exact(hh.y x hx).2) (Zd9 h) (by omega) (zjv _) (by
   have:=zdg hh.y hh.yl;rw[Ybm];exact Yd this (by decide))
 have ef:fzs [fv h.t]=[h.t]:=zku (l:=[h.t]) (fun x hx=>by rw[Yab.1 hx];exact hh.t);rw[ef,zku hh.y]at c2;replace c2:Zb T 697 [.s (Zd9 h),.i .i64 ((atR h.l h.l.length:Int)+2),.i .i64 1]=some (.tup [.sl [Zak h.t] .an,.sl (Zc h.y) .an,flt 0 0]):=c2;have n1:(2:Int)<=((Zd9 h).length:Int)+1+1:=by omega
 have n2:(0:Int)<((Zd9 h).length:Int)+1+1:=by omega
 have w1:IntKind.wrap .i64 ((atR h.l h.l.length:Int)+2)=(atR h.l h.l.length:Int)+2:=zab _ (by omega);have w2:IntKind.wrap .i64 (((Zd9 h).length:Int)+1+1+1)=((Zd9 h).length:Int)+1+1+1:=zab _ (by omega);have w3:IntKind.wrap .i64 ((atR h.l h.l.length:Int)+(((Zd9 h).length:Int)+1+1+1))=(atR h.l h.l.length:Int)+(((Zd9 h).length:Int)+1+1+1):=zab _ (by omega);have ht:h.l.take h.l.length=h.l:=Ya5;have hwk1:wkL (Zf (h.l.map Zal++[Zbb h]))=Zf (h.l.map Zal++[Zbb h]):=zbs _;have hnl:h.l.length<(Zf (h.l.map Zal++[Zbb h])).length:=by omega
 unfold Ziq Zk9;rw[ht];clear hrest hal hln ef;generalize Za9 h=TX at *
 generalize Zf (h.l.map Zal++[Zbb h])=R at *
 generalize atR h.l h.l.length=A at *
 generalize Zd9 h=S at *
 obtain⟨L,⟨t1,t2,t3⟩,y⟩:=h;dsimp only at *
 obtain⟨hb,hrowE⟩:=Yr.1 hrow2;simp -implicitDefEqProofs[l695_0,flt,hi',hws,hrow2,hrowE,hrl,c1,c2,w1,w2,w3,n1,n2,hwk1]
def zvq(h:Hs)(hh:RdH h):Zb T 695 [.s (Za9 h)]=some (.tup [ehs h,flt 0 0]):=by
 have hlen:=hh.len;have hrest:∀r∈h.l,(Zcs r).length<=2500:=fun r hr=>zec (hh.rt r hr) (hh.ry r hr) (hh.rl r hr);have key:=za3 (T:=T) (k:=0) (id:=0) (g2:=.norm false [0,2,3,4,6]) (c:=l695_0) (fun i=>if i<=h.l.length then Ziq h i else Zk9 h) (h.l.length+1)
  (some (.n,⟨[(0,.s (Za9 h)),(2,.ptr (.loc 2) 1 5 0 0),(3,.ptr (.loc 3) 2 4 0 0),(4,.ptr (.loc 4) 3 5 0 0),(6,.b true)],[(.loc 2,⟨1,.str,5,Zki⟩),(.loc 3,⟨2,.str,4,Zkj⟩),(.loc 4,⟨3,.str,5,[[.bs (.fld (.loc 4) 0) 4 14 0 h.l.length,.b h.t.1,.sl (Za h.t.2.1) .an,.sl (Za h.t.2.2) .an,.sl (Zc h.y) .an]]⟩),(.fld (.loc 4) 0,⟨4,.own,14,Z2 h.l⟩)],6⟩)) (fun i hi=>?_) ?_
 ·simp only[Y4,if_true]at key;have hsz:(Za9 h).length<=1000000->Zb T 346 [.s (Za9 h),.s [10]]=some (.sl (Zf (h.l.map Zal++[Zbb h])) .an):=fun q=>by
   have:=zmz (T:=T) (Za9 h) 10 q
   rwa [zsp]at this
  have c1:=hsz (by have:=zwl hh;omega);have e0:atR h.l 0=0:=rfl;have w0:Z2 (h.l.take 0)=[]:=rfl;have hrl:(Zf (h.l.map Zal++[Zbb h])).length=h.l.length+1:=by simp
  have hwk1:wkL (Zf (h.l.map Zal++[Zbb h]))=Zf (h.l.map Zal++[Zbb h]):=zbs _;have hml:(Z2 h.l).length=h.l.length:=zeb _;have htl:List.take h.l.length (Z2 h.l)=Z2 h.l:=Yb (by simp);clear hsz hrest;unfold Ziq at key;rw[e0,w0]at key;simp only[Y8]at key;rw[zaa Zbi.h695 rfl,b695];generalize Za9 h=TX at *
  generalize Zf (h.l.map Zal++[Zbb h])=R at *
  obtain⟨L,⟨t1,t2,t3⟩,y⟩:=h;dsimp only at *
  simp -implicitDefEqProofs[flt,c1,key,hrl,hwk1,hml,htl]
 ·by_cases hl:i<h.l.length
  ·simp only[show i<=h.l.length by omega,show i+1<=h.l.length by omega,if_true];exact zr6 h hh i hl
  ·have e:i=h.l.length:=by omega
   subst e;simp only[Yi,if_true,show ¬ h.l.length+1<=h.l.length by omega,if_false];exact zvp h hh
 ·simp only[show ¬ h.l.length+1<=h.l.length by omega,if_false];unfold Zk9;obtain⟨L,⟨t1,t2,t3⟩,y⟩:=h;dsimp only at *
  constructor<;>simp -implicitDefEqProofs[l695_0]
end
section
variable{T:Tbl}[Zaf T][Zn T][Zw T][Zz T][Zr T][Zv T][Zp T][Zat T][Zg T][Zm T][Zy T][Zcr T][Za1 T][Zbp T][Zdg T][Zap T][Zcj T][Zd7 T][Zcx T][Zcc T][Zdj T][Zf0 T][Zfx T][Za5 T][Zb3 T][Ze3 T][Zar T][Zbi T]
def zh5(h:Hs)(hh:RdH h)(hs:HsS h 400):Zb T 693 [.s (Za9 h)]=some (.tup (if Zda h=0 then [ehs h,flt 0 0] else [.agg [.sl [] .an,.b false,.sl [] .an,.sl [] .an,.sl [] .an],flt 2 (Zda h)])):=by
 have c1:=zvq (T:=T) h hh;have c2:=zjj (T:=T) h hs;rw[zaa Zbi.h693 rfl,b693];generalize Za9 h=TX at *
 generalize Zda h=W at *
 obtain⟨L,⟨t1,t2,t3⟩,y⟩:=h;by_cases hW:W=0
 ·subst hW;simp -implicitDefEqProofs[flt,c1,c2]
 ·rw[if_neg hW];simp -implicitDefEqProofs[flt,c1,c2,hW]
end
def exH(q:Rat):Hs:=⟨[⟨fz 0,fz (1/2),fz (1/2),fz 0,[fz 1],true⟩],fz q,[fz (3/2)]⟩
def zze:Za9 (exH (1/2))=[43,32,48,32,49,47,50,32,49,47,50,32,48,32,49,10,61,32,49,47,50,32,51,47,50]:=by decide +kernel
def z6v:Za9 (exH (1/3))=[43,32,48,32,49,47,50,32,49,47,50,32,48,32,49,10,61,32,49,47,51,32,51,47,50]:=by decide +kernel
def zh0{q:Rat}(h:shQ q):rdF (fz q):=⟨by rw[zf6],by rw[zf6];exact h⟩
def sh0:shQ 0:=by unfold shQ;decide +kernel
def sh1:shQ 1:=by unfold shQ;decide +kernel
def sh2:shQ (1/2):=by unfold shQ;decide +kernel
def sh3:shQ (1/3):=by unfold shQ;decide +kernel
def sh4:shQ (3/2):=by unfold shQ;decide +kernel
def zzf{q:Rat}(h:shQ q):RdH (exH q):=by
 refine⟨show 1<=100 by decide,zh0 h,?_,show 1<=8 by decide,?_,?_,?_⟩
 ·intro x hx;rw[Yab.1 hx];exact zh0 sh4
 ·intro r hr x hx;rw[Yab.1 hr]at hx;simp only[Trr.nums,Yn,Yay,or_false]at hx;rcases hx with rfl | rfl | rfl | rfl
  ·exact zh0 sh0
  ·exact zh0 sh2
  ·exact zh0 sh2
  ·exact zh0 sh0
 ·intro r hr x hx;rw[Yab.1 hr]at hx;rw[Yab.1 hx];exact zh0 sh1
 ·intro r hr;rw[Yab.1 hr]
  decide
def z6w{q:Rat}(h:fsz (fz q)<=400):HsS (exH q) 400:=by
 refine⟨show 1<=1000 by decide,h,?_,show 1<=1000 by decide,?_,?_,?_⟩
 ·intro x hx;rw[Yab.1 hx]
  decide +kernel
 ·intro r hr x hx;rw[Yab.1 hr]at hx;simp only[Trr.nums,Yn,Yay,or_false]at hx;rcases hx with rfl | rfl | rfl | rfl<;>decide +kernel
 ·intro r hr x hx;rw[Yab.1 hr]at hx;rw[Yab.1 hx]
  decide +kernel
 ·intro r hr;rw[Yab.1 hr]
  decide
def z6x:Zda (exH (1/2))=0:=by decide +kernel
def z6y:Zda (exH (1/3))=5:=by decide +kernel
def z6z:Zc0 (exH (1/2))=true:=by decide +kernel
section
variable{T:Tbl}[Zaf T][Zn T][Zw T][Zz T][Zr T][Zv T][Zp T][Zat T][Zg T][Zm T][Zy T][Zcr T][Za1 T][Zbp T][Zdg T][Zap T][Zcj T][Zd7 T][Zcx T][Zcc T][Zdj T][Zf0 T][Zfx T][Za5 T][Zb3 T][Ze3 T][Zar T][Zbi T][Zfz T][Zcd T]
def zof:Zb T 686 []=some (.b true):=by
 have c1:=zh5 (T:=T) (exH (1/2)) (zzf sh2) (z6w (by decide +kernel));have c2:=zh5 (T:=T) (exH (1/3)) (zzf sh3) (z6w (by decide +kernel));have c3:Zb T 689 [ehs (exH (1/2))]=some (.s (Za9 (exH (1/2)))):=by rw[p689,zjw _ z6z]
 rw[z6x,if_pos rfl,zze]at c1;rw[z6y,if_neg (by decide),z6v]at c2;rw[zze]at c3;have hl:(exH (1/2)).l.length=1:=rfl;generalize exH (1/2)=H at *
 rw[zaa Zcd.h686 rfl,b686];obtain⟨L,⟨t1,t2,t3⟩,y⟩:=H;dsimp only at *
 simp -implicitDefEqProofs[flt,c1,c2,c3,hl]
end
section
variable{T:Tbl}[Zaf T][Zn T][Zw T][Zz T][Zr T][Zv T][Zg T][Zm T][Zy T][Za1 T][Zbp T][Zcj T][Zcx T][Zcc T][Zdj T][Zf0 T][Zfx T][Zp T][Zat T][Za5 T][Zb3 T][Za2 T][Za3 T][Zas T][Za4 T][Zbq T][Zbz T][Zbj T][Zbk T][Zdm T][Zdn T][Zcd T]
def Zpl(h:Hs)(i:Nat):St:=⟨[(1,.ptr (.loc 1) 1 5 0 0),(2,.ptr (.loc 2) 2 5 0 0),(3,.ptr (.loc 3) 3 5 0 0),(4,.i .i64 i)],
 [(.loc 1,bxH h),(.loc 2,⟨2,.str,5,[[.sl [] .an,.b false,.sl [] .an,.sl [] .an,.sl [] .an]]⟩),(.loc 3,⟨3,.str,5,[[.bs fC 4 14 0 i,.b h.t.1,.sl (Za h.t.2.1) .an,.sl (Za h.t.2.2) .an,.sl (Zc h.y) .an]]⟩),(fC,⟨4,.own,14,Z2 (h.l.take i)⟩)],6⟩
end
def rrB(r:Trr):Bool:=Zq r.nums&&Zq r.y
def w2H(n:Nat)(l:List Trr):Int:=if (l.all fun r=>decide (r.y.length=n))=true then 0 else 2
def chK(h:Hs)(j:Nat):Bool:=match h.l[j]? with | some r=>Zfq r (Zeq (h.l.drop (j+1)) h.t h.y).1 (Zeq (h.l.drop (j+1)) h.t h.y).2 | none=>true
def w5H(h:Hs)(i:Nat):Int:=if (List.range i).all (chK h)=true then 0 else 5
section
variable{T:Tbl}[Za2 T][Za3 T][Zas T][Za4 T][Zbq T][Zbz T][Zbj T][Zbk T][Zi6 T][Zck T][Zj9 T]
def Zp8(h:Hs)(w:Int)(i:Nat):St:=⟨[(1,.ptr (.loc 1) 1 5 0 0),(3,.i .i64 w),(4,.i .i64 i)],[(.loc 1,bxH h)],3⟩
def Zp9(h:Hs)(w:Int)(i:Nat):St:=⟨[(1,.ptr (.loc 1) 1 5 0 0),(3,.i .i64 w),(5,.i .i64 i)],[(.loc 1,bxH h)],3⟩
def Zo3:Ex×St:=(.r,⟨[(2,.i .i64 4)],[],2⟩)
end
def zrn{h:Hs}(hs:HsS h 100)(h1:h.l.length<=100)(h2:h.y.length<=100)(h3:∀r∈h.l,r.y.length<=100):Zc0 h=true:=by
 have key:∀l:List Fz,l.length<=100->(∀x∈l,fsz x<=100)->Zea l=true:=fun l q1 q2=>by
  unfold Zea;rw[decide_eq_true q1,Ydk,Yl];exact fun x hx=>decide_eq_true (q2 x hx)
 unfold Zc0;rw[decide_eq_true h1,key [h.t] (by simp) (fun x hx=>by rw[Yab.1 hx];exact hs.t),key h.y h2 hs.y,Ydk,Ydk,Ydk,Yl];exact fun r hr=>by rw[key r.nums (by simp[Trr.nums]) (hs.rt r hr),key r.y (h3 r hr) (hs.ry r hr)];rfl
def HsS.up{h:Hs}{B C:Nat}(hs:HsS h B)(hB:B<=C):HsS h C:=
 ⟨hs.len,Yd hs.t hB,fun x hx=>Yd (hs.y x hx) hB,hs.yl,fun r hr x hx=>Yd (hs.rt r hr x hx) hB,fun r hr x hx=>Yd (hs.ry r hr x hx) hB,hs.rl⟩
section
variable{T:Tbl}[Zcd T]
def Zpm(a N:Hs)(ts us:List (List AV))(ys zs:List (List AV))(m:List Trr)(i:Nat):St:=
 ⟨[(5,.ptr (.loc 5) 1 5 0 0),(6,.ptr (.loc 6) 2 5 0 0),(7,.sl ts .an),(8,.sl ys .an),(9,.sl us .an),(10,.sl zs .an),(12,.bs (.loc 12) 3 14 0 m.length),(13,.i .i64 i)],
  [(.loc 5,bxH a),(.loc 6,⟨2,.str,5,[[.sl (Z2 N.l) .an,.b N.t.1,.sl (Za N.t.2.1) .an,.sl (Za N.t.2.2) .an,.sl (Zc N.y) .an]]⟩),(.loc 12,⟨3,.own,14,Z2 m⟩)],5⟩
end
end Go.Ab
section
namespace Go.Ab
end Go.Ab
end
namespace Go.Ab
def Zay(x:Fz):Bool:=decide ((Zs (fv x).num.natAbs).length<=60)&&decide ((Zs (fv x).den).length<=60)
section
variable{T:Tbl}[Zat T][Zg1 T][Zcd T]
def zzd(n:Nat)(h:(ofN n).length<=1000):Zb T 129 [.sl (Za (ofN n)) .an]=some (.i .i64 (Zs n).length):=by
 have c:Zb T 68 [.sl (Za (ofN n)) .an]=some (.s (Zs n)):=by
  rw[p68,zia _ (by omega),zad]
 rw[zaa Zg1.h129 rfl,b129];generalize ofN n=N at *
 simp -implicitDefEqProofs[c]
def Zio(l:List Fz)(i:Nat):St:=⟨[(0,.sl (Zc l) .an),(3,.i .i64 i)],[],2⟩
def zdr(l:List Fz)(hl:l.length<=1000)(h:∀x∈l,x=fz (fv x)/\sz (fv x)<=900):Zb T 692 [.sl (Zc l) .an]=some (.b (l.all Zay)):=by
 have hlp:Zu T 0 0 (.norm false []) l692_0 (Zio l 0)=if (l.drop 0).all Zay=true then some (.n,⟨[],[],2⟩) else some (.r,⟨[(2,.b false)],[],2⟩):=by
  refine zat (Zio l) l.length (fun i=>if (l.drop i).all Zay=true then some (.n,⟨[],[],2⟩) else some (.r,⟨[(2,.b false)],[],2⟩)) (fun i hi=>?_) ?_
  ·have hws:=zc2 hi (by omega);have hi':(i:Int)<l.length:=by omega
   have key:(l.drop i).all Zay=(Zay (l[i]'hi)&&(l.drop (i+1)).all Zay):=by rw[Yp hi,Ybk]
   obtain⟨e,hs⟩:=h _ (Y0 hi);have zn:=zih (fv (l[i]'hi));have zd:=zgc (fv (l[i]'hi));have c1:=zzd (T:=T) (fv (l[i]'hi)).num.natAbs (by omega);have c2:=zzd (T:=T) (fv (l[i]'hi)).den (by omega);have e1:(l[i]'hi).2.1=ofN (fv (l[i]'hi)).num.natAbs:=by rw[e,zf6];rfl
   have e2:(l[i]'hi).2.2=ofN (fv (l[i]'hi)).den:=by rw[e,zf6];rfl
   rw[<-e1]at c1;rw[<-e2]at c2;have ks:Zay (l[i]'hi)=(decide ((Zs (fv (l[i]'hi)).num.natAbs).length<=60)&&decide ((Zs (fv (l[i]'hi)).den).length<=60)):=rfl;clear e1 e2 e zn zd hs;generalize (Zs (fv (l[i]'hi)).num.natAbs).length=A at *
   generalize (Zs (fv (l[i]'hi)).den).length=B at *
   generalize hq:l[i]'hi=q at *
   obtain⟨q1,q2,q3⟩:=q;dsimp only at c1 c2;by_cases h1:A<=60
   ·by_cases h2:B<=60
    ·left;have hk:(l.drop i).all Zay=(l.drop (i+1)).all Zay:=by rw[key,ks,decide_eq_true h1,decide_eq_true h2];rfl
     refine⟨?_,by simp only[hk]⟩;have h1':¬ (60:Int)<A:=by omega
     have h2':¬ (60:Int)<B:=by omega
     have g1:¬ 60<A:=by omega
     have g2:¬ 60<B:=by omega
     unfold Zio;simp -implicitDefEqProofs[l692_0,hi,hi',hws,hq,c1,c2,h1',h2',g1,g2]
    ·right;rw[if_neg (by rw[key,ks];simp[h2])];have h1':¬ (60:Int)<A:=by omega
     have h2':(60:Int)<B:=by omega
     have g1:¬ 60<A:=by omega
     have g2:60<B:=by omega
     unfold Zio;constructor<;>simp -implicitDefEqProofs[l692_0,hi,hi',hq,c1,c2,h1',h2',g1,g2]
   ·right;rw[if_neg (by rw[key,ks];simp[h1])];have h1':(60:Int)<A:=by omega
    have g1:60<A:=by omega
    unfold Zio;constructor<;>simp -implicitDefEqProofs[l692_0,hi,hi',hq,c1,h1',g1]
  ·simp only[Yah,Ycd,if_true];unfold Zio;constructor<;>simp -implicitDefEqProofs[l692_0]
 unfold Zio at hlp;rw[Yat]at hlp;simp only[Y8]at hlp;rw[zaa Zcd.h692 rfl,b692];cases hn:l.all Zay<;>rw[hn]at hlp<;>simp at hlp<;>simp -implicitDefEqProofs[hlp]
end
def Zb4(l:List Trr)(t:Fz):List Rat:=(l.filter (·.ok)).map (fun r=>fv r.t)++[fv t]
theorem zmk:∀(l:List Trr) (t:Fz) (y:List Fz),Zc9 l t y=true->(Zb4 l t)[0]? = some (fv (Zeq l t y).1) /\
  ∀(i:Nat) (r:Trr),(l.filter (·.ok))[i]? = some r->(Zb4 l t)[i]? = some (fv r.t)/\(Zb4 l t)[i+1]? = some (fv r.t+fv r.h)
 | [],t,y,_=>⟨rfl,fun i r h=>by simp at h⟩
 | q::l,t,y,h=>by
  simp only[Zc9,Yk]at h;obtain⟨h1,h2⟩:=h;obtain⟨k1,k2⟩:=zmk l t y h2;cases hq:q.ok with
  | true=>
   have e:Zb4 (q::l) t=fv q.t::Zb4 l t:=by simp[Zb4,Ybq,hq]
   have ef:(q::l).filter (·.ok)=q::l.filter (·.ok):=by simp[Ybq,hq]
   have hf:fv (Zeq l t y).1=fv q.t+fv q.h:=by simpa[Zfq,hq]using h1
   rw[e,ef];refine⟨rfl,fun i r hi=>?_⟩;cases i with
   | zero=>
    cases hi;exact⟨rfl,by simp only[Yav];rw[k1,hf]⟩
   | succ i=>exact k2 i r hi
  | false=>
   have e:Zb4 (q::l) t=Zb4 l t:=by simp[Zb4,Ybq,hq]
   have ef:(q::l).filter (·.ok)=l.filter (·.ok):=by simp[Ybq,hq]
   have hf:fv (Zeq l t y).1=fv q.t:=by
    simp only[Zfq,hq,Yad,if_false,Yk,decide_eq_true_eq]at h1;exact h1.1
   rw[e,ef];exact⟨by rw[k1,hf];rfl,k2⟩
def z1g(h:Hs):Zjd h=fzs (Zb4 h.l h.t):=by
 unfold Zjd Zb4 fzs Zb6;simp[Ybm,Function.comp_def,Zbs]
def Zcm(l:List Trr):List Rat:=(l.filter (·.ok)).map fun r=>fv r.h
def z6u(h:Hs):Zle h=fzs (Zcm h.l):=by
 unfold Zle Zcm fzs Zb6;simp[Ybm,Function.comp_def,Zbs]
def zu8{h:Hs}(hc:Zf4 h=true)(i:Nat)(hi:i<(Zcm h.l).length):∃v s,(Zb4 h.l h.t)[i]? = some v/\(Zcm h.l)[i]? = some s/\(Zb4 h.l h.t)[i+1]? = some (v+s):=by
 unfold Zcm at hi;rw[Yw]at hi;have k:=(zmk h.l h.t h.y hc).2 i _ (Ya hi);refine⟨_,_,k.1,?_,k.2⟩;unfold Zcm;rw[Yan,Ya hi]
 rfl
section
variable{T:Tbl}[Zaf T][Zn T][Zw T][Zz T][Zr T][Zv T][Zg T][Zm T][Zy T][Za1 T][Zbp T][Zat T][Zg1 T][Zcd T]
def Zkb(h:Hs)(V H:List Rat)(i:Nat):St:=
 ⟨[(3,.ptr (.loc 3) 1 5 0 0),(4,.sl (Zc (fzs V)) .an),(6,.sl (Zc (fzs H)) .an),(7,.ptr (.loc 7) 2 3 0 0),(8,.i .i64 i)],[(.loc 3,bxH h),(.loc 7,⟨2,.str,3,[Zak (fz (V.getD i 0))]⟩)],4⟩
def zu9(h:Hs)(V H:List Rat)(hl:H.length<=1000)(hV:V.length=H.length+1)(hs:∀(i:Nat),i<H.length->∃v s,V[i]? = some v/\H[i]? = some s/\V[i+1]? = some (v+s))(hb:∀q∈V,sz q<=500)(hb2:∀q∈H,sz q<=500) :
  Zu T 0 0 (.norm false [3,4]) l685_0 (Zkb h V H 0)=some (.n,⟨[(3,.ptr (.loc 3) 1 5 0 0),(4,.sl (Zc (fzs V)) .an)],[(.loc 3,bxH h)],3⟩):=by
 refine za3 (Zkb h V H) H.length _ (fun i hi=>?_) ?_
 ·obtain⟨v,s,e1,e2,e3⟩:=hs i hi;have hi':(i:Int)<H.length:=by omega
  have hws:=zc2 hi (by omega);have zv:=hb v (Yc e1);have zs:=hb2 s (Yc e2);have zw:=hb _ (Yc e3);have c1:=zpv (T:=T) (fz v) (fz s) (by rw[zm3];omega) (by rw[zm3];omega);have c2:=zd4 (T:=T) (fz (v+s)) (fz (v+s)) (by rw[zm3];omega) (by rw[zm3];omega);rw[decide_eq_true rfl]at c2;rw[zf6,zf6]at c1;have g1:(fzs H)[i]? = some (fz s):=by unfold fzs;rw[Yan,e2];rfl
  have g2:(fzs V)[i+1]? = some (fz (v+s)):=by unfold fzs;rw[Yan,e3];rfl
  have d1:V.getD i 0=v:=by rw[Ycq,e1];rfl
  have d2:V.getD (i+1) 0=v+s:=by rw[Ycq,e3];rfl
  have l1:(fzs H).length=H.length:=by unfold fzs;rw[Yw]
  have l2:(fzs V).length=H.length+1:=by unfold fzs;rw[Yw];exact hV
  have hi2:((i:Int)+1)<(H.length:Int)+1:=by omega
  unfold Zkb bxH;rw[d1,d2];obtain⟨hb1,g1'⟩:=Yr.1 g1;obtain⟨hb2,g2'⟩:=Yr.1 g2;generalize fz v=X at *
  generalize fz s=Y at *
  generalize fz (v+s)=Z at *
  obtain⟨x1,x2,x3⟩:=X;obtain⟨y1,y2,y3⟩:=Y;obtain⟨z1,z2,z3⟩:=Z;obtain⟨L,t,y⟩:=h;dsimp only at *
  simp -implicitDefEqProofs[l685_0,hi,hi',hi2,hws,c1,c2,g1,g2,g1',g2',l1,l2]
 ·unfold Zkb bxH;have l1:(fzs H).length=H.length:=by unfold fzs;rw[Yw]
  obtain⟨L,t,y⟩:=h;dsimp only at *
  constructor<;>simp -implicitDefEqProofs[l685_0,l1]
end
def Zg5(r:Trr):Bool:=r.y.all Zay && [r.t,r.h,r.w,r.e].all Zay
def rgR(r:Trr):Prop:=(∀x∈r.nums,x=fz (fv x)/\sz (fv x)<=900)/\(∀x∈r.y,x=fz (fv x)/\sz (fv x)<=900)/\r.y.length<=1000
section
variable{T:Tbl}[Zaf T][Zn T][Zw T][Zz T][Zr T][Zv T][Zg T][Zm T][Zy T][Za1 T][Zbp T][Zat T][Zg1 T][Zcd T]
def Zkc(h:Hs)(F:Bool)(i:Nat):St:=⟨[(3,.ptr (.loc 3) 1 5 0 0),(9,.b (F&&(h.l.take i).all Zg5)),(10,.i .i64 i)],[(.loc 3,bxH h)],3⟩
def zva(h:Hs)(F:Bool)(hl:h.l.length<=1000)(hr:∀r∈h.l,rgR r) :
  Zu T 0 2 (.norm false [3,9]) l685_1 (Zkc h F 0)=some (.n,⟨[(3,.ptr (.loc 3) 1 5 0 0),(9,.b (F&&h.l.all Zg5))],[(.loc 3,bxH h)],3⟩):=by
 refine za3 (Zkc h F) h.l.length _ (fun i hi=>?_) ?_
 ·have hi':(i:Int)<h.l.length:=by omega
  have hws:=zc2 hi (by omega);obtain⟨q1,q2,q3⟩:=hr _ (Y0 hi);have c1:=zdr (T:=T) (h.l[i]'hi).y q3 q2;have c2:=zdr (T:=T) [(h.l[i]'hi).t,(h.l[i]'hi).h,(h.l[i]'hi).w,(h.l[i]'hi).e] (by simp) (fun x hx=>q1 x (by
   simp only[Trr.nums,Yn,Yay,or_false]at hx ⊢;rcases hx with h | h | h | h<;>simp[h]))
  have hrow:Zc [(h.l[i]'hi).t,(h.l[i]'hi).h,(h.l[i]'hi).w,(h.l[i]'hi).e]=[Zak (h.l[i]'hi).t,Zak (h.l[i]'hi).h,Zak (h.l[i]'hi).w,Zak (h.l[i]'hi).e]:=rfl;rw[hrow]at c2;have e:(F&&(h.l.take (i+1)).all Zg5)=((F&&(h.l.take i).all Zg5)&&Zg5 (h.l[i]'hi)):=by
   rw[Y5 hi,List.all_append,Ybk,Ycd,Ydj,Bool.and_assoc]
  have ef:Zg5 (h.l[i]'hi)=((h.l[i]'hi).y.all Zay && [(h.l[i]'hi).t,(h.l[i]'hi).h,(h.l[i]'hi).w,(h.l[i]'hi).e].all Zay):=rfl;unfold Zkc bxH;rw[e,ef];clear q1 q2 q3 e ef hrow;generalize (F&&(h.l.take i).all Zg5)=G at *
  generalize [(h.l[i]'hi).t,(h.l[i]'hi).h,(h.l[i]'hi).w,(h.l[i]'hi).e].all Zay=A at *
  generalize (h.l[i]'hi).y.all Zay=B at *
  have hga:h.l[i]? = some (h.l[i]'hi):=Ya hi;generalize hq:h.l[i]'hi=q at *
  obtain⟨L,t,y⟩:=h;obtain⟨q1,q2,q3,q4,q5,q6⟩:=q;dsimp only at *
  cases G
  ·simp -implicitDefEqProofs[l685_1,hi,hi',hws,hq,hga]
  ·cases B<;>simp -implicitDefEqProofs[l685_1,hi,hi',hws,hq,hga,c1,c2]
 ·unfold Zkc bxH;rw[Ya5];obtain⟨L,t,y⟩:=h;dsimp only at *
  constructor<;>simp -implicitDefEqProofs[l685_1]
end
def zfj{x:Fz}(h:Zay x=true):shQ (fv x):=by
 unfold Zay at h;simp only[Yk,decide_eq_true_eq]at h;exact h
section
variable{T:Tbl}[Zaf T][Zn T][Zw T][Zz T][Zr T][Zv T][Zp T][Zat T][Zg T][Zm T][Zy T][Zcr T][Za1 T][Zbp T][Zdg T][Zap T][Zcj T][Zd7 T][Zcx T][Zcc T][Zdj T][Zf0 T][Zfx T][Za5 T][Zb3 T][Ze3 T][Zar T][Zfy T][Ze9 T][Zbi T][Zfz T][Zg1 T]
variable[Za2 T][Za3 T][Zas T][Zbq T][Za4 T][Zbz T][Zbj T][Zbk T][Zg2 T][Zck T][Zh7 T][Zhh T][Zdm T][Zdn T][Zhx T][Zhy T][Zcd T]
def zrm(a:Hs):Zb T 685 [ehs a]=some (.b true):=by
 have hw:=zof (T:=T);have la:=zrt (T:=T) a 8 5 (by decide);simp only[Int.cast_ofNat_Int]at la;rw[zaa Zcd.h685 rfl,b685];cases hA:Zia a 8 5 with
 | true=>
  rw[hA]at la;obtain⟨aL,⟨a1,a2,a3⟩,ay⟩:=a;simp -implicitDefEqProofs[la,hw]
 | false=>
 rw[hA]at la;obtain⟨sa,na,ya,ra⟩:=zog hA (by decide);have t1:=zxy (T:=T) a sa.len sa.rl sa.yl;have rg:=zr0 (T:=T) a (sa.up (by decide));cases hR:Ziu a with
 | false=>
  rw[hR]at rg;obtain⟨aL,⟨a1,a2,a3⟩,ay⟩:=a;simp -implicitDefEqProofs[la,hw,t1,rg]
 | true=>
 rw[hR]at rg;have hW:Zda a=0:=of_decide_eq_true hR;have hp:Zf3 a=true/\Zf4 a=true:=by
  unfold Zda at hW;split at hW
  ·exact absurd hW (by decide)
  ·split at hW
   ·exact absurd hW (by decide)
   ·split at hW
    ·exact absurd hW (by decide)
    ·split at hW
     ·exact absurd hW (by decide)
     ·split at hW
      ·exact absurd hW (by decide)
      ·next h1 _ _ _ h5=>exact⟨by simpa using h1,by simpa using h5⟩
 obtain⟨hpl,hch⟩:=hp;have k:∀x:Fz,Zct x=true->fsz x<=5->x=fz (fv x)/\sz (fv x)<=30:=fun x h1 h2=>by
  have:=zoo (x:=x) (L:=5) h2 (by decide);exact⟨of_decide_eq_true h1,by omega⟩
 unfold Zf3 Zq at hpl;simp only[Yk,Yl]at hpl;obtain⟨p1,p2,p3⟩:=hpl;have kt:=k _ p2 sa.t;have ky:∀x∈a.y,x=fz (fv x)/\sz (fv x)<=30:=fun x hx=>k x (p3 x hx) (sa.y x hx);have kr:∀r∈a.l,(∀x∈r.nums,x=fz (fv x)/\sz (fv x)<=30)/\∀x∈r.y,x=fz (fv x)/\sz (fv x)<=30:=fun r hr=>
  ⟨fun x hx=>k x ((p1 r hr).1 x hx) (sa.rt r hr x hx),fun x hx=>k x ((p1 r hr).2 x hx) (sa.ry r hr x hx)⟩
 have nd:=zr2 (T:=T) a (sa.up (by decide));have z1:=zx5 (T:=T) a (sa.up (by decide));rw[z1g]at nd;rw[z6u]at z1;have hVl:(Zb4 a.l a.t).length=(Zcm a.l).length+1:=by unfold Zb4 Zcm;simp
 have hYl:(Zgf a).length=(Zcm a.l).length+1:=by unfold Zgf Zcm Zb6;simp
 have hHl:(Zcm a.l).length<=8:=by
  have:=Yda (fun r:Trr=>r.ok) a.l;unfold Zcm;rw[Yw];omega
 have bV:∀q∈Zb4 a.l a.t,sz q<=30:=fun q hq=>by
  unfold Zb4 at hq;rcases Yaj.1 hq with hq | hq
  ·obtain⟨r,hr,rfl⟩:=Yy.1 hq;exact((kr r (Ydm.1 hr).1).1 r.t (by simp[Trr.nums])).2
  ·rw[Yab.1 hq];exact kt.2
 have bH:∀q∈Zcm a.l,sz q<=30:=fun q hq=>by
  unfold Zcm at hq;obtain⟨r,hr,rfl⟩:=Yy.1 hq;exact((kr r (Ydm.1 hr).1).1 r.h (by simp[Trr.nums])).2
 have lp1:=zu9 (T:=T) a (Zb4 a.l a.t) (Zcm a.l) (by omega) hVl (fun i hi=>zu8 hch i hi) (fun q hq=>Yd (bV q hq) (by decide)) (fun q hq=>Yd (bH q hq) (by decide));have c1:=zdr (T:=T) (fzs (Zb4 a.l a.t)) (by unfold fzs;rw[Yw];omega) (fun x hx=>by
  obtain⟨q,hq,rfl⟩:=Yy.1 hx;exact⟨by rw[zf6],by rw[zf6];have:=bV q hq;omega⟩)
 have lp2:=fun F=>zva (T:=T) a F sa.len (fun r hr=>⟨fun x hx=>⟨((kr r hr).1 x hx).1,Yd ((kr r hr).1 x hx).2 (by decide)⟩,fun x hx=>⟨((kr r hr).2 x hx).1,Yd ((kr r hr).2 x hx).2 (by decide)⟩,sa.rl r hr⟩);have c2:=zdr (T:=T) a.y sa.yl (fun x hx=>⟨(ky x hx).1,Yd (ky x hx).2 (by decide)⟩);have g0:(Zb4 a.l a.t).getD 0 0=(Zb4 a.l a.t).head?.getD 0:=by cases Zb4 a.l a.t<;>rfl
 have hfl:(fzs (Zb4 a.l a.t)).length=(Zcm a.l).length+1:=by unfold fzs;rw[Yw];exact hVl
 have hfh:(fzs (Zcm a.l)).length=(Zcm a.l).length:=by unfold fzs;rw[Yw]
 have hml:(Z4 (Zgf a)).length=(Zcm a.l).length+1:=by rw[zoq];exact hYl
 have hg:∃f,(fzs (Zb4 a.l a.t))[0]? = some f/\f=fz ((Zb4 a.l a.t).getD 0 0):=by
  cases hv:Zb4 a.l a.t with
  | nil=>rw[hv]at hVl;simp at hVl
  | cons v V=>exact⟨fz v,rfl,rfl⟩
 obtain⟨f0,hg1,hg2⟩:=hg;have x1:Zb T 689 [ehs a]=some (.s (Za9 a)):=by
  rw[p689,zjw _ (zrn (sa.up (by decide)) (by omega) (by omega) (fun r hr=>Yd (ra r hr) (by decide)))]
 have s1:=zvm (T:=T) a a (sa.up (by decide)) (sa.up (by decide));rw[decide_eq_true rfl]at s1;have rd:((fzs (Zb4 a.l a.t)).all Zay&&a.l.all Zg5)=true->a.y.all Zay=true->Zb T 693 [.s (Za9 a)]=some (.tup [ehs a,flt 0 0]):=fun h1 h2=>by
  simp only[Yk,Yl]at h1 h2;obtain⟨h1,h3⟩:=h1;have hh:RdH a:=by
   refine⟨by omega,⟨kt.1,?_⟩,fun x hx=>⟨(ky x hx).1,zfj (h2 x hx)⟩,ya,fun r hr x hx=>⟨((kr r hr).1 x hx).1,?_⟩,fun r hr x hx=>⟨((kr r hr).2 x hx).1,?_⟩,ra⟩
   ·have:=zfj (h1 (fz (fv a.t)) (by unfold fzs Zb4;simp))
    rwa [zf6]at this
   ·have q:=h3 r hr;unfold Zg5 at q;simp only[Yk,Yl]at q;exact zfj (q.2 x (by
     simp only[Trr.nums,Yn,Yay,or_false]at hx ⊢;rcases hx with h | h | h | h<;>simp[h]))
   ·have q:=h3 r hr;unfold Zg5 at q;simp only[Yk,Yl]at q;exact zfj (q.1 x hx)
  have:=zh5 (T:=T) a hh (sa.up (by decide))
  rwa [hW,if_pos rfl]at this
 have hk1:wkL (Zc (fzs (Zb4 a.l a.t)))=Zc (fzs (Zb4 a.l a.t)):=zea _;have hk2:wkL (Zc (fzs (Zcm a.l)))=Zc (fzs (Zcm a.l)):=zea _;have hk3:wkL (Z4 (Zgf a))=Z4 (Zgf a):=zwi _;have n1:IntKind.wrap .i64 (((Zcm a.l).length:Int)+1)=((Zcm a.l).length:Int)+1:=zab _ (by omega);have n2:(0:Int)<((Zcm a.l).length:Int)+1:=by omega
 obtain⟨hb0,hg1'⟩:=Yr.1 hg1;unfold Zkb bxH at lp1;unfold Zkc bxH at lp2;rw[<-hg2]at lp1;simp only[Y8,Ycf,Ycd,Ydj]at lp1 lp2;clear k kt ky kr bV bH p1 p2 p3 hch hg2 g0 hVl hYl sa na ya ra hR hA;generalize (fzs (Zb4 a.l a.t)).all Zay=F1 at *
 generalize a.l.all Zg5=F2 at *
 generalize a.y.all Zay=F3 at *
 generalize fzs (Zb4 a.l a.t)=V at *
 generalize fzs (Zcm a.l)=H at *
 generalize Z4 (Zgf a)=Y at *
 generalize (Zcm a.l).length=n at *
 generalize Za9 a=TX at *
 replace lp2:=lp2 F1;obtain⟨aL,⟨a1,a2,a3⟩,ay⟩:=a;obtain⟨f1,f2,f3⟩:=f0;dsimp only at *
 cases F1 with
 | false=>simp -implicitDefEqProofs[la,t1,rg,nd,z1,lp1,lp2,c1,hfl,hfh,hml,hg1,hg1',hk1,hk2,hk3,n1,n2,hw]
 | true=>
  cases F2 with
  | false=>simp -implicitDefEqProofs[la,t1,rg,nd,z1,lp1,lp2,c1,hfl,hfh,hml,hg1,hg1',hk1,hk2,hk3,n1,n2,hw]
  | true=>
   cases F3 with
   | false=>simp -implicitDefEqProofs[la,t1,rg,nd,z1,lp1,lp2,c1,hfl,hfh,hml,hg1,hg1',hk1,hk2,hk3,n1,n2,hw,c2]
   | true=>
    have r:=rd rfl rfl;simp -implicitDefEqProofs[flt,la,t1,rg,nd,z1,lp1,lp2,c1,hfl,hfh,hml,hg1,hg1',hk1,hk2,hk3,n1,n2,hw,c2,r,x1,s1]
end
end Go.Ab