/-
  A calculus of values, boxes and code, and what functions of the program compute, proved in it.
  Conditions: none beyond those that the theorems state. (Part 11.)
-/
import Derived.Test.YtmojeopgpabkhaaGreatDoorPart10
import Derived.Test.YtmojeopgpabkhaaGreatDoorProg
import Derived.KernelRfl
import Derived.Shelf.RegionOpenPlain
import Derived.Lib.Strings
import Derived.Lib.Slices
import Derived.Lib.Walk
import Derived.Lib.Builder
import Derived.Lib.AppendStr
import Derived.Lib.UnsafeStr
import Derived.Lib.MakeNoZero
import Derived.WalkKit
import Derived.Laws.Externs
import Derived.Laws.IdiomCopy
import Derived.Laws.BitsLemmas
import GoSem.Claims
import Derived.Deep.LoopGhost
import Derived.Shelf.Strings.Builder1
import Derived.Shelf.Strings.Builder2
import Derived.Shelf.Strings.OnBuilder
import Derived.ProofKit
import Derived.OpenShut
import Derived.Test.YtmojeopgpabkhaaGreatDoorRows
import Derived.Test.YtmojeopgpabkhaaGreatDoorCards
import Derived.Test.YtmojeopgpabkhaaGreatDoorTie
import Derived.LaidMore
import Derived.Stop.Joined
import Derived.SevenTiedAt
import Derived.Lib.LaidU8

set_option linter.unusedSectionVars false
set_option linter.unusedVariables false
set_option linter.unusedSimpArgs false
set_option linter.unnecessarySimpa false
set_option linter.defProp false
set_option maxRecDepth 100000

section
namespace Go.Proofs.YtmojeopgpabkhaaGreatDoor
open Go Go.Ab
set_option maxRecDepth 100000
def nus:List (Nat×Nat):=[(10,4),(12,27),(13,7),(23,120),(25,95),(27,96),(34,62),(36,55),(37,94),(38,117),(40,118),(41,33),(45,48),(46,22),(47,49),(48,50),(53,79),(55,57),(56,139),(57,140),(60,121),(62,138),(68,64),(70,93),(71,105),(72,34),(73,149),(74,42),(75,43),(76,45),(77,80),(78,81),(85,154),(86,58),(87,63),(88,155),(89,141),(90,100),(91,142),(93,152),(94,153),(101,101),(103,102),(106,133),(107,68),(108,69),(109,112),(110,113),(111,114),(112,115),(115,166),(116,167),(117,156),(118,126),(119,163),(120,164),(121,165),(125,127),(126,128),(127,129),(128,130),(129,106),(183,39),(198,150),(199,136),(200,137),(201,116),(202,82),(203,54),(204,107),(205,16),(207,51),(208,173),(209,109),(210,56),(211,32),(212,13),(213,85),(215,87),(216,88),(217,89),(218,90),(219,119),(220,86),(223,91),(247,14),(248,20),(251,38),(263,78),(264,47),(265,40),(274,18),(286,15),(287,21),(290,99),(291,98),(293,41),(294,61),(356,122),(380,5),(383,8),(384,73),(388,60),(397,46),(399,6),(401,19),(403,10),(404,17),(405,28),(406,30),(407,108),(408,97),(410,74),(411,53),(412,75),(413,76),(414,77),(415,25),(416,26),(417,35),(418,36),(419,37),(420,29),(421,134),(422,135),(423,123),(424,124),(425,125),(426,92),(427,110),(428,111),(429,59),(430,147),(431,148),(432,143),(433,160),(434,161),(435,162),(436,157),(437,172),(438,174),(439,175),(441,195),(442,196),(443,197),(444,198),(445,199),(446,200),(447,201),(448,202),(449,203),(450,204),(451,205),(452,206),(453,207),(454,208),(455,209),(456,210),(462,12),(473,31),(484,52),(489,83),(490,84),(646,9),(647,23),(648,24),(649,44),(650,70),(651,71),(699,3),(700,11),(2071,105),(2092,151),(2106,133),(2263,78),(2395,72)]
def nu(u:Nat):FuncId:=(nus.lookup u).getD 0
def row1000001:AFx:=⟨201,0,meths1,.bad,none,false⟩
def row1000002:AFx:=⟨220,0,meths2,.bad,none,false⟩
def row1500424:AFx:=⟨124,424,[],.bad,none,false⟩
def row1500416:AFx:=⟨26,416,[],.bad,none,false⟩
def row1500418:AFx:=⟨36,418,[],.bad,none,false⟩
def Ze4(P:Program)(ν:Nat->FuncId)(τ:Nat->Nat)(u:Nat)(af:AFx):Prop:=
 match af.body.isPrim with
 | some f=>∀xs r,f xs=some r->Zbq P (ν u) xs (·=r)
 | none=>if af.body.isBad=true then (∀m∈Zga af,Zd5 P af.np m.1=some (ν m.2))/\(af.res.isEmpty=true->af.np=ν af.nt) else Zdo P (ν u)=some (erF ν τ af)
def ok_pr{P:Program}{ν:Nat->FuncId}{τ:Nat->Nat}{u:Nat}{af:AFx}{f:List AV->Option AV}(h0:af.body.isPrim=some f)(h:∀xs r,f xs=some r->Zbq P (ν u) xs (·=r)):Ze4 P ν τ u af:=by unfold Ze4;rw[h0];exact h
def ok_fn{P:Program}{ν:Nat->FuncId}{τ:Nat->Nat}{u:Nat}{af:AFx}(h0:af.body.isPrim=none)(h1:af.body.isBad=false)(h:Zdo P (ν u)=some (erF ν τ af)):Ze4 P ν τ u af:=by unfold Ze4;rw[h0];simp only[h1];exact h
def ok_ty{P:Program}{ν:Nat->FuncId}{τ:Nat->Nat}{u:Nat}{af:AFx}(h0:af.body.isPrim=none)(h1:af.body.isBad=true)(h:((Zga af).all fun m=>Zd5 P af.np m.1 == some (ν m.2))=true)(h2:(!af.res.isEmpty || af.np == ν af.nt)=true):Ze4 P ν τ u af:=by unfold Ze4;rw[h0];simp only[h1,if_true];exact⟨fun m hm=>eq_of_beq (List.all_eq_true.1 h m hm),fun he=>by rw[he]at h2;exact eq_of_beq (by simpa using h2)⟩
def ok_cons{P:Program}{ν:Nat->FuncId}{τ:Nat->Nat}{u:Nat}{af:AFx}{l:List (Nat×AFx)}(h:Ze4 P ν τ u af)(hl:∀p∈l,Ze4 P ν τ p.1 p.2) :
  ∀p∈(u,af)::l,Ze4 P ν τ p.1 p.2:=by
 intro p hp;rcases List.mem_cons.1 hp with rfl | hp
 ·exact h
 ·exact hl p hp
def ok_lookup{P:Program}{ν:Nat->FuncId}{l:List (Nat×AFx)}(hl:∀p∈l,Ze4 P ν (Zf fun u=>l.lookup u) p.1 p.2):TOk P ν (fun u=>l.lookup u):=fun _ _ h=>hl _ (zeg h)
def sub_cons{l l2:List (Nat×AFx)}{u:Nat}{af:AFx}(h:l.lookup u=some af)(h2:∀p∈l2,l.lookup p.1=some p.2):∀p∈(u,af)::l2,l.lookup p.1=some p.2:=by
 intro p hp;rcases List.mem_cons.1 hp with rfl | hp
 ·exact h
 ·exact h2 p hp
def pT(i:Nat):List (Nat×AFx):=match i with
 | 0=>[(115,row115),(116,row116),(117,row117),(118,row118),(91,row91),(86,row86),(106,row106),(71,row71),(72,row72),(73,row73),(70,row70),(87,row87),(85,row85),(56,row56),(88,row88),(57,row57),(2106,row2106),(89,row89),(60,row60),(94,row94),(90,row90),(119,row119),(120,row120),(121,row121),(93,row93)]
 | 1=>[(2071,row2071),(2092,row2092),(62,row62),(55,row55),(38,row38),(40,row40),(23,row23),(25,row25),(27,row27),(37,row37),(41,row41),(36,row36),(34,row34),(198,row198),(199,row199),(200,row200),(201,row201),(202,row202),(203,row203),(205,row205),(207,row207),(209,row209),(210,row210),(211,row211),(212,row212)]
 | 2=>[(213,row213),(215,row215),(216,row216),(217,row217),(218,row218),(204,row204),(208,row208),(219,row219),(220,row220),(223,row223),(356,row356),(251,row251),(263,row263),(264,row264),(265,row265),(274,row274),(2263,row2263),(247,row247),(286,row286),(248,row248),(287,row287),(421,row421),(430,row430),(433,row433),(434,row434)]
 | 3=>[(435,row435),(437,row437),(438,row438),(439,row439),(406,row406),(411,row411),(426,row426),(413,row413),(405,row405),(420,row420),(490,row490),(489,row489),(484,row484),(473,row473),(462,row462),(384,row384),(407,row407),(422,row422),(431,row431),(441,row441),(442,row442),(443,row443),(444,row444),(445,row445),(446,row446)]
 | 4=>[(447,row447),(448,row448),(380,row380),(383,row383),(129,row129),(76,row76),(74,row74),(108,row108),(107,row107),(75,row75),(46,row46),(10,row10),(13,row13),(109,row109),(48,row48),(110,row110),(111,row111),(112,row112),(78,row78),(77,row77),(53,row53),(47,row47),(45,row45),(12,row12),(646,row646)]
 | 5=>[(647,row647),(648,row648),(649,row649),(650,row650),(651,row651),(290,row290),(291,row291),(293,row293),(294,row294),(397,row397),(410,row410),(412,row412),(414,row414),(427,row427),(428,row428),(2395,row2395),(388,row388),(408,row408),(423,row423),(424,row424),(425,row425),(432,row432),(436,row436),(449,row449),(450,row450)]
 | 6=>[(451,row451),(452,row452),(453,row453),(454,row454),(455,row455),(456,row456),(401,row401),(403,row403),(404,row404),(415,row415),(416,row416),(417,row417),(418,row418),(419,row419),(429,row429),(399,row399),(699,row699),(700,row700)]
 | _=>[]
def Zqo:List (Nat×AFx):=[(68,row68),(183,row183),(1000001,row1000001),(1000002,row1000002),(1500424,row1500424),(1500416,row1500416),(1500418,row1500418)]
def lTab:List (Nat×AFx):=pT 0++pT 1++pT 2++pT 3++pT 4++pT 5++pT 6++Zqo
def gTab:List (Nat×AFx):=lTab++[(92,row92),(101,row101),(103,row103),(125,row125)]
def tab:Tbl:=fun u=>gTab.lookup u
def Zk4:Nat->Nat:=Zf fun u=>lTab.lookup u
def resl_1000001:((Zga row1000001).all fun m=>Zd5 Tryz.prog row1000001.np m.1 == some (nu m.2))=true:=by kernel_rfl
def resl_1000002:((Zga row1000002).all fun m=>Zd5 Tryz.prog row1000002.np m.1 == some (nu m.2))=true:=by kernel_rfl
def resl_1500424:(!row1500424.res.isEmpty || row1500424.np == nu row1500424.nt)=true:=by kernel_rfl
def resl_1500416:(!row1500416.res.isEmpty || row1500416.np == nu row1500416.nt)=true:=by kernel_rfl
def resl_1500418:(!row1500418.res.isEmpty || row1500418.np == nu row1500418.nt)=true:=by kernel_rfl
def Zdh(l:List (Nat×AFx)):Prop:=(l.map fun p=>Zdo Tryz.prog (nu p.1))=l.map fun p=>some (erF nu Zk4 p.2)
def res_mem{l:List (Nat×AFx)}(h:Zdh l)(h2:(l.all fun p=>p.2.body.isPrim.isNone&&!p.2.body.isBad)=true):∀p∈l,Ze4 Tryz.prog nu Zk4 p.1 p.2:=by
 intro p hp;have h3:=List.all_eq_true.1 h2 p hp;simp only[Bool.and_eq_true,Option.isNone_iff_eq_none,Bool.not_eq_true']at h3;exact ok_fn h3.1 h3.2 (List.map_inj_left.1 h p hp)
def ok_app{l r:List (Nat×AFx)}(h1:∀p∈l,Ze4 Tryz.prog nu Zk4 p.1 p.2)(h2:∀p∈r,Ze4 Tryz.prog nu Zk4 p.1 p.2):∀p∈l++r,Ze4 Tryz.prog nu Zk4 p.1 p.2:=fun p hp=>(List.mem_append.1 hp).elim (h1 p) (h2 p)
def res0:Zdh (pT 0):=by unfold Zdh;kernel_rfl
def res1:Zdh (pT 1):=by unfold Zdh;kernel_rfl
def res2:Zdh (pT 2):=by unfold Zdh;kernel_rfl
def res3:Zdh (pT 3):=by unfold Zdh;kernel_rfl
def res4:Zdh (pT 4):=by unfold Zdh;kernel_rfl
def res5:Zdh (pT 5):=by unfold Zdh;kernel_rfl
def res6:Zdh (pT 6):=by unfold Zdh;kernel_rfl
def lTab_ok(hp68:∀xs r,prim68 xs=some r->Zbq Tryz.prog (nu 68) xs (·=r))(hp183:∀xs r,prim183 xs=some r->Zbq Tryz.prog (nu 183) xs (·=r)):TOk Tryz.prog nu (fun u=>lTab.lookup u):=ok_lookup (ok_app (ok_app (ok_app (ok_app (ok_app (ok_app (ok_app (res_mem res0 (by kernel_rfl)) (res_mem res1 (by kernel_rfl))) (res_mem res2 (by kernel_rfl))) (res_mem res3 (by kernel_rfl))) (res_mem res4 (by kernel_rfl))) (res_mem res5 (by kernel_rfl))) (res_mem res6 (by kernel_rfl))) (ok_cons (ok_pr rfl hp68) (ok_cons (ok_pr rfl hp183) (ok_cons (ok_ty rfl rfl resl_1000001 rfl) (ok_cons (ok_ty rfl rfl resl_1000002 rfl) (ok_cons (ok_ty rfl rfl rfl resl_1500424) (ok_cons (ok_ty rfl rfl rfl resl_1500416) (ok_cons (ok_ty rfl rfl rfl resl_1500418) (fun p hp=>by cases hp)))))))))
def Zni:List Nat->Bool
 | []=>true
 | a::l=>!l.contains a&&Zni l
def sub_app{l r:List (Nat×AFx)}(h:Zni (l.map (·.1))=true):∀p∈l,(l++r).lookup p.1=some p.2:=by
 induction l with
 | nil=>intro p hp;cases hp
 | cons a l ih=>
  intro p hp;obtain⟨k,v⟩:=a;simp only[List.map_cons,Zni,Bool.and_eq_true,Bool.not_eq_true']at h;rcases List.mem_cons.1 hp with rfl | hq
  ·simp
  ·have hne:(p.1 == k)=false:=by
    cases hb:p.1 == k with
    | false=>rfl
    | true=>
     have:=eq_of_beq hb;subst this;have h5:(l.map (·.1)).contains p.1=true:=List.contains_iff_mem.2 (List.mem_map.2 ⟨p,hq,rfl⟩);rw[h5]at h;cases h.1
   rw[List.cons_append,List.lookup_cons,hne];exact ih h.2 p hq
def lTab_part:Part gTab lTab:=⟨sub_app (by kernel_rfl),by kernel_rfl⟩
def sTab:List (Nat×AFx):=[(118,row118),(86,row86),(106,row106),(71,row71),(70,row70),(90,row90),(101,row101),(103,row103),(125,row125)]
def Zhp:Nat->Nat:=Zf fun u=>sTab.lookup u
def ress_118:Zdo Tryz.prog (nu 118)=some (erF nu Zhp row118):=by kernel_rfl
def ress_86:Zdo Tryz.prog (nu 86)=some (erF nu Zhp row86):=by kernel_rfl
def ress_106:Zdo Tryz.prog (nu 106)=some (erF nu Zhp row106):=by kernel_rfl
def ress_71:Zdo Tryz.prog (nu 71)=some (erF nu Zhp row71):=by kernel_rfl
def ress_70:Zdo Tryz.prog (nu 70)=some (erF nu Zhp row70):=by kernel_rfl
def ress_90:Zdo Tryz.prog (nu 90)=some (erF nu Zhp row90):=by kernel_rfl
def ress_101:Zdo Tryz.prog (nu 101)=some (erF nu Zhp row101):=by kernel_rfl
def ress_103:Zdo Tryz.prog (nu 103)=some (erF nu Zhp row103):=by kernel_rfl
def ress_125:Zdo Tryz.prog (nu 125)=some (erF nu Zhp row125):=by kernel_rfl
def sTab_ok:TOk Tryz.prog nu (fun u=>sTab.lookup u):=ok_lookup (ok_cons (ok_fn rfl rfl ress_118) (ok_cons (ok_fn rfl rfl ress_86) (ok_cons (ok_fn rfl rfl ress_106) (ok_cons (ok_fn rfl rfl ress_71) (ok_cons (ok_fn rfl rfl ress_70) (ok_cons (ok_fn rfl rfl ress_90) (ok_cons (ok_fn rfl rfl ress_101) (ok_cons (ok_fn rfl rfl ress_103) (ok_cons (ok_fn rfl rfl ress_125) (fun p hp=>by cases hp))))))))))
def sTab_part:Part gTab sTab:=⟨sub_cons (by kernel_rfl) (sub_cons (by kernel_rfl) (sub_cons (by kernel_rfl) (sub_cons (by kernel_rfl) (sub_cons (by kernel_rfl) (sub_cons (by kernel_rfl) (sub_cons (by kernel_rfl) (sub_cons (by kernel_rfl) (sub_cons (by kernel_rfl) (fun p hp=>by cases hp))))))))),by kernel_rfl⟩
instance:Z2 tab:=⟨by kernel_rfl,by kernel_rfl,by kernel_rfl,by kernel_rfl,by kernel_rfl⟩
instance:Zr tab where
 h115:=by kernel_rfl
 h116:=by kernel_rfl
 h117:=by kernel_rfl
 h118:=by kernel_rfl
 h91:=by kernel_rfl
 h86:=by kernel_rfl
 h106:=by kernel_rfl
 h71:=by kernel_rfl
 h72:=by kernel_rfl
 h73:=by kernel_rfl
 h70:=by kernel_rfl
 h87:=by kernel_rfl
 h85:=by kernel_rfl
 h56:=by kernel_rfl
 h88:=by kernel_rfl
 h57:=by kernel_rfl
 h2106:=by kernel_rfl
instance:Zv tab where
 h115:=by kernel_rfl
 h116:=by kernel_rfl
 h117:=by kernel_rfl
 h118:=by kernel_rfl
 h91:=by kernel_rfl
 h86:=by kernel_rfl
 h106:=by kernel_rfl
 h71:=by kernel_rfl
 h72:=by kernel_rfl
 h73:=by kernel_rfl
 h70:=by kernel_rfl
 h87:=by kernel_rfl
 h85:=by kernel_rfl
 h56:=by kernel_rfl
 h88:=by kernel_rfl
 h57:=by kernel_rfl
 h2106:=by kernel_rfl
 h89:=by kernel_rfl
 h60:=by kernel_rfl
instance:Zw tab:=⟨by kernel_rfl,by kernel_rfl⟩
instance:Zq tab:=⟨by kernel_rfl,by kernel_rfl,by kernel_rfl,by kernel_rfl,by kernel_rfl⟩
instance:Zo tab:=⟨by kernel_rfl,by kernel_rfl,by kernel_rfl⟩
instance:Zaj tab:=⟨by kernel_rfl⟩
instance:Z9 tab:=⟨by kernel_rfl⟩
instance:Zjv tab:=⟨by kernel_rfl,by kernel_rfl⟩
instance:Ze tab:=⟨by kernel_rfl,by kernel_rfl,by kernel_rfl,by kernel_rfl,by kernel_rfl,by kernel_rfl,by kernel_rfl,by kernel_rfl,by kernel_rfl,by kernel_rfl⟩
instance:Zh tab:=⟨by kernel_rfl,by kernel_rfl,by kernel_rfl,by kernel_rfl⟩
instance:Zs tab:=⟨by kernel_rfl,by kernel_rfl,by kernel_rfl,by kernel_rfl,by kernel_rfl,by kernel_rfl,by kernel_rfl,by kernel_rfl,by kernel_rfl,by kernel_rfl,by kernel_rfl,by kernel_rfl,by kernel_rfl⟩
instance:Zbv tab:=⟨by kernel_rfl⟩
instance:Z0 tab:=⟨by kernel_rfl,by kernel_rfl,by kernel_rfl⟩
instance:Z5 tab:=⟨by kernel_rfl⟩
instance:Zbk tab:=⟨by kernel_rfl⟩
instance:Za5 tab:=⟨by kernel_rfl⟩
instance:Zb8 tab:=⟨by kernel_rfl,by kernel_rfl,by kernel_rfl,by kernel_rfl,by kernel_rfl,by kernel_rfl⟩
instance:Zny tab where
instance:Znz tab where
instance:Zb1 tab where
instance:Zb2 tab where
instance:Zbm tab where
instance:Zc7 tab where
instance:Zb3 tab where
instance:Zdf tab where
instance:Zc0 tab:=⟨by kernel_rfl⟩
instance:Zc1 tab:=⟨by kernel_rfl⟩
instance:Zd6 tab:=⟨by kernel_rfl⟩
instance:Zd7 tab:=⟨by kernel_rfl⟩
instance:Z7 tab:=⟨by kernel_rfl,by kernel_rfl,by kernel_rfl,by kernel_rfl,by kernel_rfl,by kernel_rfl,by kernel_rfl,by kernel_rfl⟩
instance:Z3 tab:=⟨by kernel_rfl,by kernel_rfl,by kernel_rfl,by kernel_rfl⟩
instance:Zak tab:=⟨by kernel_rfl,by kernel_rfl⟩
instance:Zao tab:=⟨by kernel_rfl,by kernel_rfl,by kernel_rfl,by kernel_rfl,by kernel_rfl⟩
instance:Zbf tab:=⟨by kernel_rfl,by kernel_rfl,by kernel_rfl,by kernel_rfl,by kernel_rfl,by kernel_rfl,by kernel_rfl,by kernel_rfl,by kernel_rfl,by kernel_rfl,by kernel_rfl,by kernel_rfl⟩
instance:Zgd tab where
 h1:=⟨201,by kernel_rfl⟩
instance:Zd8 tab:=⟨by kernel_rfl,by kernel_rfl⟩
instance:Zcs tab:=⟨by kernel_rfl⟩
instance:Zax tab:=⟨by kernel_rfl,by kernel_rfl,by kernel_rfl,by kernel_rfl,by kernel_rfl,by kernel_rfl⟩
instance:Zd9 tab:=⟨by kernel_rfl⟩
instance:Ze9 tab:=⟨by kernel_rfl⟩
instance:Zka tab where
instance:Za4 tab:=⟨by kernel_rfl,by kernel_rfl,by kernel_rfl,by kernel_rfl,by kernel_rfl,by kernel_rfl,by kernel_rfl,by kernel_rfl,by kernel_rfl,by kernel_rfl,by kernel_rfl⟩
instance:Zbs tab:=⟨by kernel_rfl,by kernel_rfl,by kernel_rfl,by kernel_rfl,by kernel_rfl,by kernel_rfl⟩
instance:Zer tab:=⟨by kernel_rfl,by kernel_rfl,by kernel_rfl,by kernel_rfl⟩
instance:Zai tab:=⟨by kernel_rfl,by kernel_rfl,by kernel_rfl,by kernel_rfl,by kernel_rfl,by kernel_rfl,by kernel_rfl⟩
instance:Z6 tab:=⟨by kernel_rfl,by kernel_rfl,by kernel_rfl,by kernel_rfl,by kernel_rfl,by kernel_rfl,by kernel_rfl,by kernel_rfl,by kernel_rfl,by kernel_rfl,by kernel_rfl,by kernel_rfl,by kernel_rfl,by kernel_rfl,by kernel_rfl⟩
instance:Zfm tab where
 h2:=⟨220,by kernel_rfl⟩
instance:Zdl tab where
 h1500424:=⟨124,by decide,by kernel_rfl⟩
instance:Zal tab:=⟨by kernel_rfl,by kernel_rfl,by kernel_rfl,by kernel_rfl,by kernel_rfl,by kernel_rfl,by kernel_rfl,by kernel_rfl,by kernel_rfl⟩
instance:Ze7 tab where
 h1500416:=⟨26,by decide,by kernel_rfl⟩
instance:Ze8 tab where
 h1500418:=⟨36,by decide,by kernel_rfl⟩
instance:Zin tab where
instance:Zi5 tab:=⟨by kernel_rfl⟩
instance:Zde tab:=⟨by kernel_rfl,by kernel_rfl⟩
end Go.Proofs.YtmojeopgpabkhaaGreatDoor
end
section
namespace Go.Proofs
open Go.RowKit
def Tryz.sizeBuilder:(Tryz.prog.info? 148).map (·.size)=some 2:=by kernel_rfl
def Tryz.liesBuilder:liesAt Tryz.prog Tryz.prog.depth 148 (2/Tryz.prog.cellsOf 148) 0 148 1=true:=by kernel_rfl
def Tryz.infoByte:(Tryz.prog.info? 5).map (fun i=>(i.zero,i.size,i.bytes))=some (some (.int .u8 0),1,1):=by kernel_rfl
def Tryz.cellsByte:Tryz.prog.cellsOf 5=1:=by kernel_rfl
set_option maxHeartbeats 1000000 in
set_option maxRecDepth 100000 in
def Tryz.bString(B b:Nat)(l:List UInt8)(w:World)(h:Lib.IsBuilder 148 5 B b (Lib.byteCells l) w)(h0:l≠[]) :
  Calls Tryz.prog 67 #[.pointer (some ⟨b,0,none⟩)] w fun e w'=>e=.returned (.string ⟨l.toArray⟩)/\Below B w w':=by
 obtain⟨p,hB,v,hbk,hown,hne⟩:∃p,Lib.BuilderAt 148 5 B b p (Lib.byteCells l) w:=by
  rcases h with h | h
  ·exact⟨_,h⟩
  ·exact⟨_,h⟩
 have hl0:l.length≠0:=by simpa using h0
 rw[Lib.byteCells_length]at hown;obtain⟨g,cap,cur,rfl,hbg,hg,hnc,hcm,hcs,htake⟩:∃g cap cur,v=.slice (some ⟨g,0,none⟩) l.length cap/\B<=g/\w.heap[g]? = some (.cells cur 5 (0,0))/\l.length<=cap/\cap<=maxLen/\cur.size=cap*1/\cur.toList.take (l.length*1)=Lib.byteCells l:=by
  rcases hown.2 with ⟨_,hz⟩ | ⟨g,cap,cur,hv,r⟩
  ·exact absurd hz hl0
  ·exact⟨g,cap,cur,hv,r⟩
 have c1:w.drew.cell? ⟨b,1,none⟩=some (.slice (some ⟨g,0,none⟩) l.length cap):=by
  have:w.drew.heap[b]? = some (.cells #[p,.slice (some ⟨g,0,none⟩) l.length cap] 148 (0,0)):=hbk;rw[Lib.cell_of_heap this];rfl
 have hSD:(Builtin.unsafeSliceData_ #[146] 195 #[.slice (some ⟨g,0,none⟩) l.length cap]).run Tryz.prog w.drew=.ok (.pointer (some ⟨g,0,none⟩)) w.drew:=
  Lib.run_unsafeSliceData_row _ _ _ _ _ _ (by omega)
 have hUS:(Builtin.unsafeString_ #[195,3] 9 #[.pointer (some ⟨g,0,none⟩),.int .i64 l.length]).run Tryz.prog w.drew=.ok (.string ⟨l.toArray⟩) (w.drew.freeze ⟨g,0,none⟩ l.length):=by
  refine Lib.run_unsafeString_row w.drew 195 3 9 5 Tryz.underlying195 Tryz.cellsByte g cur.size (by have hg':w.drew.heap[g]? = some (.cells cur 5 (0,0)):=hg;simp[World.shape?,hg']) l h0 (by omega) (by unfold maxLen at hcm;omega) ?_;intro j x hx;have:=hown.cells (g:=g) rfl j (.int .u8 x.toNat) (by simp[Lib.byteCells,hx]);exact this
 go_enter Tryz.func67,Tryz.ntmps67
 go_wp2
 go_region
 all_goals (go_wp2;go_ret;exact⟨rfl,Lib.below_freeze (Below.drew (Below.refl B w)) (p:=⟨g,0,none⟩) hbg _⟩)
set_option maxHeartbeats 1000000 in
set_option maxRecDepth 100000 in
def Tryz.bCheck_used(b:Nat)(w:World)(h0:w.cell? ⟨b,0,none⟩=some (.pointer (some ⟨b,0,none⟩))) :
  Calls Tryz.prog 103 #[.pointer (some ⟨b,0,none⟩)] w fun e w'=>e=.returned (.tuple #[])/\w'=w:=by
 obtain⟨j,hj,_⟩:=Option.map_eq_some_iff.1 Tryz.sizeBuilder
 go_enter Tryz.func103,Tryz.ntmps103
 go_wp2
 rw[Lib.run_neq_ptr_same w _ Tryz.underlying145 hj]
 go_wp2
 go_end0
 exact⟨rfl,rfl⟩
set_option maxHeartbeats 1000000 in
set_option maxRecDepth 100000 in
def Tryz.bCheck_fresh(b:Nat)(w:World)(h0:w.cell? ⟨b,0,none⟩=some (.pointer none))(hsh:w.shape? b=some (148,2))(hfz:w.frozen? ⟨b,0,none⟩=false) :
  Calls Tryz.prog 103 #[.pointer (some ⟨b,0,none⟩)] w fun e w'=>e=.returned (.tuple #[])/\w'=w.setCell ⟨b,0,none⟩ (.pointer (some ⟨b,0,none⟩)):=by
 obtain⟨j,hj,hjs⟩:=Option.map_eq_some_iff.1 Tryz.sizeBuilder
 go_enter Tryz.func103,Tryz.ntmps103
 go_wp2
 rw[Lib.run_to_unsafe w ⟨b,0,none⟩ Tryz.underlying145 Tryz.underlying236 hj (by rw[hjs];decide) hsh (Nat.zero_lt_succ 1)];simp only[Result.andThen];rw[Oper.upon_value]
 go_wp2
 rw[run_callFunc_extern Tryz.func131 (by kernel_rfl) (by kernel_rfl) (by kernel_rfl) (e:=Extern.AbiNoEscape.same) (by kernel_rfl)];rw[Lib.run_noEscape];simp only[Result.andThen];rw[Oper.upon_value]
 go_wp2
 rw[Lib.run_from_unsafe w ⟨b,0,none⟩ Tryz.underlying236 Tryz.underlying145 hj hsh Tryz.liesBuilder];simp only[Result.andThen];rw[Oper.upon_value]
 go_wp2
 go_end0
 exact⟨rfl,rfl⟩
def Tryz.bCheck(B b:Nat)(bs:List Value)(w:World)(h:Lib.IsBuilder 148 5 B b bs w) :
  Calls Tryz.prog 103 #[.pointer (some ⟨b,0,none⟩)] w fun e w'=>e=.returned (.tuple #[])/\(Lib.BuilderAt 148 5 B b (.pointer (some ⟨b,0,none⟩)) bs w'/\Below B w w'):=by
 rcases h with h | h
 ·refine(Tryz.bCheck_fresh b w h.cell0 h.shape h.frozen0).mono ?_
  rintro e w' ⟨rfl,rfl⟩
  exact⟨rfl,h.used _,(Below.refl B w).setCell (p:=⟨b,0,none⟩) h.1 _⟩
 ·refine(Tryz.bCheck_used b w h.cell0).mono ?_
  rintro e w' ⟨rfl,rfl⟩
  exact⟨rfl,h,Below.refl B _⟩
set_option maxHeartbeats 2000000 in
set_option maxRecDepth 100000 in
def Tryz.bWrite(B b:Nat)(bs:List Value)(s:ByteArray)(w:World)(h:Lib.IsBuilder 148 5 B b bs w)(hlen:bs.length+s.size<=140737488355328)(hBw:B<=w.heap.size) :
  Calls Tryz.prog 66 #[.pointer (some ⟨b,0,none⟩),.string s] w fun e w'=>e=.returned (.tuple #[.int .i64 s.size,.nilIface])/\(Lib.BuilderAt 148 5 B b (.pointer (some ⟨b,0,none⟩)) (bs++Lib.strCells s) w'/\Below B w w'):=by
 obtain⟨i0,hi,hz0,hz1,hz2⟩:=info_parts Tryz.infoByte
 go_enter Tryz.func66,Tryz.ntmps66
 go_wp2_with (go_at_call 103;refine(Tryz.bCheck B b bs _ h).mono ?_)
 rintro e w1 ⟨rfl,h1,hb1⟩
 obtain⟨hB,v,hbk,hown,hne⟩:=h1;have c0:w1.cell? ⟨b,0,none⟩=some (.pointer (some ⟨b,0,none⟩)):=by rw[Lib.cell_of_heap hbk];rfl
 have c1:w1.cell? ⟨b,1,none⟩=some v:=by rw[Lib.cell_of_heap hbk];rfl
 go_wp2_with (at_builtin;refine Lib.wpList_append_own_string _ rfl _ _ 146 9 rfl B 5 i0 Tryz.underlying146 Tryz.underlying9 hi hz0 hz1 hz2 _ _ _ rfl hown s rfl ?c3 ?c4 ?c5 ?_)
 case c3=>unfold maxLen;omega
 case c4=>omega
 case c5=>have:=hb1.size;omega
 intro v' w2 hown' hgrow _;have hlt:b<w1.heap.size:=by
  rcases Nat.lt_or_ge b w1.heap.size with h' | h'
  ·exact h'
  ·simp[Array.getElem?_eq_none h']at hbk
 have hb2:w2.heap[b]? = some (.cells #[.pointer (some ⟨b,0,none⟩),v] 148 (0,0)):=by
  rw[hgrow.block b hlt (fun e=>hne e.symm)];exact hbk
 have d0:w2.cell? ⟨b,0,none⟩=some (.pointer (some ⟨b,0,none⟩)):=by rw[Lib.cell_of_heap hb2];rfl
 have d1:w2.cell? ⟨b,1,none⟩=some v:=by rw[Lib.cell_of_heap hb2];rfl
 have f1:w2.frozen? ⟨b,1,none⟩=false:=Lib.frozen_of_heap hb2 1;obtain⟨ao,n',cap,rfl⟩:∃ao n' cap,v'=.slice ao n' cap:=by
  rcases hown'.2 with ⟨hv,_⟩ | ⟨g,cap,cur,hv,_⟩
  ·exact⟨_,_,_,hv⟩
  ·exact⟨_,_,_,hv⟩
 go_wp2
 go_ret2
 refine⟨rfl,?_,?_⟩
 ·exact Lib.BuilderAt.put (T:=148) (e:=5) hB hb2 (bs':=bs++Lib.strCells s) (by simpa[Lib.strCells_length]using hown') (by decide)
 ·exact(hb1.grown hgrow (by have:=hb1.size;omega) (fun k hk=>(hown.lt k hk).1)).setCell (p:=⟨b,1,none⟩) hB _
end Go.Proofs
end
namespace Go.Ab
def pieces(n:Nat):List (List UInt8):=if h:n=0 then [] else Ze0 9 (n%1000000000)::pieces (n/1000000000)
termination_by n
decreasing_by exact Yc8 (Yat h) (by decide)
def zcs:pieces 0=[]:=by unfold pieces;simp
def zdk{n:Nat}(h:n≠0):pieces n=Ze0 9 (n%1000000000)::pieces (n/1000000000):=by
 conv=>lhs;unfold pieces
 rw[dif_neg h]
def Zeg(l:List (List UInt8)):List (List AV):=l.map fun s=>[.s s]
@[simp] def z6k(l:List (List UInt8)):(Zeg l).length=l.length:=by simp[Zeg]
@[simp] def z5e(l:List (List UInt8)):wkL (Zeg l)=Zeg l:=by
 induction l with
 | nil=>rfl
 | cons x l ih=>simpa[Zeg,wkL,wkR]using ih
def z19(l:List (List UInt8))(s:List UInt8):Zeg l++[[.s s]]=Zeg (l++[s]):=by simp[Zeg]
def txL:AX:=
 (.note
 (.seq
 (.seq
  (.reg [⟨(some 11),none,.mov (.t 0)⟩,
   ⟨(some 12),none,.call 70 [(.t 11)]⟩,
   ⟨(some 13),none,.un .not (.t 12)⟩])
  (.cond (.t 13)
  .skip
  (.exit 0)))
 (.block 1
  (.seq
  (.reg [⟨(some 15),none,.mov (.t 0)⟩,
   ⟨(some 16),none,.call 90 [(.t 15),(.c (u32 1000000000))]⟩,
   ⟨(some 14),none,.mov (.t 16)⟩,
   ⟨(some 17),none,.ext (.t 14) 0⟩,
   ⟨(some 18),none,.ext (.t 14) 1⟩,
   ⟨(some 19),none,.ext (.t 14) 2⟩,
   ⟨(some 4),none,.mov (.t 17)⟩,
   ⟨(some 5),none,.mov (.t 18)⟩,
   ⟨(some 6),none,.mov (.t 19)⟩])
  (.seq
   (.reg [⟨(some 20),none,.mov (.t 3)⟩,
    ⟨(some 21),none,.mov (.t 5)⟩,
    ⟨(some 22),none,.call 101 [(.t 21)]⟩,
    ⟨(some 23),none,.bsl 1 [(.s [])] 1 [(0,(.t 22))]⟩,
    ⟨(some 24),none,.app 1 (.t 20) (.t 23)⟩,
    ⟨(some 3),none,.mov (.t 24)⟩])
   (.reg [⟨(some 25),none,.mov (.t 4)⟩,
    ⟨(some 0),none,.mov (.t 25)⟩])))))
 (.norm false [0,3]))
def tx0:AX:=(.reg [⟨(some 2),none,.mov (.c (.s []))⟩])
def txA:AX:=
  (.seq
  (.reg [⟨(some 9),none,.mov (.t 0)⟩,
   ⟨(some 10),none,.call 70 [(.t 9)]⟩])
  (.cond (.t 10)
   (.seq
   (.reg [⟨(some 2),none,.mov (.c (.s [48]))⟩])
   (.pre (.norm false [2]) .ret))
   .skip))
def tx3:AX:=(.note (.reg [⟨(some 3),none,.mov (.c (.sl [] .nl))⟩]) (.nil 3 1))
def txP:AX:=(.lp 0 (.norm false [0,3]) txL (.norm false [3]))
section
variable{T:Tbl}
def zao5(x:AV):evX (orc T) T 0 tx0 ⟨Zd4 [x],[],1⟩=some (.n,⟨[(2,.s []),(0,x)],[],1⟩):=by
 simp -implicitDefEqProofs[tx0]
end
section
variable{T:Tbl}[Zr T]
def zagf(a:List UInt32)(hl:a.length<=1000)(h0:val a=0):evX (orc T) T 0 txA ⟨[(2,.s []),(0,.sl (Zb a) .an)],[],1⟩=some (.r,⟨[(2,.s [48])],[],2⟩):=by
 have hz:=zfr (T:=T) a (by omega);simp -implicitDefEqProofs[txA,hz,h0]
end
section
variable{T:Tbl}[Zr T]
def zagg(a:List UInt32)(hl:a.length<=1000)(h0:val a≠0):evX (orc T) T 0 txA ⟨[(2,.s []),(0,.sl (Zb a) .an)],[],1⟩ =
  some (.n,⟨[(10,.b false),(9,.sl (Zb a) .an),(2,.s []),(0,.sl (Zb a) .an)],[],1⟩):=by
 have hz:=zfr (T:=T) a (by omega);simp -implicitDefEqProofs[txA,hz,h0]
end
section
variable{T:Tbl}[Zr T][Zv T][Zw T][Zq T][Zaj T]
def Znh(a:List UInt32)(l:List (List UInt8)):St:=⟨[(0,.sl (Zb a) .an),(3,.bs (.loc 3) 1 1 0 l.length)],[((.loc 3),⟨1,.own,1,Zeg l⟩)],3⟩
def zxa(l:List (List UInt8))(s:List UInt8):wkL (List.take l.length (Zeg l)++[[AV.s s]])=Zeg (l++[s]):=by
 rw[Yc (by simp),z19,z5e]
end
section
variable{T:Tbl}[Zr T][Zq T][Zaj T]
def z5f(N:Nat)(hN:N<=4294967295)(L:List (List UInt8)):∀y:List UInt32×List (List UInt8),(y.1.length<=1000/\y.2++pieces (val y.1)=L/\L.length=N) ->
  Zx T 0 0 (Gh.norm false [3]) txL (Znh y.1 y.2)=some (.n,⟨[(3,.bs (.loc 3) 1 1 0 L.length)],[((.loc 3),⟨1,.own,1,Zeg L⟩)],3⟩):=by
 refine zbg (fun y:List UInt32×List (List UInt8)=>Znh y.1 y.2) _ (fun y=>val y.1) _ ?_
 rintro⟨a,l⟩ ⟨ha,hL,hn⟩
 simp only at ha hL hn;have hz:=zfr (T:=T) a (by omega);by_cases h0:val a=0
 ·right;rw[h0,zcs,Yau]at hL;subst hL;constructor<;>simp -implicitDefEqProofs[txL,Znh,hz,h0]
 ·left;have hq:=zp0 (T:=T) a 1000000000 (by omega) (by omega) (by omega);have hn9:=zrv (T:=T) (val a%1000000000) (by omega);have hlen:(ofN (val a/1000000000)).length<=a.length:=Ye (zbm (Ydw _ _)) (zac a);rw[zdk h0]at hL;have hll:l.length<=4294967295:=by have:=congrArg List.length hL;simp at this;omega
  refine⟨(ofN (val a/1000000000),l++[Ze0 9 (val a%1000000000)]),⟨by simp only;omega,by simp only[zae,Yz,List.singleton_append];exact hL,hn⟩,?_,?_,rfl⟩
  ·simp only[zae];exact Yc8 (Yat h0) (by decide)
  ·simp -implicitDefEqProofs[txL,Znh,hz,hq,hn9,h0,hll,zxa]
end
section
variable{T:Tbl}[Zr T][Zv T][Zw T][Zq T][Zaj T]
theorem zhg:∀k n,n<1000000000^k->(pieces n).length<=k
 | 0,n,h=>by
  have:n=0:=by omega
  subst this;simp[zcs]
 | k+1,n,h=>by
  by_cases h0:n=0
  ·subst h0;simp[zcs]
  ·rw[zdk h0];have:=zhg k (n/1000000000) (Ybh (by rw[Yas,<-Yap];exact h));simp only[Yg];omega
def zqw(a:List UInt32):(pieces (val a)).length<=2*a.length:=by
 refine zhg _ _ (Yt (za6 a) ?_);rw[Ydb];exact Yd0 (by decide) _
def zsy:∀n,∀s∈pieces n,s.length=9:=by
 intro n
 induction n using Nat.strongRecOn with
 | _ n ih=>
  intro s hs;by_cases h0:n=0
  ·subst h0;simp[zcs]at hs
  ·rw[zdk h0]at hs;rcases Yw.1 hs with rfl | hs
   ·exact zge 9 _
   ·exact ih _ (Yc8 (Yat h0) (by decide)) s hs
theorem zmp:∀(k n:Nat),n≠0->n<10^k->(Ze0 k n).dropWhile (· == 48)=Zan n
 | 0,n,h0,h=>by omega
 | k+1,n,h0,h=>by
  rw[zfb];by_cases h1:n<10
  ·have e:n/10=0:=by omega
   have e2:n%10=n:=by omega
   have hz:∀j,(Ze0 j 0).dropWhile (· == 48)=[]:=by
    intro j
    induction j with
    | zero=>rfl
    | succ j ih=>rw[zfb,Ydi,Nat.zero_div,ih];rfl
   rw[e,e2,Ydi,hz,zdw h1];have:∀d,d<10->d≠0->List.dropWhile (fun x=>x == 48) [UInt8.ofNat (48+d)]=[UInt8.ofNat (48+d)]:=by decide
   simpa using this n h1 h0
  ·have ih:=zmp k (n/10) (by omega) (Ybh (by rw[Yas,<-Yap];exact h));have hne:Zan (n/10)≠[]:=by
    unfold Zan;by_cases h2:n/10<10
    ·rw[zmi h2];simp
    ·rw[zuc h2];simp
   rw[Ydi,ih,zkr h1];rw[if_neg (by simpa using hne)]
theorem zuu(j:Nat):∀(k n:Nat),Ze0 (j+k) n=Ze0 j (n/10^k)++Ze0 k (n%10^k)
 | 0,n=>by simp[zks]
 | k+1,n=>by
  rw[<-Yav,zfb,zuu j k (n/10),zfb,Yz];have e1:n/10/10^k=n/10^(k+1):=by rw[Ycl,Yap,Yas]
  have e2:n/10%10^k=n%10^(k+1)/10:=by rw[Yap,Yas,Nat.mod_mul_right_div_self]
  have e3:n%10^(k+1)%10=n%10:=by rw[Yap,Nat.mod_mul_left_mod]
  rw[e1,e2,e3]
def zsz:∀n,(pieces n).reverse.flatten=Ze0 (9*(pieces n).length) n:=by
 intro n
 induction n using Nat.strongRecOn with
 | _ n ih=>
  by_cases h0:n=0
  ·subst h0;simp[zcs,zks]
  ·rw[zdk h0,Ya2,Ydv,ih _ (Yc8 (Yat h0) (by decide))];simp only[Yg,Yea,List.flatten_nil,Yau];rw[show 9*((pieces (n/1000000000)).length+1)=9*(pieces (n/1000000000)).length+9 by omega,zuu]
def z2a:∀n,n<10^(9*(pieces n).length):=by
 intro n
 induction n using Nat.strongRecOn with
 | _ n ih=>
  by_cases h0:n=0
  ·subst h0;simp[zcs]
  ·have h:=ih _ (Yc8 (Yat h0) (by decide:1<1000000000));rw[zdk h0,Yg,Yar,Ycs];exact(Ybc (by decide:0<10^(9*1))).1 h
def zs0(n:Nat)(h:n≠0):((pieces n).reverse.flatten).dropWhile (· == 48)=Zan n:=by
 rw[zsz];exact zmp _ n h (z2a n)
theorem zd2:∀(l:List (List UInt8)),(∀s∈l,s.length=9)->l.flatten.length=9*l.length
 | [],_=>rfl
 | s::l,h=>by
  rw[Yea,Yp,h s Yv,zd2 l fun s hs=>h s (Yk _ hs),Yg];omega
def Znu(a:List UInt32):St:=⟨[(3,.bs (.loc 3) 1 1 0 0),(3,.sl [] .nl),(10,.b false),(9,.sl (Zb a) .an),(2,.s []),(0,.sl (Zb a) .an)],[(.loc 3,⟨1,.own,1,[]⟩)],2⟩
end
section
variable{T:Tbl}
def zao6(a:List UInt32):evX (orc T) T 0 tx3 ⟨[(10,.b false),(9,.sl (Zb a) .an),(2,.s []),(0,.sl (Zb a) .an)],[],1⟩=some (.n,Znu a):=by
 simp -implicitDefEqProofs[tx3,Znu]
end
section
variable{T:Tbl}[Zr T][Zq T][Zaj T]
def zao7(a:List UInt32)(hl:a.length<=1000):evX (orc T) T 0 txP (Znu a) =
  some (.n,⟨[(3,.bs (.loc 3) 1 1 0 (pieces (val a)).length)],[((.loc 3),⟨1,.own,1,Zeg (pieces (val a))⟩)],3⟩):=by
 have hp:=zqw a;have h:=z5f (T:=T) (pieces (val a)).length (by omega) (pieces (val a)) (a,[]) ⟨by simpa using hl,rfl,rfl⟩;unfold Znh at h;simp[Zeg]at h;simp -implicitDefEqProofs[Znu,txP,h,Zeg]
end
section
variable{T:Tbl}
def zw0(res:List UInt8):∀l:List UInt8,(l.length<=1000000/\l.dropWhile (· == 48)=res) ->
  Zx T 0 0 (.norm false [0]) l125_0 ⟨[(0,.s l),(1,u8 48)],[],2⟩=some (.n,⟨[(0,.s res)],[],2⟩):=by
 refine zbg (fun l:List UInt8=>⟨[(0,.s l),(1,u8 48)],[],2⟩) _ (fun l=>l.length) _ ?_
 rintro l ⟨hl,hr⟩
 cases l with
 | nil=>
  right;simp at hr;subst hr;constructor<;>simp -implicitDefEqProofs[l125_0]
 | cons c r=>
  simp only[Yg]at hl;have h2:(0:Int)<(r.length:Int)+1:=by omega
  have h3:(1:Int)<=(r.length:Int)+1:=by omega
  by_cases hc:c=48
  ·left;subst hc;rw[List.dropWhile_cons_of_pos (by decide)]at hr;exact⟨r,⟨by omega,hr⟩,Y2 _,by simp -implicitDefEqProofs[l125_0,h2,h3],rfl⟩
  ·right;rw[List.dropWhile_cons_of_neg (by simpa using hc)]at hr;subst hr;have hc':¬ c.toNat=48:=fun h=>hc (UInt8.toNat_inj.1 h);constructor<;>simp -implicitDefEqProofs[l125_0,h2,hc']
end
section
variable{T:Tbl}[Zjv T]
def z1h(l:List UInt8)(hl:l.length<=1000000):Za T 103 [.s l,.s [48]]=some (.s (l.dropWhile (· == 48))):=by
 have h:=zw0 (T:=T) _ l ⟨hl,rfl⟩;have h1:Za T 125 [.s l,u8 48]=some (.s (l.dropWhile (· == 48))):=by
  rw[zaa Zjv.h125 rfl,b125];simp -implicitDefEqProofs[h]
 obtain⟨Z,hZ⟩:∃Z,b103=(.seq
 (.reg [⟨(some 4),none,.mov (.c (.s []))⟩])
 (.seq
  (.seq
  (.reg [⟨(some 7),none,.mov (.t 0)⟩,
   ⟨(some 8),none,.bin .eql (.t 7) (.c (.s []))⟩,
   ⟨(some 9),none,.mov (.t 8)⟩,
   ⟨(some 10),(some (9,false)),.mov (.t 1)⟩,
   ⟨(some 11),(some (9,false)),.bin .eql (.t 10) (.c (.s []))⟩,
   ⟨(some 12),none,.pick (.t 9) (.c (.b true)) (.t 11)⟩])
  (.cond (.t 12)
   (.seq
   (.reg [⟨(some 13),none,.mov (.t 0)⟩,
    ⟨(some 4),none,.mov (.t 13)⟩])
   (.pre (.norm false [4]) .ret))
   .skip))
  (.seq
  (.seq
   (.reg [⟨(some 14),none,.mov (.t 1)⟩,
    ⟨(some 15),none,.lens (.t 14)⟩,
    ⟨(some 16),none,.bin .eql (.t 15) (.c (.i .i64 1))⟩,
    ⟨(some 17),none,.mov (.t 16)⟩,
    ⟨(some 18),(some (17,true)),.mov (.t 1)⟩,
    ⟨(some 19),(some (17,true)),.ixs (.t 18) (.c (.i .i64 0))⟩,
    ⟨(some 20),(some (17,true)),.bin .lss (.t 19) (.c (u8 128))⟩,
    ⟨(some 21),none,.pick (.t 17) (.t 20) (.c (.b false))⟩])
   (.cond (.t 21)
   (.seq
    (.reg [⟨(some 22),none,.mov (.t 0)⟩,
     ⟨(some 23),none,.mov (.t 1)⟩,
     ⟨(some 24),none,.ixs (.t 23) (.c (.i .i64 0))⟩,
     ⟨(some 25),none,.call 125 [(.t 22),(.t 24)]⟩,
     ⟨(some 4),none,.mov (.t 25)⟩])
    (.pre (.norm false [4]) .ret))
   .skip)) Z)):AX):=⟨_,rfl⟩
 rw[zaa Zjv.h103 rfl,hZ];by_cases h0:l=[]
 ·subst h0;simp -implicitDefEqProofs
 ·simp -implicitDefEqProofs[h0,h1]
end
section
variable{P:Program}{ν:Nat->FuncId}{T:Tbl}
def zzg(hT:TOk P ν T)(hm:P.follows .mixedOrders=true){cx:Cx}(hP:cx.P=P)(hk:cx.clk0=1)(c:AX){code:Code}{nt:Nat}(hnt:cx.nt=nt)(hres:Zu P nt code=some (er ν (Zf T) c)){st:St}{e:Ex}{st':St}
  (h:evX (orc T) T 0 c st=some (e,st')) {a:Act} {w:World} (hr:Rel cx st a w) {K:Exit->Act->World->Prop} (hK:∀a' w',Rel cx st' a' w'->K e.out a' w'):code.wp P K a w:=by
 obtain⟨L,h1,h2⟩:=zcq T 0 c st _ _ h;obtain⟨n,hn⟩:=zrr T h1;have hev:=za5 (GoodO.orcN hT hm n) (k:=0) (cx:=cx) hP hk c st e st' (h2 _ hn);subst hP hnt;refine wp_mono (hev code hres hm a w hr) ?_
 rintro ex a' w' ⟨s,⟨rfl,rfl⟩,hr'⟩
 exact hK a' w' hr'
def zzh{nt:Nat}{w:World}{S:Nat->Nat->Prop}{cargs:Array Value}{args:List AV}(hl:cargs.size=args.length)(hn:args.length<=nt)
  (hC:∀(j:Nat) (v:Value) (c:AV),cargs[j]? = some v->args[j]? = some c->CP w S v c) (hS:∀k o,S k o->k<w.heap.size) :
  Rel ⟨P,nt,w,S,fun _=>none,1⟩ ⟨Zd4 args,[],1⟩ { tmps:=cargs++Array.replicate (nt-cargs.size) undef,defers:=[] } w:=by
 refine⟨S,fun _=>none,by simp;omega,rfl,fun t=>?_,⟨⟨fun b bx hb=>(by simp at hb),fun g m hm=>(by cases hm),fun b bx b' bx' h1=>(by simp at h1),fun g g' k h1=>(by cases h1)⟩,
  Ext.refl _ _ _ _,⟨rfl,rfl,rfl,Yh _,fun _ _ _=>rfl⟩,fun k o hs=>.inl hs,hS,fun g k hm=>(by cases hm)⟩⟩
 rw[zlp];cases ha:args[t]? with
 | none=>exact .p (.dead _)
 | some x=>
  have htl:=zca ha;have hv:cargs[t]? = some (cargs[t]'(by omega)):=Y1 _;have e1:(cargs++Array.replicate (nt-cargs.size) undef).getD t undef=cargs[t]'(by omega):=by
   simp only[Ydt];rw[Yb2 (by omega),hv]
   rfl
  rw[e1];exact .p (hC t _ x hv ha)
def Rel.below{nt:Nat}{w0:World}{S:Nat->Nat->Prop}{st:St}{a:Act}{w:World}(h:Rel ⟨P,nt,w0,S,fun _=>none,1⟩ st a w):RowKit.Below w0.heap.size w0 w:=by
 obtain⟨S',M',hr⟩:=h;exact⟨hr.wr.fr.os,hr.wr.fr.tape,hr.wr.fr.output,hr.wr.fr.size,fun k hk=>hr.wr.fr.block k hk fun⟨g,hg⟩=>(by cases hg)⟩
def Rel.strAt{cx:Cx}{st:St}{a:Act}{w:World}(h:Rel cx st a w){t:Nat}{l:List UInt8}(he:st.env.get t=.s l):a.tmps.getD t undef=.string ⟨l.toArray⟩:=by
 obtain⟨S',M',hr⟩:=h;have:=hr.env t;rw[he]at this;generalize a.tmps.getD t undef=v at *
 cases this with
 | p h=>cases h;rfl
def Rel.strs{cx:Cx}{st:St}{a:Act}{w:World}(h:Rel cx st a w){t:Nat}{b:BId}{g n:Nat}{ls:List (List UInt8)}(hne:ls≠[])(he:st.env.get t=.bs b g 1 0 n)
  (hb:st.heap.lookup b=some ⟨g,.own,1,ls.map fun s=>[.s s]⟩):∃k arr e cap,a.tmps.getD t undef=.slice (some ⟨k,0,none⟩) n cap/\w.heap[k]? = some (.cells arr e (0,0))/\n<=cap/\cap<=maxLen/\cap<=arr.size /\
   ∀(i:Nat) (s:List UInt8),ls[i]? = some s->arr[i]? = some (Value.string ⟨s.toArray⟩):=by
 obtain⟨S',M',hr⟩:=h;have h1:=hr.env t;rw[he]at h1;obtain⟨_,_,m,hm,h2⟩:=hr.wr.heap.box b _ hb;simp only at hm h2;generalize a.tmps.getD t undef=v at *
 cases h1 with
 | p h=>cases h
 | bs _ _ _ _ _ _ hg hB h1=>
  unfold Zhd at hB;rw[hm]at hB;cases m with
  | none=>exact absurd (by simpa using h2.1) hne
  | some k=>
   obtain⟨arr,e,cap,hk,hv,c1,c2,c3⟩:=hB;obtain⟨arr',e',hk',_,hcells,_⟩:=h2;rw[hk]at hk';cases hk';refine⟨k,arr,e,cap,by rw[hv],hk,c1,c2,by omega,fun i s hi=>?_⟩;obtain⟨u,hu,_,_,hc⟩:=hcells i [.s s] 0 (.s s) (by simp[hi]) rfl;have:=hc (by simp);rw[Ydu,Yaj]at hu;cases this;exact hu
end
end Go.Ab
section
namespace Go.Proofs.YtmojeopgpabkhaaGreatDoor
open Go Go.Ab Go.RowKit
def list_cons{α:Type}{n:Nat}{l:List α}(h:l.length=n+1):∃x t,l=x::t/\t.length=n:=by
 cases l with
 | nil=>simp at h
 | cons x t=>exact⟨x,t,rfl,by simpa using h⟩
set_option maxHeartbeats 2000000 in
set_option maxRecDepth 100000 in
def text_calls(hm:Tryz.prog.follows .mixedOrders=true)(a:List UInt32)(hl:a.length<=1000){w0:World}{S:Nat->Nat->Prop}{cargs:Array Value}(hsz:cargs.size=1)
  (hC:∀(j:Nat) (v:Value) (c:AV),cargs[j]? = some v->[AV.sl (Zb a) .an][j]? = some c->CP w0 S v c) (hS:∀k o,S k o->k<w0.heap.size) :
  Calls Tryz.prog 64 cargs w0 fun e w'=>e=.returned (.string ⟨(Zan (val a)).toArray⟩)/\Below w0.heap.size w0 w':=by
 refine calls_of_wp Tryz.func64 rfl ?_;have h0:=zzh (P:=Tryz.prog) (nt:=40) (w:=w0) (S:=S) (cargs:=cargs) (args:=[AV.sl (Zb a) .an]) (by simpa using hsz) (by simp) hC hS;refine wp_seq (zzg sTab_ok hm (cx:=⟨Tryz.prog,40,w0,S,fun _=>none,1⟩) rfl rfl tx0 (nt:=40) rfl (by kernel_rfl) (sTab_part.ev (by kernel_rfl) (zao5 (T:=tab) _)) h0 fun a1 w1 h1=>?_);refine wp_seq ?_;by_cases hz:val a=0
 ·refine zzg sTab_ok hm (cx:=⟨Tryz.prog,40,w0,S,fun _=>none,1⟩) rfl rfl txA (nt:=40) rfl (by kernel_rfl) (sTab_part.ev (by kernel_rfl) (zagf (T:=tab) a hl hz)) h1 fun a2 w2 h2=>?_;have hv:=h2.strAt (t:=2) (l:=[48]) rfl;have hb:=h2.below;have ht:Zan (val a)=[48]:=by rw[hz];exact zdw (by decide)
  obtain⟨_,_,hr2⟩:=h2;refine(show bodyPost Tryz.prog Tryz.f64 (fun e w'=>e=.returned (.string ⟨(Zan (val a)).toArray⟩)/\Below w0.heap.size w0 w') .ret a2 w2 from ?_);refine⟨hr2.defers,.string ⟨[48].toArray⟩,?_,by rw[ht],hb⟩;rw[<-hv];exact results_tmp rfl _ _ _
 ·refine zzg sTab_ok hm (cx:=⟨Tryz.prog,40,w0,S,fun _=>none,1⟩) rfl rfl txA (nt:=40) rfl (by kernel_rfl) (sTab_part.ev (by kernel_rfl) (zagg (T:=tab) a hl hz)) h1 fun a2 w2 h2=>?_;refine wp_seq (zzg sTab_ok hm (cx:=⟨Tryz.prog,40,w0,S,fun _=>none,1⟩) rfl rfl tx3 (nt:=40) rfl (by kernel_rfl) (sTab_part.ev (by kernel_rfl) (zao6 (T:=tab) a)) h2 fun a3 w3 h3=>?_);refine wp_seq (zzg sTab_ok hm (cx:=⟨Tryz.prog,40,w0,S,fun _=>none,1⟩) rfl rfl txP (nt:=40) rfl (by kernel_rfl) (sTab_part.ev (by kernel_rfl) (zao7 (T:=tab) a hl)) h3 fun a4 w4 h4=>?_);have hb4:=h4.below;have hne:pieces (val a)≠[]:=by rw[zdk hz];simp
  obtain⟨k,arr,e,cap,hv,hk,hc1,hc2,hc3,hcells⟩:=h4.strs (t:=3) (ls:=pieces (val a)) hne rfl (by simp[Zeg]);obtain⟨_,_,hr4⟩:=h4;have hdf:=hr4.defers;have hsz:=hr4.size;have hpl:=zqw a;clear hr4 h0 h1 h2 h3
  change Code.wp _ _ _ a4 w4
  obtain⟨tm,df⟩:=a4;obtain⟨l,rfl⟩:∃l:List Value,tm=l.toArray:=⟨tm.toList,by simp⟩;simp only[List.size_toArray]at hsz;simp only at hdf;subst hdf;obtain⟨x0,l0,rfl,s0⟩:=list_cons hsz;obtain⟨x1,l1,rfl,s1⟩:=list_cons s0;obtain⟨x2,l2,rfl,s2⟩:=list_cons s1;obtain⟨x3,l3,rfl,s3⟩:=list_cons s2;obtain⟨x4,l4,rfl,s4⟩:=list_cons s3;obtain⟨x5,l5,rfl,s5⟩:=list_cons s4;obtain⟨x6,l6,rfl,s6⟩:=list_cons s5;obtain⟨x7,l7,rfl,s7⟩:=list_cons s6;obtain⟨x8,l8,rfl,s8⟩:=list_cons s7;obtain⟨x9,l9,rfl,s9⟩:=list_cons s8;obtain⟨x10,l10,rfl,s10⟩:=list_cons s9;obtain⟨x11,l11,rfl,s11⟩:=list_cons s10;obtain⟨x12,l12,rfl,s12⟩:=list_cons s11;obtain⟨x13,l13,rfl,s13⟩:=list_cons s12;obtain⟨x14,l14,rfl,s14⟩:=list_cons s13;obtain⟨x15,l15,rfl,s15⟩:=list_cons s14;obtain⟨x16,l16,rfl,s16⟩:=list_cons s15;obtain⟨x17,l17,rfl,s17⟩:=list_cons s16;obtain⟨x18,l18,rfl,s18⟩:=list_cons s17;obtain⟨x19,l19,rfl,s19⟩:=list_cons s18;obtain⟨x20,l20,rfl,s20⟩:=list_cons s19;obtain⟨x21,l21,rfl,s21⟩:=list_cons s20;obtain⟨x22,l22,rfl,s22⟩:=list_cons s21;obtain⟨x23,l23,rfl,s23⟩:=list_cons s22;obtain⟨x24,l24,rfl,s24⟩:=list_cons s23;obtain⟨x25,l25,rfl,s25⟩:=list_cons s24;obtain⟨x26,l26,rfl,s26⟩:=list_cons s25;obtain⟨x27,l27,rfl,s27⟩:=list_cons s26;obtain⟨x28,l28,rfl,s28⟩:=list_cons s27;obtain⟨x29,l29,rfl,s29⟩:=list_cons s28;obtain⟨x30,l30,rfl,s30⟩:=list_cons s29;obtain⟨x31,l31,rfl,s31⟩:=list_cons s30;obtain⟨x32,l32,rfl,s32⟩:=list_cons s31;obtain⟨x33,l33,rfl,s33⟩:=list_cons s32;obtain⟨x34,l34,rfl,s34⟩:=list_cons s33;obtain⟨x35,l35,rfl,s35⟩:=list_cons s34;obtain⟨x36,l36,rfl,s36⟩:=list_cons s35;obtain⟨x37,l37,rfl,s37⟩:=list_cons s36;obtain⟨x38,l38,rfl,s38⟩:=list_cons s37;obtain⟨x39,l39,rfl,s39⟩:=list_cons s38;cases Yao s39;have hx3:x3=.slice (some ⟨k,0,none⟩) (pieces (val a)).length cap:=hv;subst hx3;have hjoin:=zs0 (val a) hz;have hall:=zsy (val a);generalize pieces (val a)=ps at *
  have HC:Aside (∀(i:Nat) (s:List UInt8),ps[i]? = some s->arr[i]? = some (Value.string ⟨s.toArray⟩)):=hcells;have HJ:Aside (List.dropWhile (fun x=>x == 48) ps.reverse.flatten=Zan (val a)):=hjoin;have HN:Aside (∀s∈ps,s.length=9):=hall;have HB:Aside (Below w0.heap.size w0 w4):=hb4;have HK:Aside (w4.heap[k]? = some (.cells arr e (0,0))):=hk;have hk4:k<w4.heap.size:=by
   rcases Yy k w4.heap.size with h' | h'
   ·exact h'
   ·simp[Array.getElem?_eq_none h']at hk
  clear hcells hjoin hall hb4 hk
  go_wp2
  go_loopg [8] ps.length (fun g s8 wx=>s8=.int .i64 ((g:Int)-1)/\g<=ps.length/\Aside (Lib.IsBuilder 148 5 w4.heap.size w4.heap.size (Lib.byteCells (ps.drop g).reverse.flatten) wx/\Below w4.heap.size w4 wx))
  case atStart=>exact⟨rfl,Yh _,by rw[Yaf];exact Lib.fresh_isBuilder 148 5 w4,(Below.refl _ _).alloc (Yh _) _⟩
  case round=>
   obtain⟨rfl,hg,HW⟩:=hrel;cases gk with
   | zero=>
    obtain⟨hBld,hBel⟩:=HW.out;rw[Ybz]at hBld;have hne':ps.reverse.flatten≠[]:=by
     intro h;have:=zd2 ps.reverse (fun s hs=>HN.out s (Yei.1 hs));rw[h]at this;simp at this;exact hne (Yao (by omega))
    have HT:Aside (ps.reverse.flatten≠[]):=hne';clear hne';have hlenF:ps.reverse.flatten.length<=1000000:=by
     rw[zd2 ps.reverse (fun s hs=>HN.out s (Yei.1 hs)),List.length_reverse];omega
    have hT:∀W:World,Calls Tryz.prog 102 #[.string ⟨ps.reverse.flatten.toArray⟩,.string ⟨#[48]⟩] W fun e w'=>e=.returned (.string ⟨(Zan (val a)).toArray⟩)/\Below W.heap.size W w':=by
     intro W;have h1:=zka sTab_ok hm (u:=103) rfl rfl (sTab_part.call (by kernel_rfl) (z1h (T:=tab) ps.reverse.flatten hlenF));rw[HJ.out]at h1;refine(h1.2 W (fun _ _=>False) #[.string ⟨ps.reverse.flatten.toArray⟩,.string ⟨#[48]⟩] rfl (fun j v c hv hc=>?_) (fun _ _ h=>h.elim)).mono ?_
     ·match j,hv,hc with
      | 0,hv,hc=>cases hv;cases hc;exact .s _
      | 1,hv,hc=>cases hv;cases hc;exact .s _
     ·rintro e w' ⟨v,r,rfl,rfl,hb,hc⟩
      cases hc;exact⟨rfl,hb⟩
    have HTT:=hT;clear hT
    go_wp2_with (go_at_call 67;refine(Tryz.bString w4.heap.size w4.heap.size ps.reverse.flatten wr hBld HT.out).mono ?_)
    rintro e1 w5 ⟨rfl,hb5⟩
    go_wp2_with (go_at_call 102;refine(HTT w5).mono ?_)
    rintro e2 w6 ⟨rfl,hb6⟩
    go_wp2
    go_ret
    refine⟨rfl,?_⟩;have hs1:=HB.out.size;have hs5:=(hBel.trans hb5).size;exact HB.out.trans (((hBel.trans hb5).mono hs1).trans (hb6.mono (by omega)))
   | succ j=>
    obtain⟨hBld,hBel⟩:=HW.out;obtain⟨s,hs⟩:∃s,ps[j]? = some s:=⟨_,Ya (by omega)⟩;have hcell:wr.cell? ⟨k,j,none⟩=some (.string ⟨s.toArray⟩):=by
     rw[hBel.cell (p:=⟨k,j,none⟩) hk4,Lib.cell_of_heap HK.out];exact HC.out j s hs
    have hs9:s.length=9:=HN.out s (Yd hs);have hflen:=zd2 (ps.drop (j+1)).reverse (fun s hs=>HN.out s (Ycu (Yei.1 hs)));have HS:Aside (ps[j]? = some s):=hs;clear hs;rw[List.length_reverse,Yb3]at hflen;have hbound:(Lib.byteCells (ps.drop (j+1)).reverse.flatten).length+(⟨s.toArray⟩:ByteArray).size<=140737488355328:=by
     rw[Lib.byteCells_length,hflen];show _+s.toArray.size<=_;simp only[List.size_toArray];omega
    have HF:Aside ((Lib.byteCells (ps.drop (j+1)).reverse.flatten).length+(⟨s.toArray⟩:ByteArray).size<=140737488355328):=hbound;clear hflen hbound
    go_wp2_with (go_at_call 66;refine(Tryz.bWrite w4.heap.size w4.heap.size _ ⟨s.toArray⟩ wr hBld HF.out hBel.size).mono ?_)
    rintro e1 w5 ⟨rfl,h5,hb5⟩
    go_wp2
    go_roundg j
    case measure=>omega
    case rel=>
     refine⟨by congr 1,by omega,?_,hBel.trans hb5⟩;have e1:(ps.drop j).reverse.flatten=(ps.drop (j+1)).reverse.flatten++s:=by
      obtain⟨hj,he⟩:=Yb.1 HS.out;rw[Yo hj,he];simp
     rw[e1,Lib.byteCells_append];exact .inr h5
theorem word_rows:∀(els:List (List AV)) (l:List UInt32),els.mapM Zg9=some l->els=Zb l
 | [],l,h=>by cases h;rfl
 | r::els,l,h=>by
  rw[Ybm]at h;obtain⟨x,hx,h1⟩:=bind_some h;obtain⟨y,hy,h2⟩:=bind_some h1;cases h2;rw[word_rows els y hy];unfold Zg9 at hx;split at hx
  ·split at hx
   ·cases hx;rename_i n hn;have:(w32 n.toNat).toNat=n.toNat:=zah (by omega);simp only[Zb,Y9,this,u32];rw[Int.toNat_of_nonneg hn.1]
   ·cases hx
  ·cases hx
def text_ok(hm:Tryz.prog.follows .mixedOrders=true):∀xs r,prim68 xs=some r->Zbq Tryz.prog (nu 68) xs (·=r):=by
 intro xs r h;unfold prim68 at h;split at h
 ·split at h
  ·rename_i els hl;cases hw:els.mapM Zg9 with
   | none=>rw[hw]at h;cases h
   | some l=>
    rw[hw]at h;cases h;have he:=word_rows els l hw;subst he;rw[zkb]at hl;refine⟨enters_of Tryz.func64 (by kernel_rfl) rfl,fun w S cargs hsz hC hS=>?_⟩;refine(text_calls hm l hl (by simpa using hsz) hC hS).mono ?_
    rintro e w' ⟨rfl,hb⟩
    exact⟨_,_,rfl,rfl,hb,.s _⟩
  ·cases h
 ·cases h
#print axioms text_ok
end Go.Proofs.YtmojeopgpabkhaaGreatDoor
end
section
set_option linter.unusedVariables false
namespace Go.Proofs
open Go.Shelf Go.RowKit
variable{P:Program}{ρ:Ren}
structure JL (P:Program) (ρ:Ren):Prop extends Lays.n169 P ρ,Lays.n241 P ρ,Builder.Extra P ρ where
 f156:P.funcs[ρ.f 156]? = some (Body.n156 ρ)
 f165:P.funcs[ρ.f 165]? = some (Body.n165 ρ)
 f166:P.funcs[ρ.f 166]? = some (Body.n166 ρ)
 t4:P.underlying (ρ.t 4)=some (TypeDesc.bool)
 a4:∀w,(isAgg (ρ.t 4)).run P w=.ok false w
 z4:∀w,(Go.sizeOf (ρ.t 4)).run P w=.ok 1 w
 v4:∀w,(zeroValue (ρ.t 4)).run P w=.ok (Value.bool false) w
 t20:P.underlying (ρ.t 20)=some (TypeDesc.interface #[])
 a20:∀w,(isAgg (ρ.t 20)).run P w=.ok false w
 z20:∀w,(Go.sizeOf (ρ.t 20)).run P w=.ok 1 w
 v20:∀w,(zeroValue (ρ.t 20)).run P w=.ok (Value.nilIface) w
 t31:P.underlying (ρ.t 31)=some (TypeDesc.slice (ρ.t 9))
 a31:∀w,(isAgg (ρ.t 31)).run P w=.ok false w
 z31:∀w,(Go.sizeOf (ρ.t 31)).run P w=.ok 1 w
 v31:∀w,(zeroValue (ρ.t 31)).run P w=.ok (Value.slice none 0 0) w
 t75:P.underlying (ρ.t 75)=some (TypeDesc.interface #[("Error",ρ.t 80)])
 a75:∀w,(isAgg (ρ.t 75)).run P w=.ok false w
 z75:∀w,(Go.sizeOf (ρ.t 75)).run P w=.ok 1 w
 v75:∀w,(zeroValue (ρ.t 75)).run P w=.ok (Value.nilIface) w
 t76:P.underlying (ρ.t 76)=some (TypeDesc.tuple #[ρ.t 3,ρ.t 75])
 a76:∀w,(isAgg (ρ.t 76)).run P w=.ok false w
 z76:∀w,(Go.sizeOf (ρ.t 76)).run P w=.ok 1 w
 v76:∀w,(zeroValue (ρ.t 76)).run P w=.ok (Value.tuple #[Value.int IntKind.i64 0,Value.nilIface]) w
 t164:P.underlying (ρ.t 164)=some (TypeDesc.unsafePointer)
 a164:∀w,(isAgg (ρ.t 164)).run P w=.ok false w
 z164:∀w,(Go.sizeOf (ρ.t 164)).run P w=.ok 1 w
 v164:∀w,(zeroValue (ρ.t 164)).run P w=.ok (Value.pointer none) w
 e240:∀args w,(callFunc (ρ.f 240) args).run P w=.ok (.enter (ρ.f 240) args) w
 c240:∀(B b:Nat) (bs:List Value) (w:World),Lib.IsBuilder (ρ.t 72) (ρ.t 5) B b bs w ->
  Calls P (ρ.f 240) #[.pointer (some ⟨b,0,none⟩)] w fun e w'=>e=.returned (.tuple #[])/\(Lib.BuilderAt (ρ.t 72) (ρ.t 5) B b (.pointer (some ⟨b,0,none⟩)) bs w'/\Below B w w')
 c240f:∀(b:Nat) (w:World),w.cell? ⟨b,0,none⟩=some (.pointer none)->w.shape? b=some ((ρ.t 72),2)->w.frozen? ⟨b,0,none⟩=false ->
  Calls P (ρ.f 240) #[.pointer (some ⟨b,0,none⟩)] w fun e w'=>e=.returned (.tuple #[])/\w'=w.setCell ⟨b,0,none⟩ (.pointer (some ⟨b,0,none⟩))
def Jl.hid{p:Prop}(h:p):Hid p:=h
set_option maxHeartbeats 2000000 in
set_option maxRecDepth 100000 in
def Jl.Builder_WriteString(L:JL P ρ)(B b:Nat)(bs:List Value)(s:ByteArray)(w:World)(h:Lib.IsBuilder (ρ.t 72) (ρ.t 5) B b bs w)(hlen:bs.length+s.size<=140737488355328)(hBw:B<=w.heap.size) :
  Calls P (ρ.f 166) #[.pointer (some ⟨b,0,none⟩),.string s] w fun e w'=>e=.returned (.tuple #[.int .i64 s.size,.nilIface])/\(Lib.BuilderAt (ρ.t 72) (ρ.t 5) B b (.pointer (some ⟨b,0,none⟩)) (bs++Lib.strCells s) w'/\Below B w w'):=by
 obtain⟨i0,hi,hz0,hz1,hz2⟩:=info_parts L.infoByte;have mixed:=L.mixed;have t72:=L.t72;have a72:=L.a72;have z72:=L.z72;have v72:=L.v72;have u72:=run_underlying L.t72;have t70:=L.t70;have a70:=L.a70;have z70:=L.z70;have v70:=L.v70;have u70:=run_underlying L.t70;have t37:=L.t37;have a37:=L.a37;have z37:=L.z37;have v37:=L.v37;have u37:=run_underlying L.t37;have t3:=L.t3;have a3:=L.a3;have z3:=L.z3;have v3:=L.v3;have u3:=run_underlying L.t3;have t9:=L.t9;have a9:=L.a9;have z9:=L.z9;have v9:=L.v9;have u9:=run_underlying L.t9;have t4:=L.t4;have a4:=L.a4;have z4:=L.z4;have v4:=L.v4;have u4:=run_underlying L.t4;have t164:=L.t164;have a164:=L.a164;have z164:=L.z164;have v164:=L.v164;have u164:=run_underlying L.t164;have t5:=L.t5;have a5:=L.a5;have z5:=L.z5;have v5:=L.v5;have u5:=run_underlying L.t5;have e240:∀args w,(callFunc (ρ.f 240) args).run P w=.ok (.enter (ρ.f 240) args) w:=L.e240
 go_enter L.f166,Body.n166_ntmps ρ
 go_wp2_with (go_at_fn (ρ.f 240);refine(L.c240 B b bs _ h).mono ?_)
 rintro e w1 ⟨rfl,h1,hb1⟩
 obtain⟨hB,v,hbk,hown,hne⟩:=h1;have c0:w1.cell? ⟨b,0,none⟩=some (.pointer (some ⟨b,0,none⟩)):=by rw[Lib.cell_of_heap hbk];rfl
 have c1:w1.cell? ⟨b,1,none⟩=some v:=by rw[Lib.cell_of_heap hbk];rfl
 go_wp2_with (at_builtin;refine Lib.wpList_append_own_string _ rfl _ _ (ρ.t 37) (ρ.t 9) rfl B (ρ.t 5) i0 L.t37 L.t9 hi hz0 hz1 hz2 _ _ _ rfl hown s rfl ?c3 ?c4 ?c5 ?_)
 case c3=>unfold maxLen;omega
 case c4=>omega
 case c5=>have:=hb1.size;omega
 intro v' w2 hown' hgrow _;have hlt:b<w1.heap.size:=by
  rcases Nat.lt_or_ge b w1.heap.size with h' | h'
  ·exact h'
  ·simp[Array.getElem?_eq_none h']at hbk
 have hb2:w2.heap[b]? = some (.cells #[.pointer (some ⟨b,0,none⟩),v] (ρ.t 72) (0,0)):=by
  rw[hgrow.block b hlt (fun e=>hne e.symm)];exact hbk
 have d0:w2.cell? ⟨b,0,none⟩=some (.pointer (some ⟨b,0,none⟩)):=by rw[Lib.cell_of_heap hb2];rfl
 have d1:w2.cell? ⟨b,1,none⟩=some v:=by rw[Lib.cell_of_heap hb2];rfl
 have f1:w2.frozen? ⟨b,1,none⟩=false:=Lib.frozen_of_heap hb2 1;obtain⟨ao,n',cap,rfl⟩:∃ao n' cap,v'=.slice ao n' cap:=by
  rcases hown'.2 with ⟨hv,_⟩ | ⟨g,cap,cur,hv,_⟩
  ·exact⟨_,_,_,hv⟩
  ·exact⟨_,_,_,hv⟩
 go_wp2
 go_ret2
 refine⟨rfl,?_,?_⟩
 ·exact Lib.BuilderAt.put (T:=(ρ.t 72)) (e:=(ρ.t 5)) hB hb2 (bs':=bs++Lib.strCells s) (by simpa[Lib.strCells_length]using hown') L.neB5
 ·exact(hb1.grown hgrow (by have:=hb1.size;omega) (fun k hk=>(hown.lt k hk).1)).setCell (p:=⟨b,1,none⟩) hB _
set_option maxHeartbeats 2000000 in
set_option maxRecDepth 1000000 in
def Jl.Builder_Grow_fresh(L:JL P ρ)(B b n:Nat)(w:World)(hB:B<=b)(hbk:w.heap[b]? = some (.cells #[.pointer none,.slice none 0 0] (ρ.t 72) (0,0)))(hBw:B<=w.heap.size)(hn:n<=281474976710656) :
  Calls P (ρ.f 165) #[.pointer (some ⟨b,0,none⟩),.int .i64 n] w fun e w'=>e=.returned (.tuple #[])/\(Lib.BuilderAt (ρ.t 72) (ρ.t 5) B b (.pointer (some ⟨b,0,none⟩)) [] w'/\Below B w w'):=by
 have hbk1:(w.setCell ⟨b,0,none⟩ (.pointer (some ⟨b,0,none⟩))).heap[b]? = some (.cells #[.pointer (some ⟨b,0,none⟩),.slice none 0 0] (ρ.t 72) (0,0)):=by
  simp[World.setCell,Array.getElem?_modify,hbk]
 have c1:(w.setCell ⟨b,0,none⟩ (.pointer (some ⟨b,0,none⟩))).cell? ⟨b,1,none⟩=some (.slice none 0 0):=by rw[Lib.cell_of_heap hbk1];rfl
 have hb1:Below B w (w.setCell ⟨b,0,none⟩ (.pointer (some ⟨b,0,none⟩))):=(Below.refl B w).setCell (p:=⟨b,0,none⟩) hB _;have mixed:=L.mixed;have t72:=L.t72;have a72:=L.a72;have z72:=L.z72;have v72:=L.v72;have u72:=run_underlying L.t72;have t70:=L.t70;have a70:=L.a70;have z70:=L.z70;have v70:=L.v70;have u70:=run_underlying L.t70;have t37:=L.t37;have a37:=L.a37;have z37:=L.z37;have v37:=L.v37;have u37:=run_underlying L.t37;have t3:=L.t3;have a3:=L.a3;have z3:=L.z3;have v3:=L.v3;have u3:=run_underlying L.t3;have t9:=L.t9;have a9:=L.a9;have z9:=L.z9;have v9:=L.v9;have u9:=run_underlying L.t9;have t4:=L.t4;have a4:=L.a4;have z4:=L.z4;have v4:=L.v4;have u4:=run_underlying L.t4;have t164:=L.t164;have a164:=L.a164;have z164:=L.z164;have v164:=L.v164;have u164:=run_underlying L.t164;have t5:=L.t5;have a5:=L.a5;have z5:=L.z5;have v5:=L.v5;have u5:=run_underlying L.t5;have e240:∀args w,(callFunc (ρ.f 240) args).run P w=.ok (.enter (ρ.f 240) args) w:=L.e240;have e241:∀args w,(callFunc (ρ.f 241) args).run P w=.ok (.enter (ρ.f 241) args) w:=enters_of L.f241 (by kernel_rfl) rfl
 go_enter L.f165,Body.n165_ntmps ρ
 have hU:Lib.BuilderAt (ρ.t 72) (ρ.t 5) B b (.pointer (some ⟨b,0,none⟩)) [] (w.setCell ⟨b,0,none⟩ (.pointer (some ⟨b,0,none⟩))):=⟨hB,.slice none 0 0,hbk1,World.ownsRow_nil _ _ _ _,by simp[Value.ownBlock]⟩;have c1':(w.setCell ⟨b,0,none⟩ (.pointer (some ⟨b,0,none⟩))).drew.cell? ⟨b,1,none⟩=some (.slice none 0 0):=c1
 go_wp2_with (go_at_fn (ρ.f 240);refine(L.c240f b w (by rw[Lib.cell_of_heap hbk];rfl) (by simp[World.shape?,hbk]) (Lib.frozen_of_heap hbk 0)).mono ?_;rintro e w' ⟨rfl,rfl⟩)
 go_region_o
 all_goals go_wp2_with (go_at_fn (ρ.f 241);refine(Any.Builder_grow_fresh L.ton241 L.toExtra B b n (w.setCell ⟨b,0,none⟩ (.pointer (some ⟨b,0,none⟩))).drew hB hbk1 (by simpa[World.setCell,World.drew,-World.drew_eq]using hBw) hn).mono ?_;rintro e w' ⟨rfl,h1,h2⟩)
 all_goals first
  | (go_end0;exact⟨rfl,h1,hb1.drew.trans h2⟩)
  | (go_end0;exact⟨rfl,hU.drew,hb1.drew⟩)
def Jl.strings_Join_none(L:JL P ρ)(a:Option Addr)(c:Nat)(sep:ByteArray)(w:World) :
  Calls P (ρ.f 156) #[.slice a 0 c,.string sep] w fun e w'=>e=.returned (.string ⟨#[]⟩)/\w'=w:=by
 have u72:=run_underlying L.t72;have u70:=run_underlying L.t70;have u37:=run_underlying L.t37;have u127:=run_underlying L.t127;have u3:=run_underlying L.t3;have u9:=run_underlying L.t9;have u4:=run_underlying L.t4;have u164:=run_underlying L.t164;have t31:=L.t31;have u31:=run_underlying L.t31;have u5:=run_underlying L.t5
 go_enter L.f156,Body.n156_ntmps ρ
 go_wp2
 go_ret
 simp_all
def Jl.strings_Join_one(L:JL P ρ)(bk o c:Nat)(x sep:ByteArray)(w:World)(hc:w.cell? ⟨bk,o,none⟩=some (.string x)) :
  Calls P (ρ.f 156) #[.slice (some ⟨bk,o,none⟩) 1 c,.string sep] w fun e w'=>e=.returned (.string x)/\w'=w:=by
 have u72:=run_underlying L.t72;have u70:=run_underlying L.t70;have u37:=run_underlying L.t37;have u127:=run_underlying L.t127;have u3:=run_underlying L.t3;have a9:=L.a9;have z9:=L.z9;have u9:=run_underlying L.t9;have u4:=run_underlying L.t4;have u164:=run_underlying L.t164;have t31:=L.t31;have u31:=run_underlying L.t31;have u5:=run_underlying L.t5
 go_enter L.f156,Body.n156_ntmps ρ
 go_wp2
 go_ret
 simp_all
set_option maxHeartbeats 4000000 in
set_option maxRecDepth 100000 in
theorem Jl.strings_Join_many(L:JL P ρ)(bk o c:Nat)(xs:List ByteArray)(sep:ByteArray)(w:World)
  (hcells:∀(j:Nat) x,xs[j]? = some x->w.cell? ⟨bk,o+j,none⟩=some (.string x))
  (hbk:bk<w.heap.size) (h2:2<=xs.length) (hN:xs.length<=140737488355328) (hcap:xs.length<=c)
  (hlen:(Lib.join (xs.map (·.data.toList)) sep.data.toList).length<=140737488355328) :
  Calls P (ρ.f 156) #[.slice (some ⟨bk,o,none⟩) xs.length c,.string sep] w fun e w'=>e=.returned (.string ⟨(Lib.join (xs.map (·.data.toList)) sep.data.toList).toArray⟩)/\Below w.heap.size w w':=by
 have HC:=Jl.hid hcells;clear hcells
 -- the lengths
 obtain⟨x0,r,hxs⟩:∃x0 r,xs=x0::r:=by
  cases xs with
  | nil=>simp at h2
  | cons a t=>exact⟨a,t,rfl⟩
 have hjl:sep.size*(xs.length-1)+Lib.lens (xs.map (·.data.toList))<=140737488355328:=by
  have:=Lib.join_length x0.data.toList (r.map (·.data.toList)) sep.data.toList;rw[hxs]at hlen ⊢;simp only[List.map_cons]at hlen ⊢;rw[this,List.length_map]at hlen;rw[Lib.size_eq,List.length_cons,Nat.add_sub_cancel];exact hlen
 have hmul:sep.size*(xs.length-1)<=140737488355328:=by omega
 generalize hM:sep.size*(xs.length-1)=M at hjl hmul;have hcast:((xs.length:Int)-1)=((xs.length-1:Nat):Int):=by omega
 have hlt:sep.size<9223372036854775807/(xs.length-1):=by
  have:sep.size+1<=9223372036854775807/(xs.length-1):=by
   rw[Nat.le_div_iff_mul_le (by omega),Nat.add_mul,hM];omega
  omega
 have hdv:¬ (9223372036854775807/((xs.length:Int)-1)<=(sep.size:Int)):=by
  have e:(9223372036854775807:Int)/((xs.length-1:Nat):Int)=((9223372036854775807/(xs.length-1):Nat):Int):=IntWalk.up_div (x:=9223372036854775807) rfl rfl;rw[hcast,e];generalize 9223372036854775807/(xs.length-1)=q at hlt;omega
 have hprod:wrap64 ((sep.size:Int)*((xs.length:Int)-1))=(M:Int):=by
  have e:(sep.size:Int)*((xs.length-1:Nat):Int)=((sep.size*(xs.length-1):Nat):Int):=IntWalk.up_mul rfl rfl;rw[hcast,e,hM];exact IntWalk.wrap64_in _ ⟨by omega,by omega⟩
 have hM0:sep.size=0->M=0:=fun h=>by rw[<-hM,h,Nat.zero_mul]
 clear hlt hcast;have hne0:((xs.length:Int) == 0)=false:=beq_eq_false_iff_ne.2 (by omega);have hne1:((xs.length:Int) == 1)=false:=beq_eq_false_iff_ne.2 (by omega);have Hxs:=Jl.hid hxs;have Hlen:=Jl.hid hlen;clear hxs hlen;have mixed:=L.mixed;have t72:=L.t72;have a72:=L.a72;have z72:=L.z72;have v72:=L.v72;have u72:=run_underlying L.t72;have t70:=L.t70;have a70:=L.a70;have z70:=L.z70;have v70:=L.v70;have u70:=run_underlying L.t70;have t37:=L.t37;have a37:=L.a37;have z37:=L.z37;have v37:=L.v37;have u37:=run_underlying L.t37;have t127:=L.t127;have a127:=L.a127;have z127:=L.z127;have v127:=L.v127;have u127:=run_underlying L.t127;have t3:=L.t3;have a3:=L.a3;have z3:=L.z3;have v3:=L.v3;have u3:=run_underlying L.t3;have t9:=L.t9;have a9:=L.a9;have z9:=L.z9;have v9:=L.v9;have u9:=run_underlying L.t9;have t4:=L.t4;have a4:=L.a4;have z4:=L.z4;have v4:=L.v4;have u4:=run_underlying L.t4;have t164:=L.t164;have a164:=L.a164;have z164:=L.z164;have v164:=L.v164;have u164:=run_underlying L.t164;have t31:=L.t31;have a31:=L.a31;have z31:=L.z31;have v31:=L.v31;have u31:=run_underlying L.t31;have t5:=L.t5;have a5:=L.a5;have z5:=L.z5;have v5:=L.v5;have u5:=run_underlying L.t5;have e240:∀args w,(callFunc (ρ.f 240) args).run P w=.ok (.enter (ρ.f 240) args) w:=L.e240;have e241:∀args w,(callFunc (ρ.f 241) args).run P w=.ok (.enter (ρ.f 241) args) w:=enters_of L.f241 (by kernel_rfl) rfl;have e165:∀args w,(callFunc (ρ.f 165) args).run P w=.ok (.enter (ρ.f 165) args) w:=enters_of L.f165 (by kernel_rfl) rfl;have e166:∀args w,(callFunc (ρ.f 166) args).run P w=.ok (.enter (ρ.f 166) args) w:=enters_of L.f166 (by kernel_rfl) rfl;have e169:∀args w,(callFunc (ρ.f 169) args).run P w=.ok (.enter (ρ.f 169) args) w:=enters_of L.f169 (by kernel_rfl) rfl
 go_enter L.f156,Body.n156_ntmps ρ
 go_wp2_with fail
 all_goals (
  go_loop [5,41] (fun n i=>∃k:Nat,k<=xs.length/\i=.int .i64 k/\n=.int .i64 ((M+Lib.lens ((xs.map (·.data.toList)).take k):Nat):Int)) (fun _ i=>xs.length-(intOf i).toNat)
  case atStart=>exact⟨0,Nat.zero_le _,rfl,by first | (simp[Lib.lens];done) | (have:=hM0 (by omega);simp[Lib.lens,this])⟩
  case round=>
   obtain⟨k,hk,rfl,rfl⟩:=hrel;by_cases hkn:k<xs.length
   ·obtain⟨x,hx⟩:∃x,xs[k]? = some x:=⟨xs[k],List.getElem?_eq_getElem hkn⟩;have hc:=HC.out k x hx;have hstep:=Lib.lens_take_succ (xs.map (·.data.toList)) k x.data.toList (by simp[hx]);have hbound:Lib.lens ((xs.map (·.data.toList)).take (k+1))<=Lib.lens (xs.map (·.data.toList)):=Lib.lens_take_le _ _;rw[<-Lib.size_eq]at hstep;generalize hA1:Lib.lens ((xs.map (·.data.toList)).take (k+1))=A1 at hstep hbound;generalize Lib.lens ((xs.map (·.data.toList)).take k)=A0 at hstep;have HA1:=Jl.hid hA1;clear hA1
    go_wp2
    exact⟨⟨k+1,by omega,by go_num,by rw[HA1.out];refine congrArg _ ?_;omega⟩,by simp[intOf];omega⟩
   ·have hke:k=xs.length:=by omega
    subst hke;have hall:(xs.map (·.data.toList)).take xs.length=xs.map (·.data.toList):=List.take_of_length_le (by simp);rw[hall];generalize hT:Lib.lens (xs.map (·.data.toList))=T at hjl;have HT:=Jl.hid hT;clear hT hall
    go_wp2_with fail
    have hMT:((M:Int)+(T:Int))=((M+T:Nat):Int):=by omega
    rw[hMT];refine(Jl.Builder_Grow_fresh L w.heap.size w.heap.size (M+T) _ (Nat.le_refl _) (heap_alloc_new w _) (by simp) (by omega)).mono ?_
    rintro e w1 ⟨rfl,h1,hb1⟩
    have hb1':Below w.heap.size w w1:=((Below.refl w.heap.size w).alloc (Nat.le_refl _) _).trans hb1
    -- the first element
    have hx0:xs[0]? = some x0:=by rw[Hxs.out];rfl
    have hc0:w1.cell? ⟨bk,o,none⟩=some (.string x0):=by
     rw[hb1'.cell (p:=⟨bk,o,none⟩) hbk];exact HC.out 0 x0 hx0
    have H1:=Jl.hid (Or.inr h1:Lib.IsBuilder (ρ.t 72) (ρ.t 5) w.heap.size w.heap.size [] w1);have Hb1:=Jl.hid hb1';have hBw1:w.heap.size<=w1.heap.size:=hb1'.size;clear h1 hb1 hb1' hMT
    -- what the builder holds behind k rounds of the second loop;and that it is never longer than the whole
    have hwhole:Lib.join (xs.map (·.data.toList)) sep.data.toList=x0.data.toList++Lib.joinTail sep.data.toList (r.map (·.data.toList)):=by
     rw[Hxs.out,List.map_cons,Lib.join_cons]
    have hCle:∀k,(x0.data.toList++Lib.joinTail sep.data.toList ((r.map (·.data.toList)).take k)).length<=140737488355328:=fun k=>by
     have h1:=Hlen.out;rw[hwhole,List.length_append]at h1;have h2:=Lib.joinTail_take_le sep.data.toList (r.map (·.data.toList)) k;rw[List.length_append];omega
    have HCle:=Jl.hid hCle;have Hwhole:=Jl.hid hwhole;clear hCle hwhole
    go_wp2_with fail
    refine(Jl.Builder_WriteString L w.heap.size w.heap.size [] x0 w1 H1.out (by have:=HCle.out 0;simp[Lib.joinTail]at this ⊢;omega) hBw1).mono ?_
    rintro e w2 ⟨rfl,h2',hb2⟩
    have hstart:([]:List Value)++Lib.strCells x0=Lib.byteCells (x0.data.toList++Lib.joinTail sep.data.toList ((r.map (·.data.toList)).take 0)):=by
     simp[Lib.joinTail,Lib.strCells_eq]
    rw[hstart]at h2';have H2:=Jl.hid (Or.inr h2':Lib.IsBuilder (ρ.t 72) (ρ.t 5) w.heap.size w.heap.size _ w2);have Hb2:=Jl.hid (Hb1.out.trans hb2);clear h2' hb2 hstart;have hrl:r.length=xs.length-1:=by rw[Hxs.out];simp
    go_wp2_with fail
    go_loopw [65] (fun i wr=>∃k:Nat,k<=r.length/\i=.int .i64 k/\Hid (Lib.IsBuilder (ρ.t 72) (ρ.t 5) w.heap.size w.heap.size (Lib.byteCells (x0.data.toList++Lib.joinTail sep.data.toList ((r.map (·.data.toList)).take k))) wr)/\Hid (Below w.heap.size w wr)) (fun i _=>r.length-(intOf i).toNat)
    case atStart=>exact⟨0,Nat.zero_le _,rfl,H2,Hb2⟩
    case round=>
     obtain⟨k,hk',rfl,HB,HW⟩:=hrel;by_cases hkr:k<r.length
     ·obtain⟨y,hy⟩:∃y,r[k]? = some y:=⟨r[k],List.getElem?_eq_getElem hkr⟩;have hxy:xs[k+1]? = some y:=by rw[Hxs.out];simpa using hy
      have hcy:wr.cell? ⟨bk,o+1+k,none⟩=some (.string y):=by
       rw[HW.out.cell (p:=⟨bk,o+1+k,none⟩) hbk,show o+1+k=o+(k+1) by omega];exact HC.out (k+1) y hxy
      have hBw:w.heap.size<=wr.heap.size:=HW.out.size;have hnext:Lib.byteCells (x0.data.toList++Lib.joinTail sep.data.toList ((r.map (·.data.toList)).take k))++Lib.strCells sep++Lib.strCells y=Lib.byteCells (x0.data.toList++Lib.joinTail sep.data.toList ((r.map (·.data.toList)).take (k+1))):=by
       rw[Lib.joinTail_take_succ sep.data.toList (r.map (·.data.toList)) k y.data.toList (by simp[hy]),Lib.strCells_eq,Lib.strCells_eq,<-Lib.byteCells_append,<-Lib.byteCells_append,List.append_assoc,List.append_assoc,List.append_assoc]
      have hl1:=HCle.out (k+1);rw[Lib.joinTail_take_succ sep.data.toList (r.map (·.data.toList)) k y.data.toList (by simp[hy])]at hl1;simp only[List.length_append,<-Lib.size_eq]at hl1;have hl0:(Lib.byteCells (x0.data.toList++Lib.joinTail sep.data.toList ((r.map (·.data.toList)).take k))).length=x0.size+(Lib.joinTail sep.data.toList ((r.map (·.data.toList)).take k)).length:=by
       rw[Lib.byteCells_length,List.length_append,<-Lib.size_eq]
      generalize (Lib.joinTail sep.data.toList ((r.map (·.data.toList)).take k)).length=J at hl0 hl1;have Hn:=Jl.hid hnext;clear hnext hy hxy
      go_wp2_with fail
      refine(Jl.Builder_WriteString L w.heap.size w.heap.size _ sep wr HB.out (by rw[hl0];omega) hBw).mono ?_
      rintro e w3 ⟨rfl,h3,hb3⟩
      have hBw3:w.heap.size<=w3.heap.size:=Nat.le_trans hBw hb3.size;have H3:=Jl.hid h3;have Hb3:=Jl.hid hb3;clear h3 hb3
      go_wp2_with fail
      refine(Jl.Builder_WriteString L w.heap.size w.heap.size _ y w3 (Or.inr H3.out) (by rw[List.length_append,hl0,Lib.strCells_length];omega) hBw3).mono ?_
      rintro e w4 ⟨rfl,h4,hb4⟩
      rw[Hn.out]at h4;have H4:=Jl.hid (Or.inr h4:Lib.IsBuilder (ρ.t 72) (ρ.t 5) w.heap.size w.heap.size _ w4);have Hb4:=Jl.hid ((HW.out.trans Hb3.out).trans hb4);clear h4 hb4
      go_wp2
      exact⟨⟨k+1,by omega,by go_num,H4,Hb4⟩,by simp[intOf];omega⟩
     ·have hke:k=r.length:=by omega
      subst hke;have hfull:(r.map (·.data.toList)).take r.length=r.map (·.data.toList):=List.take_of_length_le (by simp);have hB':=HB.out;rw[hfull,<-Hwhole.out]at hB';have hBw:w.heap.size<=wr.heap.size:=HW.out.size
      go_wp2_with fail
      refine(Any.Builder_String_any L.ton169 L.toExtra w.heap.size w.heap.size _ wr hB' hBw).mono ?_
      rintro e w5 ⟨rfl,hb5⟩
      have Hb5:=Jl.hid (HW.out.trans hb5);clear hb5 hB'
      go_wp2
      go_ret
      exact⟨rfl,Hb5.out⟩)
def Jl.strings_Join(L:JL P ρ)(bk o c:Nat)(xs:List ByteArray)(sep:ByteArray)(w:World)
  (hcells:∀(j:Nat) x,xs[j]? = some x->w.cell? ⟨bk,o+j,none⟩=some (.string x))
  (hbk:bk<w.heap.size) (hN:xs.length<=140737488355328) (hcap:xs.length<=c)
  (hlen:(Lib.join (xs.map (·.data.toList)) sep.data.toList).length<=140737488355328) :
  Calls P (ρ.f 156) #[.slice (some ⟨bk,o,none⟩) xs.length c,.string sep] w fun e w'=>e=.returned (.string ⟨(Lib.join (xs.map (·.data.toList)) sep.data.toList).toArray⟩)/\Below w.heap.size w w':=by
 match xs,hcells,hN,hcap,hlen with
 | [],_,_,_,_=>exact(Jl.strings_Join_none L _ c sep w).mono fun e w' ⟨he,hw⟩=>⟨he,hw▸Below.refl _ _⟩
 | [x],hcells,_,_,_=>
  refine(Jl.strings_Join_one L bk o c x sep w (hcells 0 x rfl)).mono fun e w' ⟨he,hw⟩=>⟨?_,hw▸Below.refl _ _⟩;rw[he,List.map_cons,List.map_nil,Lib.join_one,Lib.mk_data]
 | x::y::r,hcells,hN,hcap,hlen=>grind[Jl.strings_Join_many]
end Go.Proofs
end
section
namespace Go.Proofs
open Go.Shelf Go.RowKit Go.Ab
variable{P:Program}{ρ:Ren}
def sl_inv{w:World}{S:Nat->Nat->Prop}{v:Value}{els:List (List AV)}{f:Fl}(h:CP w S v (.sl els f)) :
  (els=[]/\∃a,v=.slice a 0 0)\/∃(blk off z cap:Nat) (u:Nat->Nat->Value),v=.slice (some ⟨blk,off,none⟩) els.length cap/\els.length<=cap/\cap<=maxLen /\
   (∀(i:Nat) (r:List AV),els[i]? = some r->r.length=z) /\
   (∀i j,i<els.length->j<z->S blk (off+i*z+j)/\w.cell? ⟨blk,off+i*z+j,none⟩=some (u i j)) /\
   (∀(i:Nat) (r:List AV) (j:Nat) (c:AV),els[i]? = some r->r[j]? = some c->CP w S (u i j) c):=by
 cases h with
 | slnil f hf=>exact .inl ⟨rfl,_,rfl⟩
 | slz a f hf=>exact .inl ⟨rfl,_,rfl⟩
 | sl blk off z cap els f u hf hfull hcap hmax hz hS hc=>exact .inr ⟨blk,off,z,cap,u,rfl,hcap,hmax,hz,fun i j hi hj=>⟨(hS i j hi hj).1,(hS i j hi hj).2.1⟩,hc⟩
def s_inv{w:World}{S:Nat->Nat->Prop}{v:Value}{l:List UInt8}(h:CP w S v (.s l)):v=.string ⟨l.toArray⟩:=by
 cases h with
 | s=>rfl
def two_args{cargs:Array Value}(h:cargs.size=2):∃a b,cargs=#[a,b]:=by
 obtain⟨l⟩:=cargs
 match l,h with
 | [a,b],_=>exact⟨a,b,rfl⟩
theorem inter_len(sep:List UInt8)(hs:sep.length<=100):∀ts:List (List UInt8),(∀t∈ts,t.length<=10000)->(Lib.join ts sep).length<=20000*ts.length
 | [],_=>by simp[Lib.join,List.intercalate]
 | x::r,h=>by
  have key:∀r:List (List UInt8),(∀t∈r,t.length<=10000)->Lib.lens r<=10000*r.length:=by
   intro r
   induction r with
   | nil=>intro _;simp[Lib.lens]
   | cons y r ih=>
    intro h;have h1:=ih fun t ht=>h t (List.mem_cons_of_mem _ ht);have h2:=h y List.mem_cons_self;simp only[Lib.lens,List.map_cons,List.sum_cons,List.length_cons]at h1 ⊢;omega
  rw[Lib.join_length];have h1:=key (x::r) h;have h2:=Nat.mul_le_mul_right r.length hs;simp only[List.length_cons]at h1 ⊢;omega
def join_pcall(L:JL P ρ):∀xs r,prim183 xs=some r->Zbq P (ρ.f 156) xs (·=r):=by
 intro xs r h;unfold prim183 at h;split at h
 ·split at h
  ·rename_i els sep hl;cases ht:els.mapM textOf with
   | none=>rw[ht]at h;cases h
   | some ts=>
    rw[ht]at h;cases h;obtain⟨he,hb⟩:=zmk ht;refine⟨enters_of L.f156 (by kernel_rfl) rfl,fun w S cargs hsz hC hS=>?_⟩;obtain⟨v0,v1,rfl⟩:=two_args hsz;have c0:=hC 0 _ _ rfl rfl;have c1:=s_inv (hC 1 _ _ rfl rfl);subst c1;have htl:ts.length<=1000:=by rw[he,zd1]at hl;exact hl.1
    have done:∀{Q:World->Prop},(∀w',Q w'->Below w.heap.size w w')->Calls P (ρ.f 156) #[v0,.string ⟨sep.toArray⟩] w (fun e w'=>e=.returned (.string ⟨(List.intercalate sep ts).toArray⟩)/\Q w') ->
      Calls P (ρ.f 156) #[v0,.string ⟨sep.toArray⟩] w fun e w'=>∃v r,e=.returned v/\r=AV.s (List.intercalate sep ts)/\Below w.heap.size w w'/\CP w' (fun k o=>S k o\/(w.heap.size<=k/\k<w'.heap.size)) v r:=by
     intro Q hQ hc;refine hc.mono ?_
     rintro e w' ⟨rfl,hb⟩
     exact⟨_,_,rfl,rfl,hQ _ hb,.s _⟩
    rcases sl_inv c0 with ⟨h0,a,rfl⟩ | ⟨blk,off,z,cap,u,rfl,hcap,hmax,hz,hcell,hcp⟩
    ·have h1:ts=[]:=by
      rw[he]at h0;exact List.eq_nil_of_length_eq_zero (by rw[<-zd1 ts,h0];rfl)
     subst h1;refine done (Q:=fun w'=>w'=w) (fun w' h=>h▸Below.refl _ _) ?_;exact Jl.strings_Join_none L a 0 ⟨sep.toArray⟩ w
    ·have hel:els.length=ts.length:=by rw[he,zd1]
     have hcells:∀(j:Nat) x,(ts.map fun t=>(⟨t.toArray⟩:ByteArray))[j]? = some x->S blk (off+j)/\w.cell? ⟨blk,off+j,none⟩=some (.string x):=by
      intro j x hx;rw[List.getElem?_map]at hx;cases ht2:ts[j]? with
      | none=>rw[ht2]at hx;cases hx
      | some t=>
       rw[ht2]at hx;cases hx;have hj:els[j]? = some [.s t]:=by rw[he];simp[Zcu,ht2]
       have hz1:1=z:=hz j _ hj;subst hz1;have hjl:j<els.length:=(List.getElem?_eq_some_iff.1 hj).1;obtain⟨h1,h2⟩:=hcell j 0 hjl Nat.one_pos;have h3:=s_inv (hcp j _ 0 (.s t) hj rfl);rw[h3]at h2;simp only[Nat.mul_one,Nat.add_zero]at h1 h2;exact⟨h1,h2⟩
     cases hts:ts with
     | nil=>
      subst hts;rw[show els.length=0 from hel]at done ⊢;refine done (Q:=fun w'=>w'=w) (fun w' h=>h▸Below.refl _ _) ?_;exact Jl.strings_Join_none L _ cap ⟨sep.toArray⟩ w
     | cons t0 tr=>
      rw[<-hts];have hblk:blk<w.heap.size:=hS _ _ (hcells 0 ⟨t0.toArray⟩ (by rw[hts];rfl)).1;have hm:(ts.map fun t=>(⟨t.toArray⟩:ByteArray)).map (·.data.toList)=ts:=by rw[List.map_map];simp[Function.comp_def]
      have hj:=Jl.strings_Join L blk off cap (ts.map fun t=>(⟨t.toArray⟩:ByteArray)) ⟨sep.toArray⟩ w (fun j x hx=>(hcells j x hx).2) hblk (by rw[List.length_map];omega) (by rw[List.length_map];omega)
       (by rw[hm];have:=inter_len sep hl.2 ts hb;show (Lib.join ts sep).length<=_;omega)
      rw[hm,List.length_map,<-hel]at hj;exact done (fun _ h=>h) hj
  ·cases h
 ·cases h
end Go.Proofs
end
section
namespace Go.Proofs
open Go.Shelf Go.RowKit
set_option maxRecDepth 100000
def Tryz.jren:Ren:=⟨fun | 156=>39 | 165=>65 | 166=>66 | 169=>67 | 240=>103 | 241=>104 | 277=>132 | n=>n,fun | 0=>0 | 1=>1 | 2=>2 | 3=>3 | 4=>4 | 5=>5 | 6=>6 | 7=>7 | 8=>8 | 9=>9 | 10=>10 | 11=>11 | 12=>12 | 13=>13 | 14=>14 | 15=>15 | 16=>16 | 17=>17 | 18=>18 | 19=>19 | 20=>20 | 21=>21 | 23=>194 | 27=>283 | 28=>43 | 31=>107 | 37=>146 | 40=>282 | 41=>251 | 46=>136 | 51=>135 | 52=>247 | 53=>102 | 55=>281 | 63=>254 | 64=>270 | 67=>109 | 70=>145 | 71=>147 | 72=>148 | 73=>149 | 74=>150 | 75=>151 | 76=>152 | 77=>153 | 80=>154 | 81=>293 | 105=>252 | 106=>253 | 112=>156 | 114=>114 | 115=>230 | 116=>231 | 117=>232 | 118=>233 | 119=>277 | 122=>229 | 123=>234 | 124=>235 | 127=>195 | 131=>165 | 137=>278 | 138=>279 | 139=>280 | 146=>263 | 164=>236 | 165=>237 | 166=>238 | n=>n,fun n=>n⟩
def Tryz.joinLaid:JL Tryz.prog Tryz.jren:={
 mixed:=by kernel_rfl,
 f169:=Tryz.func67.trans (congrArg some (by kernel_rfl)),
 t0:=Tryz.underlying0,
 a0:=Tryz.isAgg0,
 z0:=Tryz.sizeOf0,
 v0:=Tryz.zeroValue0,
 t3:=Tryz.underlying3,
 a3:=Tryz.isAgg3,
 z3:=Tryz.sizeOf3,
 v3:=Tryz.zeroValue3,
 t9:=Tryz.underlying9,
 a9:=Tryz.isAgg9,
 z9:=Tryz.sizeOf9,
 v9:=Tryz.zeroValue9,
 t37:=Tryz.underlying146,
 a37:=Tryz.isAgg146,
 z37:=Tryz.sizeOf146,
 v37:=Tryz.zeroValue146,
 t70:=Tryz.underlying145,
 a70:=Tryz.isAgg145,
 z70:=Tryz.sizeOf145,
 v70:=Tryz.zeroValue145,
 t72:=Tryz.underlying148,
 a72:=Tryz.isAgg148,
 z72:=Tryz.sizeOf148,
 v72:=Tryz.zeroValue148,
 t127:=Tryz.underlying195,
 a127:=Tryz.isAgg195,
 z127:=Tryz.sizeOf195,
 v127:=Tryz.zeroValue195,
 f241:=Tryz.func104.trans (congrArg some (by kernel_rfl)),
 f277:=Tryz.func132.trans (congrArg some (by kernel_rfl)),
 sizeBuilder:=by kernel_rfl,
 liesBuilder:=by kernel_rfl,
 t5:=Tryz.underlying5,
 a5:=Tryz.isAgg5,
 z5:=Tryz.sizeOf5,
 v5:=Tryz.zeroValue5,
 infoByte:=by kernel_rfl,
 cellsByte:=by kernel_rfl,
 sizeByte:=by kernel_rfl,
 neB5:=by decide,
 f156:=Tryz.func39.trans (congrArg some (by kernel_rfl)),
 f165:=Tryz.func65.trans (congrArg some (by kernel_rfl)),
 f166:=Tryz.func66.trans (congrArg some (by kernel_rfl)),
 t4:=Tryz.underlying4,
 a4:=Tryz.isAgg4,
 z4:=Tryz.sizeOf4,
 v4:=Tryz.zeroValue4,
 t20:=Tryz.underlying20,
 a20:=Tryz.isAgg20,
 z20:=Tryz.sizeOf20,
 v20:=Tryz.zeroValue20,
 t31:=Tryz.underlying107,
 a31:=Tryz.isAgg107,
 z31:=Tryz.sizeOf107,
 v31:=Tryz.zeroValue107,
 t75:=Tryz.underlying151,
 a75:=Tryz.isAgg151,
 z75:=Tryz.sizeOf151,
 v75:=Tryz.zeroValue151,
 t76:=Tryz.underlying152,
 a76:=Tryz.isAgg152,
 z76:=Tryz.sizeOf152,
 v76:=Tryz.zeroValue152,
 t164:=Tryz.underlying236,
 a164:=Tryz.isAgg236,
 z164:=Tryz.sizeOf236,
 v164:=Tryz.zeroValue236,
 e240:=enters_of Tryz.func103 (by kernel_rfl) rfl,
 c240:=fun B b bs w h=>Tryz.bCheck B b bs w h,
 c240f:=fun b w h0 h1 h2=>Tryz.bCheck_fresh b w h0 h1 h2 }
end Go.Proofs
namespace Go.Proofs.YtmojeopgpabkhaaGreatDoor
open Go.Ab
def join_ok:∀xs r,prim183 xs=some r->Zbq Tryz.prog (nu 183) xs (·=r):=by
 have e:nu 183=Tryz.jren.f 156:=by kernel_rfl
 rw[e];exact join_pcall Tryz.joinLaid
end Go.Proofs.YtmojeopgpabkhaaGreatDoor
end
namespace Go.Ab
section
open Go.ChangeShapes Go.WideShapes Go.ChangeAt Go.RowKit
def zmu{H:Type}{enc:TypeId×Value->H}{P:Program}{f:Func}{s:ChangeSpec}{apart fresh handsOn again:Bool}{W W':World}{args:Array Value}{v:Value}{ds gs:List (DataW H)}{before pa pv:List MemPlace}
  (hW:DataW.Whole enc P f.params.toList s.vars apart W args.toList ds gs before)
  (hres:∀(b:Nat) (sp:Nat->Bool) (hd:Bool),DataW.TrodAll enc P W' b sp hd f.resultTypes.toList (v.resultList f.resultTypes.size) (s.fn H (ds++gs)).results [])
  (hargs:∀sp:Nat->Bool,(∀p∈before,sp p.block=true)->DataW.TrodAll enc P W' 0 sp true f.params.toList args.toList (s.fn H (ds++gs)).args pa)
  (hvars:∀sp:Nat->Bool,(∀p∈before,sp p.block=true)->DataW.TrodVars enc P W' sp s.vars (s.fn H (ds++gs)).vars pv)
  (hps:before=pa++pv) (hw:Below W.heap.size W W')
  (hok:∀(j:Nat) (t:TypeId) (r:Value),f.resultTypes[j]? = some t->(v.resultList f.resultTypes.size)[j]? = some r->Value.okWide P W' .any 0 t r) :
  s.post enc P f apart fresh handsOn again W args v W':=by
 have hold:∀p∈before,(fun b=>decide (b<W.heap.size)) p.block=true:=fun p hp=>by simpa using hW.lt p hp
 have hlt:∀p∈before,p.block<W.heap.size:=fun p hp=>hW.lt p hp;refine⟨ds,gs,before,[],pa,pv,hW,hres _ _ _,hargs _ hold,hvars _ hold,World.keptBut_mono (fun p hp=>⟨hp,?_⟩) (hw.frame (·∈before)),fun _=>?_⟩
 ·grind
 ·obtain⟨_,_,_,_,_,hz,hn⟩:=hW;refine⟨hok,_,_,([]++pa)++pv,⟨[]++pa,pv,trodAll_append (hargs _ (fun _ _=>rfl)) (hres _ _ _),hvars _ (fun _ _=>rfl),rfl,?_,?_⟩,?_⟩
  ·intro b off hp;have hp':MemPlace.cell b off∈before:=by grind
   rw[hw.frozen (p:=⟨b,off,none⟩) (hlt _ hp')];exact hz b off hp'
  all_goals grind
end
section
open Go.ChangeShapes Go.WideShapes Go.ChangeAt Go.RowKit
inductive Ty where
 | int (k:IntKind)
 | bool
 | str
 | sl (r:Ty)
 | nil
 | cons (a:Ty) (r:Ty)
def Ty.z:Ty->Nat
 | .nil=>0
 | .cons a r=>a.z+r.z
 | _=>1
def Ok:Ty->List AV->Prop
 | .int k,cs=>∃n,cs=[.i k n]/\(Lit.int k n).wf=true
 | .bool,cs=>∃b,cs=[.b b]
 | .str,cs=>∃l,cs=[.s l]/\l.length<=maxLen
 | .sl r,cs=>∃els f,cs=[.sl els f]/\els.length<=maxLen/\(f=.nl/\els=[]\/f=.so)/\∀row∈els,Ok r row
 | .nil,cs=>cs=[]
 | .cons a r,cs=>∃c1 c2,cs=c1++c2/\Ok a c1/\Ok r c2
theorem Ok.len:∀{ty:Ty} {cs:List AV},Ok ty cs->cs.length=ty.z
 | .int _,_,⟨_,h,_⟩=>by rw[h];rfl
 | .bool,_,⟨_,h⟩=>by rw[h];rfl
 | .str,_,⟨_,h,_⟩=>by rw[h];rfl
 | .sl _,_,⟨_,_,h,_⟩=>by rw[h];rfl
 | .nil,_,h=>by rw[show _=[] from h];rfl
 | .cons _ _,_,⟨_,_,h,h1,h2⟩=>by rw[h,Yp,h1.len,h2.len];rfl
def Zex(w:World)(S:Nat->Nat->Prop)(cs:List Value)(xs:List AV):Prop:=
 xs.length=cs.length/\∀(j:Nat) (v:Value) (c:AV),cs[j]? = some v->xs[j]? = some c->CP w S v c/\v.oneCell'=true
section
variable{H:Type}{enc:TypeId×Value->H}{P:Program}{w:World}{base:Nat}{held:Bool}{S:Nat->Nat->Prop}
def Zex.nil:Zex w S [] []:=⟨rfl,fun j v c h=>by grind⟩
def Zex.one{v:Value}{c:AV}(h:CP w S v c)(h1:v.oneCell'=true):Zex w S [v] [c]:=by
 refine⟨rfl,fun j v' c' hv hc=>?_⟩
 grind
def Zex.append{cs cs':List Value}{xs xs':List AV}(h:Zex w S cs xs)(h':Zex w S cs' xs'):Zex w S (cs++cs') (xs++xs'):=by
 refine⟨by rw[Yp,Yp,h.1,h'.1],fun j v c hv hc=>?_⟩;by_cases hj:j<cs.length
 ·rw[Yl hj]at hv;rw[Yl (by rw[h.1];omega)]at hc;exact h.2 j v c hv hc
 ·rw[Yi (by omega)]at hv;rw[Yi (by rw[h.1];omega),h.1]at hc;exact h'.2 _ v c hv hc
def Zhi(P:Program)(g:TypeId->Option Ty)(tot:Nat):Nat->List Field->Option Ty
 | off,[]=>if off=tot then some .nil else none
 | off,f::fs=>(g f.type).bind fun a=>if f.offset=off/\a.z=P.cellsOf f.type then (Zhi P g tot (off+a.z) fs).map (.cons a) else none
def Zmh:Nat->Ty->Ty
 | 0,_=>.nil
 | n+1,a=>.cons a (Zmh n a)
def Zih(P:Program):Nat->TypeId->Option Ty
 | 0,_=>none
 | n+1,t=>
  match P.underlying t with
  | some .bool=>some .bool
  | some (.int k)=>some (.int k)
  | some .string=>some .str
  | some (.slice e)=>(Zih P n e).bind fun r=>if r.z=P.cellsOf e/\0<r.z then some (.sl r) else none
  | some (.struct fs)=>Zhi P (Zih P n) (P.cellsOf t) 0 fs.toList
  | some (.array k e)=>(Zih P n e).bind fun a=>if a.z=P.cellsOf e/\k*a.z=P.cellsOf t then some (Zmh k a) else none
  | _=>none
theorem zx0{α:Type}{Q:Nat->α->Prop}:∀(n:Nat),(∀i,i<n->∃x,Q i x)->∃l:List α,l.length=n/\∀i x,l[i]? = some x->Q i x
 | 0,_=>⟨[],rfl,fun i x h=>by grind⟩
 | n+1,h=>by
  obtain⟨l,hl,hq⟩:=zx0 n fun i hi=>h i (by omega);obtain⟨x,hx⟩:=h n (by omega);refine⟨l++[x],by grind,fun i y hy=>?_⟩
  grind
def Zg4(S:Nat->Nat->Prop)(ps:List MemPlace):Prop:=∀k o,MemPlace.cell k o∈ps->S k o
theorem zji{n:Nat}{g:TypeId->Option Ty}{cs:List Value}
  (ih:∀t cs x ty,DataW.trod enc P w base (fun _=>true) held n t cs=some x->g t=some ty->Zg4 S x.2->∃xs,Ok ty xs/\Zex w S cs xs) :
  ∀(fs:List Field) (off:Nat) (ty:Ty) (ys:List (DataW H×List MemPlace)),
   ys.length=fs.length->(∀(i:Nat) (f:Field),fs[i]? = some f->DataW.trod enc P w base (fun _=>true) held n f.type ((cs.drop f.offset).take (P.cellsOf f.type))=ys[i]?) ->
   Zhi P g cs.length off fs=some ty->Zg4 S (ys.flatMap (·.2))->∃xs,Ok ty xs/\Zex w S (cs.drop off) xs
 | [],off,ty,ys,hl,hm,ht,hp=>by
  simp only[Zhi]at ht;split at ht<;>cases ht;rename_i ho;exact⟨[],rfl,by rw[ho,Yaf];exact Zex.nil⟩
 | f::fs,off,ty,[],hl,hm,ht,hp=>by grind
 | f::fs,off,ty,y::ys1,hl,hm,ht,hp=>by
  obtain⟨a,ha,ht1⟩:=bind_some ht;split at ht1
  ·rename_i hc;obtain⟨ho,hz⟩:=hc;obtain⟨r,hr,rfl⟩:=map_some ht1;have hy:=hm 0 f rfl;rw[ho,<-hz]at hy;obtain⟨xs1,ho1,hr1⟩:=ih _ _ _ _ hy ha fun k o h=>hp k o (by grind);obtain⟨xs2,ho2,hr2⟩:=zji ih fs _ r ys1 (by grind) (fun i f' hf=>by simpa using hm (i+1) f' (by grind)) hr fun k o h=>hp k o (by
    grind)
   refine⟨xs1++xs2,⟨xs1,xs2,rfl,ho1,ho2⟩,?_⟩;have e:cs.drop off=(cs.drop off).take a.z++cs.drop (off+a.z):=by rw[<-Yeu,Yaw]
   rw[e];exact hr1.append hr2
  grind
theorem zlq{n:Nat}{e:TypeId}{r:Ty}(ih:∀cs x,DataW.trod enc P w base (fun _=>true) held n e cs=some x->Zg4 S x.2->∃xs,Ok r xs/\Zex w S cs xs) :
  ∀(k:Nat) (cs:List Value) (ys:List (DataW H×List MemPlace)),ys.length=k->cs.length=k*r.z ->
   (∀(i:Nat),i<k->DataW.trod enc P w base (fun _=>true) held n e ((cs.drop (i*r.z)).take r.z)=ys[i]?)->Zg4 S (ys.flatMap (·.2))->∃xs,Ok (Zmh k r) xs/\Zex w S cs xs
 | 0,cs,ys,hl,hc,hm,hp=>by
  rw[Yc2,List.length_eq_zero_iff]at hc;subst hc;exact⟨[],rfl,Zex.nil⟩
 | k+1,cs,[],hl,hc,hm,hp=>by grind
 | k+1,cs,y::ys,hl,hc,hm,hp=>by
  have hy:=hm 0 (by omega);rw[Yc2,Ybz]at hy;obtain⟨xs1,ho1,hr1⟩:=ih _ _ hy fun k o h=>hp k o (by grind);obtain⟨xs2,ho2,hr2⟩:=zlq ih k (cs.drop r.z) ys (by grind) (by grind) (fun i hi=>by
   grind[List.drop_drop]) fun k o h=>hp k o (by
    grind)
  refine⟨xs1++xs2,⟨xs1,xs2,rfl,ho1,ho2⟩,?_⟩;have e:cs=cs.take r.z++cs.drop r.z:=(Yaw ..).symm;rw[e];exact hr1.append hr2
def ztf{a:Addr}{m z:Nat}{cs:List Value}(h:w.cells? base (a.add m) z=some cs)(j:Nat)(hj:j<z):w.cell? ((a.add m).add j)=cs[j]? := (World.cells?_some h).2.2 j hj
theorem zx1{a:Addr}{v:Value}(h:w.cell? a=some v):a.spot=none:=by
 unfold World.cell? at h;split at h
 all_goals simp_all
theorem zgo:∀(n m:Nat) (t:TypeId) (cs:List Value) (x:DataW H×List MemPlace) (ty:Ty),
  DataW.trod enc P w base (fun _=>true) held n t cs=some x->Zih P m t=some ty->Zg4 S x.2->∃xs,Ok ty xs/\Zex w S cs xs
 | 0,_,_,_,_,_,h,_,_=>by simp[DataW.trod]at h
 | n+1,0,_,_,_,_,_,ht,_=>by simp[Zih]at ht
 | n+1,m+1,t,cs,x,ty,h,ht,hp=>by
  simp only[Zih]at ht;split at ht
  ·rename_i hu;cases ht;obtain⟨b,rfl,rfl⟩:=DataW.trod_bool hu h;exact⟨[.b b],⟨b,rfl⟩,Zex.one (.b b) rfl⟩
  ·rename_i k hu;cases ht;obtain⟨z,rfl,rfl,hw⟩:=DataW.trod_int hu h;exact⟨[.i k z],⟨z,rfl,hw⟩,Zex.one (.i k z) rfl⟩
  ·rename_i hu;cases ht;obtain⟨s,rfl,rfl,hs⟩:=DataW.trod_string hu h;exact⟨[.s s.data.toList],⟨_,rfl,by simp_all⟩,Zex.one (.s s.data.toList) rfl⟩
  ·rename_i e hu;obtain⟨r,hr,ht1⟩:=bind_some ht;split at ht1
   ·rename_i hz;cases ht1;obtain⟨hz,hzp⟩:=hz;rcases DataW.trod_slice hu h with ⟨rfl,rfl⟩ | ⟨a,len,cap,elems,rest,n',hn',rfl,rfl,hb,hl,hmx,hlen,hel,hsp,hns⟩
    ·exact⟨[.sl [] .nl],⟨[],.nl,rfl,Yx _,.inl ⟨rfl,rfl⟩,fun row h=>by grind⟩,Zex.one (.slnil _ (.inl rfl)) rfl⟩
    ·obtain⟨hrl,hrest⟩:=hsp rfl;have hall:∀i,i<cap->∃y cs',y∈elems++rest/\w.cells? base (a.add (i*P.cellsOf e)) (P.cellsOf e)=some cs'/\DataW.trod enc P w base (fun _=>true) held n e cs'=some y:=by
      intro i hi;by_cases hil:i<len
      ·have h1:=hel i hil;rw[Ya (by omega)]at h1;obtain⟨cs',h2,h3⟩:=bind_some h1
       grind
      ·have h1:=hrest (i-len) (by omega);rw[Ya (by omega),show len+(i-len)=i by omega]at h1;obtain⟨cs',h2,h3⟩:=bind_some h1
       grind
     by_cases hcap:cap=0
     ·have hl0:len=0:=by omega
      subst hcap;subst hl0;exact⟨[.sl [] .so],⟨[],.so,rfl,Yx _,.inr rfl,fun row h=>by grind⟩,Zex.one (.slz a _ (.inl rfl)) rfl⟩
     ·have hspot:a.spot=none:=by
       obtain⟨y,cs',_,h2,_⟩:=hall 0 (by omega);have h3:=ztf h2 0 (by omega)
       grind[World.cells?_some,zx1,Addr.add]
      obtain⟨blk,off,sp⟩:=a;have hrows:∀i,i<len->∃xs,Ok r xs/\∃cs',w.cells? base ((⟨blk,off,none⟩:Addr).add (i*P.cellsOf e)) (P.cellsOf e)=some cs'/\Zex w S cs' xs:=by
       intro i hi;obtain⟨y,cs',hy,h2,h3⟩:=hall i (by omega);obtain⟨xs,ho,hrc⟩:=zgo n m e cs' y r h3 hr fun k o hk=>hp k o (by
        grind)
       grind
      obtain⟨els,hels,hq⟩:=zx0 len hrows;refine⟨[.sl els .so],⟨els,.so,rfl,by omega,.inr rfl,fun row hrow=>?_⟩,Zex.one ?_ rfl⟩
      ·grind[List.getElem?_of_mem]
      ·have hcell:∀i j,i<els.length->j<r.z->∃v,w.cell? ⟨blk,off+i*r.z+j,none⟩=some v/\v.oneCell'=true/\∀row c,els[i]? = some row->row[j]? = some c->CP w S v c:=by
        intro i j hi hj;obtain⟨ho,cs',h2,hrc⟩:=hq i _ (Ya hi);have h3:=ztf h2 j (by omega);have h4:=(World.cells?_some h2).2.1;rw[zbn,zbn,<-hz,Ya (by omega)]at h3;have hlr:=ho.len;have h5:=hrc.2 j _ _ (Ya (by omega)) (Ya (by omega))
        grind
       have hS:∀i j,i<els.length->j<r.z->S blk (off+i*r.z+j):=by
        intro i j hi hj;refine hp _ _ ?_;rw[Y6];left;unfold MemPlace.row;rw[Yu];refine⟨i*r.z+j,?_,by rw[Yav]⟩;have h1:(i+1)*r.z<=(elems.length+rest.length)*r.z:=Yaa _ (by omega)
        grind
       have:=CP.sl (w:=w) (S:=S) blk off r.z cap els .so (fun i j=>(w.cell? ⟨blk,off+i*r.z+j,none⟩).getD undef) (by simp) (by simp) (by omega) hmx
        (fun i row hrow=>(hq i row hrow).1.len) (fun i j hi hj=>?_) (fun i row j c hrow hc=>?_)
       ·grind
       ·grind
       ·have hi:=(Yb.1 hrow).1;have hj:=(Yb.1 hc).1;rw[(hq i row hrow).1.len]at hj
        grind
   grind
  ·rename_i fs hu;obtain⟨xs,n',hn',rfl,hcl,hxl,hx⟩:=DataW.trod_struct hu h;cases hn';rw[<-hcl]at ht;have:=zji (S:=S) (g:=Zih P m) (cs:=cs) (n:=n) (fun t cs x ty h1 h2 h3=>zgo n m t cs x ty h1 h2 h3) fs.toList 0 ty xs (by omega) (fun i f hf=>hx i f (by grind)) ht hp
   grind
  ·rename_i k e hu;obtain⟨r,hr,ht1⟩:=bind_some ht;split at ht1
   ·rename_i hz;cases ht1;obtain⟨hz,hzt⟩:=hz;obtain⟨xs,n',hn',rfl,hcl,hxl,hx⟩:=DataW.trod_array hu h;cases hn';rw[<-hz]at hx;exact zlq (S:=S) (n:=n) (e:=e) (r:=r) (fun cs x h1 h3=>zgo n m e cs x r h1 hr h3) k cs xs hxl (by omega) hx hp
   grind
  grind
end
end
section
open Go.ChangeShapes Go.WideShapes Go.ChangeAt Go.RowKit
def isAgg(P:Program)(t:TypeId):Bool:=match P.underlying t with | some (.struct _)=>true | some (.array _ _)=>true | _=>false
def Zmi(P:Program)(m:Nat):List TypeId->Option (List (Bool×Ty))
 | []=>some []
 | t::ts=>(Zih P m t).bind fun a=>(Zmi P m ts).map fun r=>(isAgg P t,a)::r
def Zkn:Bool×Ty->AV->Prop
 | (true,ty),x=>∃cs,x=.agg cs/\Ok ty cs
 | (false,ty),x=>Ok ty [x]
def Zj2:List (Bool×Ty)->List AV->Prop
 | [],xs=>xs=[]
 | a::r,xs=>∃x ys,xs=x::ys/\Zkn a x/\Zj2 r ys
section
variable{H:Type}{enc:TypeId×Value->H}{P:Program}{w:World}{S:Nat->Nat->Prop}
def z2u{m:Nat}{t:TypeId}{v:Value}{d:DataW H}{p:List MemPlace}{ty:Ty}{base:Nat}(hA:DataW.Trod enc P w 0 (fun _=>true) true t v d p)(hT:Zih P m t=some ty)
  (hval:Value.okWide P w .any base t v) (hp:Zg4 S p):∃x,Zkn (isAgg P t,ty) x/\CP w S v x:=by
 obtain⟨fuel,hf⟩:=hA;obtain⟨xs,ho,hrc⟩:=zgo (S:=S) fuel m t _ _ ty hf hT hp;have hlen:=ho.len;cases hu:P.underlying t with
 | none=>cases m<;>simp[Zih,hu]at hT
 | some desc=>
  have one:∀(hag:isAgg P t=false) (hz:ty.z=1) (hv:v.cells=#[v]),∃x,Zkn (isAgg P t,ty) x/\CP w S v x:=by
   intro hag hz hv;rw[hag]
   match xs,hlen with
   | [x],_=>
    refine⟨x,ho,?_⟩;have:=hrc.2 0 v x (by grind) rfl
    grind
   | [],h=>grind
   | _::_::_,h=>grind
  cases m with
  | zero=>simp[Zih]at hT
  | succ m=>
  cases desc<;>simp only[Zih,hu]at hT<;>try (cases hT;done)
  case struct fs=>
   have hag:isAgg P t=true:=by simp[isAgg,hu]
   rw[hag];unfold Value.okWide at hval;rw[hu]at hval;obtain⟨cs,rfl,hcs,_⟩:=hval;refine⟨.agg xs,⟨xs,rfl,ho⟩,.agg cs xs ?_ ?_ ?_⟩
   ·have:=hrc.1;simpa[Value.cells]using this.symm
   ·intro j u hu;have hl:=hrc.1;have hj:j<cs.size:=(Ya8.1 hu).1;have hj':j<xs.length:=by rw[hl];simpa[Value.cells]using hj
    exact(hrc.2 j u _ (by simpa[Value.cells]using hu) (Ya hj')).2
   ·intro j u c hu hc;exact(hrc.2 j u c (by simpa[Value.cells]using hu) hc).1
  case array k e=>
   have hag:isAgg P t=true:=by simp[isAgg,hu]
   rw[hag];unfold Value.okWide at hval;rw[hu]at hval;obtain⟨cs,rfl,hcs,_⟩:=hval;refine⟨.agg xs,⟨xs,rfl,ho⟩,.agg cs xs ?_ ?_ ?_⟩
   ·have:=hrc.1;simpa[Value.cells]using this.symm
   ·intro j u hu;have hl:=hrc.1;have hj:j<cs.size:=(Ya8.1 hu).1;have hj':j<xs.length:=by rw[hl];simpa[Value.cells]using hj
    exact(hrc.2 j u _ (by simpa[Value.cells]using hu) (Ya hj')).2
   ·intro j u c hu hc;exact(hrc.2 j u c (by simpa[Value.cells]using hu) hc).1
  case bool=>
   cases hT;unfold Value.okWide Cell.okWide Cell.ok at hval;refine one (by simp[isAgg,hu]) rfl ?_;cases v<;>first | rfl | grind
  case int k=>
   cases hT;unfold Value.okWide Cell.okWide Cell.ok at hval;rw[hu]at hval;refine one (by simp[isAgg,hu]) rfl ?_;cases v<;>first | rfl | grind
  case string=>
   cases hT;unfold Value.okWide Cell.okWide Cell.ok at hval;rw[hu]at hval;refine one (by simp[isAgg,hu]) rfl ?_;cases v<;>first | rfl | grind
  case slice e=>
   obtain⟨r,hr,ht1⟩:=bind_some hT;split at ht1<;>cases ht1;unfold Value.okWide Cell.okWide Cell.ok at hval;rw[hu]at hval;refine one (by simp[isAgg,hu]) rfl ?_;cases v<;>first | rfl | grind
theorem zog{m base:Nat}:∀(ts:List TypeId) (vs:List Value) (ds:List (DataW H)) (p:List MemPlace) (tys:List (Bool×Ty)),DataW.TrodAll enc P w 0 (fun _=>true) true ts vs ds p->Zmi P m ts=some tys ->
  (∀(j:Nat) t v,ts[j]? = some t->vs[j]? = some v->Value.okWide P w .any base t v)->Zg4 S p ->
  ∃xs,Zj2 tys xs/\vs.length=xs.length/\∀(j:Nat) (v:Value) (c:AV),vs[j]? = some v->xs[j]? = some c->CP w S v c
 | [],vs,ds,p,tys,hA,hT,hval,hp=>by
  obtain⟨rfl,_,_⟩:=trodAll_nil hA;cases hT;exact⟨[],rfl,rfl,fun j v c h=>by grind⟩
 | t::ts,vs,ds,p,tys,hA,hT,hval,hp=>by
  obtain⟨v,vs1,d,ds1,a,b,rfl,rfl,rfl,h1,h2⟩:=trodAll_cons hA;obtain⟨ty,hty,hT1⟩:=bind_some hT;obtain⟨r,hr,rfl⟩:=map_some hT1;obtain⟨x,hx,hC⟩:=z2u (S:=S) h1 hty (hval 0 t v rfl rfl) fun k o h=>hp k o (Y8 _ h);obtain⟨xs,ho,hl,hc⟩:=zog (m:=m) (base:=base) ts vs1 ds1 b r h2 hr (fun j t v ht hv=>hval (j+1) t v (by grind) (by grind)) fun k o h=>hp k o (Ys _ h);refine⟨x::xs,⟨x,xs,rfl,hx,ho⟩,by grind,fun j u c hu hcc=>?_⟩
  grind
theorem ztg(hl:laidOutB P=true){W W':World}(hb:Below W.heap.size W W'){sp:Nat->Bool}:∀(ts:List TypeId) (vs:List Value) (ds:List (DataW H)) (p:List MemPlace),
  (ts.all fun t=>P.readableRec t&&decide (t<P.types.size))=true->DataW.TrodAll enc P W 0 (fun _=>true) true ts vs ds p->(∀x∈p,x.block<W.heap.size)->(∀x∈p,sp x.block=true)->DataW.TrodAll enc P W' 0 sp true ts vs ds p
 | [],_,_,_,_,hA,_,_=>by
  obtain⟨rfl,rfl,rfl⟩:=trodAll_nil hA;exact rfl
 | t::ts,vs,ds,p,hr,hA,hlt,hsp=>by
  obtain⟨v,vs1,d,ds1,a,b,rfl,rfl,rfl,h1,h2⟩:=trodAll_cons hA;rw[Ybv,Yj,Yj,decide_eq_true_eq]at hr;exact⟨a,b,WideElems.Trod_stays hl hr.1.1 hr.1.2 h1 (fun x hx=>hb.same (hlt x (Y8 _ hx))) (fun x hx=>hsp x (Y8 _ hx)),
   ztg hl hb ts vs1 ds1 b hr.2 h2 (fun x hx=>hlt x (Ys _ hx)) (fun x hx=>hsp x (Ys _ hx)),rfl⟩
theorem zx2:∀(ts:List TypeId) (vs:List Value) (ds:List (DataW H)) (p:List MemPlace),DataW.TrodAll enc P w 0 (fun _=>true) true ts vs ds p->ds.length=ts.length
 | [],_,_,_,hA=>by
  obtain⟨rfl,rfl,rfl⟩:=trodAll_nil hA
  rfl
 | t::ts,vs,ds,p,hA=>by
  obtain⟨v,vs1,d,ds1,a,b,rfl,rfl,rfl,h1,h2⟩:=trodAll_cons hA;simp[zx2 ts vs1 ds1 b h2]
def z2v{f:FuncId}{fn:Func}{s:ChangeSpec}{m tb:Nat}{tys:List (Bool×Ty)}{fresh handsOn again:Bool}(hvars:s.vars=[])(hT:Zmi P m fn.params.toList=some tys)(hl:laidOutB P=true)
  (hread:(fn.params.toList.all fun t=>P.readableRec t&&decide (t<P.types.size))=true) (hr:fn.resultTypes=#[tb]) (hb:P.underlying tb=some .bool)
  (hfn:∀ds:List (DataW H),ds.length=fn.params.toList.length->s.fn H ds={ results:=[.lit (.bool true)],args:=ds })
  (hcall:∀xs,Zj2 tys xs->Zbq P f xs (·=.b true)) {W:World} {args:Array Value} {ds gs:List (DataW H)} {before:List MemPlace} {base:Nat}
  (hval:∀(j:Nat) t v,fn.params[j]? = some t->args[j]? = some v->Value.okWide P W .any base t v) (hW:DataW.Whole enc P fn.params.toList s.vars false W args.toList ds gs before) :
  Calls P f args W fun e W'=>∃v,e=.returned v/\s.post enc P fn false fresh handsOn again W args v W':=by
 have hW':=hW;obtain⟨p,q,hA,hV,rfl,hfz,hnd⟩:=hW;rw[hvars]at hV;obtain⟨rfl,rfl⟩:=trodVars_none hV;have hlt:∀x∈p,x.block<W.heap.size:=fun x hx=>hW'.lt x (Y8 _ hx);obtain⟨xs,ho,hlen,hC⟩:=zog (S:=fun k o=>MemPlace.cell k o∈p) _ _ _ _ _ hA hT (fun j t v ht hv=>hval j t v (by grind) (by grind)) (fun k o h=>h);have hc:=(hcall xs ho).2 W (fun k o=>MemPlace.cell k o∈p) args (by omega) (fun j v c hv hc=>hC j v c (by grind) hc) (fun k o h=>hlt _ h);refine hc.mono fun e W' ⟨v,r,he,hrr,hbel,hCr⟩=>?_;subst he hrr;have hv:v=.bool true:=by cases hCr;rfl
 subst hv;have hlf:=hfn ds (zx2 _ _ _ _ hA);refine⟨_,rfl,zmu (pa:=p) (pv:=[]) hW' (fun b sp hd=>?_) (fun sp hsp=>?_) (fun sp _=>?_) rfl hbel (ok_one hr rfl (okWide_bool_mk hb _))⟩
 ·rw[Yau,hlf,hr];exact trodAll_mk1 (shut_bool hb _)
 ·grind[ztg]
 ·rw[Yau,hlf,hvars];exact rfl
end
end
theorem ziu:∀(els:List (List AV)),(∀row∈els,Ok (.int .u32) row)->∃l:List UInt32,els=Zb l
 | [],_=>⟨[],rfl⟩
 | r::els,h=>by
  obtain⟨l,rfl⟩:=ziu els fun row hr=>h row (Yk _ hr);obtain⟨n,rfl,hw⟩:=h r Yv;have h1:0<=n/\n<4294967296:=by
   simp[Lit.wf,IntKind.min,IntKind.max,IntKind.signed,IntKind.bits]at hw;omega
  refine⟨w32 n.toNat::l,?_⟩;have:(w32 n.toNat).toNat=n.toNat:=zah (by omega);simp only[Zb,Y9,this,u32];rw[Int.toNat_of_nonneg h1.1]
def z26{P:Program}{ν:Nat->FuncId}{T:Tbl}(hT:TOk P ν T)(hm:P.follows .mixedOrders=true){u:Nat}{af:AFx}{xs ys:List AV}{r:AV}(hu:T u=some af)(hl:af.lent=none)(h:Za T u ys=some r)(hx:xs.map wkA=ys):Zbq P (ν u) xs (·=r):=by
 subst hx;have h1:=zka hT hm hu hl h;exact Zbq.wk (ex:=false) h1
abbrev Fz:=Bool×List UInt32×List UInt32
abbrev Zci(x:Fz):List AV:=[.b x.1,.sl (Zb x.2.1) .an,.sl (Zb x.2.2) .an]
abbrev efz(x:Fz):AV:=.agg (Zci x)
def fv(x:Fz):Rat:=mkRat (wv x.1 x.2.1) (val x.2.2)
def fz(q:Rat):Fz:=(decide (q.num<0),ofN q.num.natAbs,ofN q.den)
@[simp] def zbi(q:Rat):fv (fz q)=q:=by
 unfold fv fz;rw[zkt,zae,Rat.mkRat_self]
def fsz(x:Fz):Nat:=max x.2.1.length x.2.2.length
def zfc(x:Fz):x.2.1.length<=fsz x:=Yet ..
def zfy(x:Fz):x.2.2.length<=fsz x:=Yeh ..
def sz(q:Rat):Nat:=max (ofN q.num.natAbs).length (ofN q.den).length
theorem zhb(q:Rat):(ofN q.num.natAbs).length<=sz q:=Yet ..
theorem zhc(q:Rat):(ofN q.den).length<=sz q:=Yeh ..
def zk0{n:Nat}(h:n≠0):1<=(ofN n).length:=by
 have:ofN n≠[]:=fun e=>h (zbl.1 e);exact Yb1.2 this
def z6c(q:Rat):1<=sz q:=Ye (zk0 q.den_nz) (zhc q)
def z6d{z:Int}{d:Nat}(h:d≠0):(mkRat z d).num.natAbs=z.natAbs/Nat.gcd z.natAbs d:=by
 rw[Rat.num_mkRat,if_neg h,Int.natAbs_ediv_of_dvd (Int.ofNat_dvd_left.2 (Nat.gcd_dvd_right ..)),Int.natAbs_natCast,Ycq]
def z6e{z:Int}{d:Nat}(h:d≠0):(mkRat z d).den=d/Nat.gcd z.natAbs d:=by
 rw[Rat.den_mkRat,if_neg h,Ycq]
def z6f{z:Int}{d:Nat}(h:d≠0):sgI (mkRat z d).num=sgI z:=by
 rw[Rat.num_mkRat,if_neg h];have hg:0<Nat.gcd d z.natAbs:=Nat.gcd_pos_of_pos_left _ (Yat h);obtain⟨k,hk⟩:((Nat.gcd d z.natAbs:Nat):Int) ∣ z:=Int.ofNat_dvd_left.2 (Nat.gcd_dvd_right ..);generalize Nat.gcd d z.natAbs=g at *
 have hg':(0:Int)<g:=by omega
 subst hk;rw[Int.mul_ediv_cancel_left _ (by omega)];unfold sgI;rcases Int.lt_trichotomy k 0 with h1 | h1 | h1
 ·have:=Int.mul_neg_of_pos_of_neg hg' h1;rw[if_pos h1,if_pos this]
 ·subst h1;simp
 ·have:=Int.mul_pos hg' h1;rw[if_neg (by omega),if_neg (by omega),if_neg (by omega),if_neg (by omega)]
def z11(z:Int):decide (z<0)=decide (sgI z<0):=by
 unfold sgI;split
 ·simp[*]
 ·split<;>simp[*]
def zaf4{z:Int}{d:Nat}(h:d≠0):decide ((mkRat z d).num<0)=decide (z<0):=by
 rw[z11,z11 z,z6f h]
def zao0(n:Bool)(x:Nat){d:Nat}(h:d≠0):fz (mkRat (sg n x) d)=(n&&decide (x≠0),ofN (x/Nat.gcd x d),ofN (d/Nat.gcd x d)):=by
 unfold fz;rw[zaf4 h,z6d h,z6e h,zud,zue]
def zgh:ofN 1=[1]:=by
 rw[zh6 (by decide),show 1/4294967296=0 from rfl,zg7]
 rfl
def zd6:sz 0=1:=by
 unfold sz;rw[Rat.zero_num,Rat.zero_den,zgh];simp
def zar(q:Rat):fsz (fz q)=sz q:=rfl
def z9u{z:Int}{d L:Nat}(hz:(ofN z.natAbs).length<=L)(hd:(ofN d).length<=L)(h1:1<=L):sz (mkRat z d)<=L:=by
 unfold sz;by_cases h:d=0
 ·subst h;rw[Rat.mkRat_zero,Rat.zero_num,Rat.zero_den,zgh];simp;omega
 ·rw[z6d h,z6e h];exact Yd9.2 ⟨Ye (zbm (Ydw _ _)) hz,Ye (zbm (Ydw _ _)) hd⟩
theorem zbd{x:Fz}{L:Nat}(h:fsz x<=L)(h1:1<=L):sz (fv x)<=L:=
 z9u (Ye (zcd _ _) (Ye (zfc x) h)) (Ye (zac _) (Ye (zfy x) h)) h1
def zb9{x y L M:Nat}(hx:(ofN x).length<=L)(hy:(ofN y).length<=M):(ofN (x*y)).length<=L+M:=by
 have:=zaw (x:=(x:Int)) (y:=(y:Int)) (L:=L) (M:=M) (by simpa using hx) (by simpa using hy);simpa[Yew]using this
theorem zig(p q:Rat):sz (p+q)<=sz p+sz q+1:=by
 rw[Rat.add_def'];have h1:=zhb p;have h2:=zhc p;have h3:=zhb q;have h4:=zhc q;have h5:=z6c p;refine z9u ?_ (Ye (zb9 h2 h4) (by omega)) (by omega);refine zen ?_ ?_
 ·exact zaw h1 (by simpa using h4)
 ·rw[Ybi];exact zaw h3 (by simpa using h2)
theorem zbz(p q:Rat):sz (p*q)<=sz p+sz q:=by
 rw[Rat.mul_def'];have h1:=zhb p;have h2:=zhc p;have h3:=zhb q;have h4:=zhc q;have h5:=z6c p;exact z9u (zaw h1 h3) (zb9 h2 h4) (by omega)
def zih(p:Rat):sz (-p)=sz p:=by
 unfold sz;rw[Rat.neg_num,Rat.neg_den,Int.natAbs_neg]
theorem zqn(p q:Rat):sz (p-q)<=sz p+sz q+1:=by
 rw[Yd7];have:=zig p (-q)
 rwa [zih]at this
def z6g(p:Rat):sz p⁻¹<=sz p:=by
 unfold sz;rw[Rat.num_inv,Rat.den_inv];by_cases h:p.num=0
 ·simp[h,zgh];have:=zk0 p.den_nz;omega
 ·rw[if_neg h,Yew,Int.natAbs_sign_of_ne_zero h,Ydy,Int.natAbs_natCast,Nat.max_comm];exact Yh _
theorem zfd(p q:Rat):sz (p/q)<=sz p+sz q:=by
 rw[Ycj];exact Ye (zbz _ _) (Nat.add_le_add_left (z6g q) _)
def sgQ(q:Rat):Int:=sgI q.num
def z6h{z:Int}{d:Nat}(h:d≠0):sgQ (mkRat z d)=sgI z:=z6f h
def z46{z:Int}:sgI z=0↔z=0:=by
 unfold sgI;split
 ·constructor<;>intro h<;>omega
 ·split<;>constructor<;>intro h<;>omega
theorem zhd{q:Rat}:sgQ q=0↔q=0:=by
 unfold sgQ;rw[z46,Rat.num_eq_zero]
def Zc(l:List Fz):List (List AV):=l.map Zci
@[simp] def zso(l:List Fz):(Zc l).length=l.length:=by simp[Zc]
@[simp] def zgi(l:List Fz):wkL (Zc l)=Zc l:=by rw[zav];simp[Zc,wkR,wkA]
@[simp] def rowF_get?(l:List Fz)(i:Nat):(Zc l)[i]? = (l[i]?).map Zci:=by simp[Zc]
@[simp] def zajq(l:List Fz)(i:Nat)(h:i<(Zc l).length):(Zc l)[i]=Zci (l[i]'(by simpa using h)):=by simp[Zc]
def zhe(l:List Fz)(x:Fz):Zc l++[Zci x]=Zc (l++[x]):=by simp[Zc]
def z47(l:List Fz)(i:Nat)(x:Fz):(Zc l).set i (Zci x)=Zc (l.set i x):=by simp[Zc,Yco]
@[simp] def zaf5(l:List Fz)(n:Nat):(Zc l).take n=Zc (l.take n):=by simp[Zc]
@[simp] def zdd:Zc []=[]:=rfl
def Z4(m:List (List Fz)):List (List AV):=m.map fun r=>[.sl (Zc r) .an]
@[simp] def z9v(l:List (List Fz)):(Z4 l).length=l.length:=by simp[Z4]
@[simp] def z9w(l:List (List Fz)):wkL (Z4 l)=Z4 l:=by rw[zav];simp[Z4,wkR,wkA]
@[simp] def matF_get?(l:List (List Fz))(i:Nat):(Z4 l)[i]? = (l[i]?).map fun r=>[.sl (Zc r) .an]:=by simp[Z4]
@[simp] def zajr(l:List (List Fz))(i:Nat)(h:i<(Z4 l).length):(Z4 l)[i]=[.sl (Zc (l[i]'(by simpa using h))) .an]:=by simp[Z4]
def zqo(l:List (List Fz))(r:List Fz):Z4 l++[[.sl (Zc r) .an]]=Z4 (l++[r]):=by simp[Z4]
@[simp] def zaf6(l:List (List Fz))(n:Nat):(Z4 l).take n=Z4 (l.take n):=by simp[Z4]
@[simp] def zaf7(l:List (List Fz))(n:Nat):(Z4 l).drop n=Z4 (l.drop n):=by simp[Z4]
@[simp] def znt:Z4 []=[]:=rfl
abbrev tyF:Ty:=.cons .bool (.cons (.sl (.int .u32)) (.cons (.sl (.int .u32)) .nil))
def z5v{cs:List AV}(h:Ok tyF cs):∃x:Fz,wkR cs=Zci x:=by
 obtain⟨c1,c2,rfl,⟨b,rfl⟩,c3,c4,rfl,⟨els,f,rfl,_,_,he⟩,c5,c6,rfl,⟨els2,f2,rfl,_,_,he2⟩,rfl⟩:=h;obtain⟨l,rfl⟩:=ziu els he;obtain⟨l2,rfl⟩:=ziu els2 he2;refine⟨(b,l,l2),?_⟩;simp[wkA,wkR]
theorem zpc:∀(els:List (List AV)),(∀r∈els,Ok tyF r)->∃l:List Fz,wkL els=Zc l
 | [],_=>⟨[],rfl⟩
 | r::els,h=>by
  obtain⟨l,hl⟩:=zpc els fun r hr=>h r (Yk _ hr);obtain⟨x,hx⟩:=z5v (h r Yv);refine⟨x::l,?_⟩;simp only[wkL,hx,hl]
  rfl
def zpd{cs:List AV}(h:Ok (.sl tyF) cs):∃l:List Fz,wkR cs=[.sl (Zc l) .an]:=by
 obtain⟨els,f,rfl,_,_,he⟩:=h;obtain⟨l,hl⟩:=zpc els he;exact⟨l,by simp[wkR,wkA,hl]⟩
def zvo{P:Program}{ν:Nat->FuncId}{l l':List (Nat×AFx)}(hT:TOk P ν fun u=>l'.lookup u)(hp:Part l l')(hm:P.follows .mixedOrders=true){u:Nat}{af:AFx}{xs ys:List AV}{r:AV}
  (hu:l'.lookup u=some af) (hl:af.lent=none) (h:Za (fun u=>l.lookup u) u ys=some r) (hx:xs.map wkA=ys):Zbq P (ν u) xs (·=r):=
 z26 hT hm hu hl (hp.call (by rw[hu];rfl) h) hx
class Zom (T:Tbl):Prop where
end Go.Ab
section
namespace Go.Ab
end Go.Ab
end
namespace Go.Ab
section
variable{T:Tbl}
def zlc(G:Nat):∀y:Nat×Nat,(y.1<18446744073709551616/\y.2<18446744073709551616/\Nat.gcd y.1 y.2=G) ->
  Zx T 0 0 (.norm false [0]) l198_0 ⟨[(0,u64 y.1),(1,u64 y.2)],[],2⟩=some (.n,⟨[(0,u64 G)],[],2⟩):=by
 refine zbg (fun y:Nat×Nat=>⟨[(0,u64 y.1),(1,u64 y.2)],[],2⟩) _ (fun y=>y.2) _ ?_
 rintro⟨x,y⟩ ⟨hx,hy,hG⟩
 simp only at hx hy hG ⊢;by_cases h:y=0
 ·right;subst h;rw[Nat.gcd_zero_right]at hG;subst hG;constructor<;>simp -implicitDefEqProofs[l198_0]
 ·left;have hm:=Ybl x (Yat h);refine⟨(y,x%y),⟨hy,by simp only;omega,by simp only;rw[<-hG,Ycq y,<-Nat.gcd_rec,Ycq]⟩,hm,?_,trivial⟩;simp -implicitDefEqProofs[l198_0,h]
end
section
variable{T:Tbl}[Zh T]
def zpf(x y:Nat)(hx:x<18446744073709551616)(hy:y<18446744073709551616):Za T 198 [u64 x,u64 y]=some (u64 (Nat.gcd x y)):=by
 have h:=zlc (T:=T) (Nat.gcd x y) (x,y) ⟨hx,hy,rfl⟩;simp only at h;rw[zaa Zh.h198 rfl,b198];simp -implicitDefEqProofs[h]
def zvu(a:List UInt32):Za T 200 [.sl (Zb (ofN (val a))) .an]=some (.b (decide (val a=1))):=by
 rw[zaa Zh.h200 rfl,b200];generalize val a=n;by_cases h0:n=0
 ·subst h0;simp -implicitDefEqProofs
 ·rw[zh6 h0];by_cases h1:n/4294967296=0
  ·have e:ofN (n/4294967296)=[]:=zbl.2 h1;have e2:n%4294967296=n:=Y4 (by omega);simp -implicitDefEqProofs[e,Zb,zel,e2]
  ·have h2:¬ ofN (n/4294967296)=[]:=fun e=>h1 (zbl.1 e);have h3:¬ n=1:=by rintro rfl;simp at h1
   have h4:¬ ((ofN (n/4294967296)).length:Int)+1=1:=by
    have:=Yb1.2 h2;omega
   simp -implicitDefEqProofs[Zb,h3,h4]
end
section
variable{T:Tbl}[Zr T][Zv T][Zw T][Zq T][Zo T][Zh T]
def z3h(G:Nat):∀y:List UInt32×List UInt32,(y.1.length<=90000/\y.2.length<=90000/\(∃n,y.1=ofN n)/\(∃n,y.2=ofN n)/\Nat.gcd (val y.1) (val y.2)=G) ->
  ∃r,(∃a b:List UInt32,r=(Ex.n,(⟨[(0,.sl (Zb a) .an),(1,.sl (Zb b) .an)],[],2⟩:St))/\a.length<=90000/\b.length<=2/\(∃n,a=ofN n)/\(∃n,b=ofN n)/\Nat.gcd (val a) (val b)=G) /\
   Zx T 0 0 (.norm false [0,1]) l199_0 ⟨[(0,.sl (Zb y.1) .an),(1,.sl (Zb y.2) .an)],[],2⟩=some r:=by
 refine zay (fun y:List UInt32×List UInt32=>⟨[(0,.sl (Zb y.1) .an),(1,.sl (Zb y.2) .an)],[],2⟩) _ (fun y=>val y.2) _ ?_
 rintro⟨a,b⟩ ⟨ha,hb,hk,hn,hG⟩
 simp only at ha hb hk hn hG ⊢;by_cases h:2<b.length
 ·left;have h':(2:Int)<b.length:=by omega
  have hv:val b≠0:=by
   obtain⟨n,rfl⟩:=hn;rw[zae]
   rintro rfl
   simp at h
  have hd:=zg5 (T:=T) a b ha hb;rw[if_neg hv]at hd;have hm:=Ybl (val a) (Yat hv);refine⟨(b,ofN (val a%val b)),⟨hb,?_,hn,⟨_,rfl⟩,?_⟩,?_,?_⟩
  ·have:=zbm (Yd4 hm);have:=zac b;simp only;omega
  ·simp only;rw[zae,<-hG,Ycq (val b),<-Nat.gcd_rec,Ycq]
  ·simp only[zae];exact hm
  ·clear hG hm hn hv hk;simp -implicitDefEqProofs[l199_0,h',hd]
 ·right;have h':¬ (2:Int)<b.length:=by omega
  refine⟨_,⟨a,b,rfl,ha,by omega,hk,hn,hG⟩,?_,?_⟩<;>clear hG<;>simp -implicitDefEqProofs[l199_0,h']
def zrs(a b:List UInt32)(ha:a.length<=90000)(hb:b.length<=90000):Za T 199 [.sl (Zb a) .an,.sl (Zb b) .an]=some (.sl (Zb (ofN (Nat.gcd (val a) (val b)))) .an):=by
 have h1:=zbo (T:=T) a (by omega);have h2:=zbo (T:=T) b (by omega);have la:=zac a;have lb:=zac b;obtain⟨G,hG⟩:∃G,G=Nat.gcd (val a) (val b):=⟨_,rfl⟩;obtain⟨_,⟨x,y,rfl,hx,hy,⟨m,rfl⟩,⟨n,rfl⟩,hg⟩,hr⟩:=z3h (T:=T) G (ofN (val a),ofN (val b)) ⟨by simp only;omega,by simp only;omega,⟨_,rfl⟩,⟨_,rfl⟩,by simp only[zae];exact hG.symm⟩;simp only at hr;rw[zae,zae]at hg;rw[zaa Zh.h199 rfl,b199,<-hG];clear hG;by_cases h0:n=0
 ·subst h0;rw[Nat.gcd_zero_right]at hg;subst hg;simp -implicitDefEqProofs[h1,h2,hr]
 ·have hv:val (ofN n)≠0:=by rw[zae];exact h0
  have hd:=zg5 (T:=T) (ofN m) (ofN n) hx (by omega);rw[if_neg hv,zae,zae]at hd;have hn64:n<18446744073709551616:=by
   have:=za6 (ofN n);rw[zae]at this;exact Yt this (Yag (by decide) hy)
  have hm:=Ybl m (Yat h0);have s1:=zpy (T:=T) (ofN n) (by omega);rw[zae,if_pos hn64]at s1;have s2:=zpy (T:=T) (ofN (m%n)) (by have:=zbm (Yd4 hm);omega);rw[zae,if_pos (by omega)]at s2;have s3:=zpf (T:=T) n (m%n) hn64 (by omega);have e:Nat.gcd n (m%n)=G:=by rw[<-hg,Ycq n,<-Nat.gcd_rec,Ycq]
  rw[e]at s3;have s4:=zic (T:=T) G (by
   rw[<-hg];exact Yd5 (Nat.gcd_le_right _ (Yat h0)) hn64)
  have hl:¬ ofN n=[]:=fun e=>h0 (zbl.1 e);simp -implicitDefEqProofs[h1,h2,hr,hd,s1,s2,s3,s4,hl,h0]
def zld(a b:List UInt32)(ha:a.length<=90000)(hb:b.length<=90000):Za T 201 [.sl (Zb a) .an,.sl (Zb b) .an] =
  some (.tup [.sl (Zb (ofN (val a/Nat.gcd (val a) (val b)))) .an,.sl (Zb (ofN (val b/Nat.gcd (val a) (val b)))) .an]):=by
 have hg:=zrs (T:=T) a b ha hb;have ho:=zvu (T:=T) (ofN (Nat.gcd (val a) (val b)));rw[zae]at ho;have ll:(ofN (Nat.gcd (val a) (val b))).length<=90000:=by
  by_cases h:val a=0
  ·rw[h,Nat.gcd_zero_left];have:=zac b;omega
  ·have:=zbm (Nat.gcd_le_left (val b) (Yat h));have:=zac a;omega
 have d1:=zg5 (T:=T) a (ofN (Nat.gcd (val a) (val b))) ha ll;have d2:=zg5 (T:=T) b (ofN (Nat.gcd (val a) (val b))) hb ll;have n1:=zbo (T:=T) a (by omega);have n2:=zbo (T:=T) b (by omega);rw[zae]at d1 d2;rw[zaa Zh.h201 rfl,b201];by_cases h0:Nat.gcd (val a) (val b)=0
 ·rw[h0]at hg ⊢;simp only[zg7]at hg;simp -implicitDefEqProofs[hg]
 ·rw[if_neg h0]at d1 d2;have hl:¬ ofN (Nat.gcd (val a) (val b))=[]:=fun e=>h0 (zbl.1 e);by_cases h1:Nat.gcd (val a) (val b)=1
  ·rw[h1]at hg ho hl ⊢;simp -implicitDefEqProofs[hg,ho,n1,n2,hl]
  ·generalize Nat.gcd (val a) (val b)=g at *
   simp -implicitDefEqProofs[hg,ho,d1,d2,hl,h0,h1]
end
section
variable{T:Tbl}[Ze T]
def zbf(n:Bool)(k:Nat):Za T 55 [.b n,.sl (Zb (ofN k)) .an]=some (ez (sg n k)):=by
 rw[zaa Ze.h55 rfl,b55,z4z];have h:(0<(ofN k).length)=(k≠0):=by
  rw[eq_iff_iff,Yb1];exact not_congr zbl
 cases n<;>simp -implicitDefEqProofs[h]
end
section
variable{T:Tbl}[Zr T][Ze T]
def zh5(n:Bool)(a:List UInt32)(ha:a.length<=1000000):Za T 38 [wh n a]=some (ez (wv n a)):=by
 have h:=zbo (T:=T) a (by omega);have hs:=zbf (T:=T) n (val a);rw[zaa Ze.h38 rfl,b38];simp -implicitDefEqProofs[h,hs,wv]
end
section
variable{T:Tbl}[Zr T][Ze T]
theorem zqd(n:Bool)(a:List UInt32)(ha:a.length<=1000000):Za T 40 [wh n a]=some (ez (-wv n a)):=by
 have h:=zbo (T:=T) a (by omega);have hs:=zbf (T:=T) (!n) (val a);rw[zafy]at hs;rw[zaa Ze.h40 rfl,b40];simp -implicitDefEqProofs[h,hs,wv]
end
section
variable{T:Tbl}[Zr T][Ze T]
theorem zmf(n m:Bool)(a b:List UInt32)(ha:a.length<=90000)(hb:b.length<=90000):Za T 23 [wh n a,wh m b]=some (ez (wv n a+wv m b)):=by
 rw[zaa Ze.h23 rfl,b23];by_cases h:n=m
 ·subst h;have hn:=z30 (T:=T) [a,b] (by simp) (by simp;omega);have hs:=zbf (T:=T) n (val a+val b);rw[zsi]at hs;have e:lls [a,b]=[[.sl (Zb a) .an],[.sl (Zb b) .an]]:=rfl;have e2:Zgt [a,b]=val a+val b:=by simp[Zgt]
  rw[e,e2]at hn;simp -implicitDefEqProofs[hn,hs,wv]
 ·have hg:=z8s (T:=T) a b (by omega) (by omega);by_cases hlt:val a<val b
  ·have hs:=zbf (T:=T) m (val b-val a);rw[z1p h hlt]at hs;simp -implicitDefEqProofs[h,hg,hlt,zej,hs,wv]
  ·have hs:=zbf (T:=T) n (val a-val b);rw[z1q h hlt]at hs;simp -implicitDefEqProofs[h,hg,hlt,zej,hs,wv]
end
section
variable{T:Tbl}[Zr T][Ze T]
theorem zmg(n m:Bool)(a b:List UInt32)(ha:a.length<=90000)(hb:b.length<=90000):Za T 25 [wh n a,wh m b]=some (ez (wv n a-wv m b)):=by
 obtain⟨z,hz⟩:∃z,z=-wv m b:=⟨_,rfl⟩;have h1:=zqd (T:=T) m b (by omega);have hl:=zcd m b;rw[<-zku,<-hz]at hl;have h2:=zmf (T:=T) n (decide (z<0)) a (ofN z.natAbs) (by omega) (by omega);have e:wv n a-wv m b=wv n a+z:=by omega
 rw[zkt,<-e]at h2;rw[<-hz]at h1;rw[zaa Ze.h25 rfl,b25];simp -implicitDefEqProofs[h1,h2]
end
section
variable{T:Tbl}[Zv T][Ze T]
def zqe(n m:Bool)(a b:List UInt32)(ha:a.length<=100000)(hb:b.length<=100000):Za T 27 [wh n a,wh m b]=some (ez (wv n a*wv m b)):=by
 have h1:=zfs (T:=T) a b ha hb;have hs:=zbf (T:=T) (n != m) (val a*val b);rw[z56]at hs;rw[zaa Ze.h27 rfl,b27];simp -implicitDefEqProofs[h1,hs,wv]
end
section
variable{T:Tbl}[Zr T][Ze T]
def zft(n:Bool)(a:List UInt32)(ha:a.length<=1000000):Za T 37 [wh n a]=some (.i .i64 (sgI (wv n a))):=by
 have h1:=zfr (T:=T) a (by omega);rw[zaa Ze.h37 rfl,b37];unfold wv;rw[z57];by_cases h:val a=0
 ·simp -implicitDefEqProofs[h1,h]
 ·cases n<;>simp -implicitDefEqProofs[h1,h]
end
section
variable{T:Tbl}[Zr T][Ze T]
theorem zw1(n m:Bool)(a b:List UInt32)(ha:a.length<=90000)(hb:b.length<=90000):Za T 36 [wh n a,wh m b]=some (.i .i64 (sgI (wv n a-wv m b))):=by
 have h1:=zmg (T:=T) n m a b ha hb;have hl:=zen (x:=wv n a) (y:=-wv m b) (L:=90000) (by have:=zcd n a;omega) (by rw[zku];have:=zcd m b;omega);rw[<-Int.sub_eq_add_neg]at hl;have h2:=zft (T:=T) (decide (wv n a-wv m b<0)) (ofN (wv n a-wv m b).natAbs) (show (ofN (wv n a-wv m b).natAbs).length<=1000000 by omega);rw[zkt]at h2;rw[zaa Ze.h36 rfl,b36];simp -implicitDefEqProofs[h1,h2]
end
section
variable{T:Tbl}[Zr T][Ze T]
def z4u(k:Int)(h1:-9223372036854775808<=k)(h2:k<9223372036854775808):Za T 41 [.i .i64 k]=some (ez k):=by
 rw[zaa Ze.h41 rfl,b41];by_cases h:k<0
 ·have hn:=zic (T:=T) k.natAbs (by omega);have hs:=zbf (T:=T) true k.natAbs;have e:sg true k.natAbs=k:=by simp[sg];omega
  have e2:Zll 0 (k%18446744073709551616).toNat=k.natAbs:=by unfold Zll;omega
  rw[e]at hs;simp -implicitDefEqProofs[h,e2,hn,hs]
 ·have hn:=zic (T:=T) k.natAbs (by omega);have hs:=zbf (T:=T) false k.natAbs;have e:sg false k.natAbs=k:=by simp[sg];omega
  have e2:(k%18446744073709551616).toNat=k.natAbs:=by omega
  rw[e]at hs;simp -implicitDefEqProofs[h,e2,hn,hs]
end
section
variable{T:Tbl}[Zr T][Z9 T][Ze T]
def zw2(n:Bool)(a:List UInt32)(ha:a.length<=1000):Za T 34 [wh n a]=some (.s (Zif (wv n a))):=by
 have h1:Za T 68 [.sl (Zb a) .an]=some (.s (Zan (val a))):=by rw[p68,zfa a ha]
 have h2:=zft (T:=T) n a (by omega);have h3:=zgf ha;have h4:1+(Zan (val a)).length<=9223372036854775807:=by omega
 rw[zaa Ze.h34 rfl,b34];unfold Zif;rw[z55];by_cases h:wv n a<0
 ·have h5:sgI (wv n a)=-1:=by unfold sgI;rw[if_pos h]
  simp -implicitDefEqProofs[h1,h2,h,h5,h4]
 ·have h5:¬ sgI (wv n a)<0:=by unfold sgI;rw[if_neg h];split<;>omega
  simp -implicitDefEqProofs[h1,h2,h,h5]
end
section
variable{T:Tbl}[Zr T][Zv T][Zw T][Zq T][Zo T][Ze T][Zh T][Zs T]
def zrx(p q:Int)(hp:(ofN p.natAbs).length<=90000)(hq:(ofN q.natAbs).length<=90000):Za T 23 [ez p,ez q]=some (ez (p+q)):=by
 grind[zmf,zkt]
def zry(p q:Int)(hp:(ofN p.natAbs).length<=90000)(hq:(ofN q.natAbs).length<=90000):Za T 25 [ez p,ez q]=some (ez (p-q)):=by
 grind[zmg,zkt]
def zrz(p q:Int)(hp:(ofN p.natAbs).length<=90000)(hq:(ofN q.natAbs).length<=90000):Za T 36 [ez p,ez q]=some (.i .i64 (sgI (p-q))):=by
 grind[zw1,zkt]
def zv0(p:Int)(hp:(ofN p.natAbs).length<=1000000):Za T 40 [ez p]=some (ez (-p)):=by
 grind[zqd,zkt]
def zv1{x d:Nat}(h:d≠0):decide (x/Nat.gcd x d≠0)=decide (x≠0):=by
 obtain⟨k,hk⟩:=Nat.gcd_dvd_left x d
 grind[Nat.mul_div_cancel_left,Nat.mul_eq_zero]
def zcc(n:Bool)(a d:List UInt32)(ha:a.length<=90000)(hd:d.length<=90000)(h:val d≠0) :
  Za T 202 [wh n a,.sl (Zb d) .an]=some (efz (fz (mkRat (wv n a) (val d)))):=by
 have e:=zao0 n (val a) h
 change fz (mkRat (wv n a) (val d))=_ at e
 have hc:=zld (T:=T) a d ha hd;have hl:(ofN (val a/Nat.gcd (val a) (val d))).length<=1000000:=by
  have:=zbm (Ydw (val a) (Nat.gcd (val a) (val d)));have:=zac a;omega
 have hn:=zh5 (T:=T) n _ hl;have e2:wv n (ofN (val a/Nat.gcd (val a) (val d)))=sg n (val a/Nat.gcd (val a) (val d)):=by unfold wv;rw[zae]
 rw[e2,z4z,zv1 h]at hn;rw[e,zaa Zs.h202 rfl,b202];simp -implicitDefEqProofs[hc,hn]
def zr0(n:Bool)(a d:List UInt32)(ha:a.length<=10000)(hd:d.length<=10000)(h:val d≠0) :
  Za T 202 [wh n a,.sl (Zb d) .an]=some (efz (fz (mkRat (wv n a) (val d)))):=zcc (T:=T) n a d (Ye ha (by decide)) (Ye hd (by decide)) h
def za1(x:Fz)(hx:fsz x<=100000):∃y:Fz,val y.2.2≠0/\fv y=fv x/\fsz y<=max 1 (fsz x)/\Za T 203 [efz x]=some (.tup [wh y.1 y.2.1,.sl (Zb y.2.2) .an]):=by
 obtain⟨n,a,d⟩:=x;have h1:=zfc (n,a,d);have h2:=zfy (n,a,d);simp only at h1 h2;have hz:=zfr (T:=T) d (by omega);by_cases h:val d=0
 ·refine⟨(false,[],[1]),by simp,?_,?_,?_⟩
  ·unfold fv;simp only[h,Rat.mkRat_zero]
   rfl
  ·show 1<=_;omega
  ·have ho:=zic (T:=T) 1 (by decide);rw[zgh]at ho;rw[zaa Zs.h203 rfl,b203];simp -implicitDefEqProofs[hz,h,ho]
 ·refine⟨(n,a,d),h,rfl,by omega,?_⟩;rw[zaa Zs.h203 rfl,b203];simp -implicitDefEqProofs[hz,h]
def zhs(k:Int)(h1:-9223372036854775808<=k)(h2:k<9223372036854775808):Za T 205 [.i .i64 k]=some (efz (fz (k:Rat))):=by
 have hw:=z4u (T:=T) k h1 h2;have ho:=zic (T:=T) 1 (by decide);have e:fz (k:Rat)=(decide (k<0),ofN k.natAbs,ofN 1):=rfl;rw[e,zaa Zs.h205 rfl,b205];simp -implicitDefEqProofs[hw,ho]
def zc8:Za T 205 [.i .i64 0]=some (efz (fz 0)):=zhs 0 (by decide) (by decide)
def ztx:Za T 205 [.i .i64 1]=some (efz (fz 1)):=zhs 1 (by decide) (by decide)
def zfo(x:Fz)(hx:fsz x<=90000):Za T 207 [efz x]=some (efz (fz (fv x))):=by
 obtain⟨⟨n,a,d⟩,h1,h2,h3,hp⟩:=za1 (T:=T) x (by omega);have la:=zfc (n,a,d);have ld:=zfy (n,a,d);simp only at la ld;have hc:=zcc (T:=T) n a d (by omega) (by omega) h1;rw[<-h2]
 change _=some (efz (fz (mkRat (wv n a) (val d))))
 rw[zaa Zs.h207 rfl,b207];simp -implicitDefEqProofs[hp,hc]
def zcz(x:Fz)(hx:fsz x<=10000):Za T 207 [efz x]=some (efz (fz (fv x))):=zfo (T:=T) x (Ye hx (by decide))
def zv2(x:Fz)(hx:fsz x<=90000):Za T 209 [efz x]=some (.i .i64 (sgQ (fv x))):=by
 obtain⟨⟨n,a,d⟩,h1,h2,h3,hp⟩:=za1 (T:=T) x (by omega);have la:=zfc (n,a,d);simp only at la;have hc:=zft (T:=T) n a (by omega);rw[<-h2];unfold fv;rw[z6h h1,zaa Zs.h209 rfl,b209];simp -implicitDefEqProofs[hp,hc]
def zpo(x:Fz)(hx:fsz x<=10000):Za T 209 [efz x]=some (.i .i64 (sgQ (fv x))):=zv2 (T:=T) x (Ye hx (by decide))
def zb8(n:Bool)(a d:List UInt32)(ha:a.length<=90000)(hd:d.length<=90000):Za T 210 [wh n a,.sl (Zb d) .an]=some (ez (wv n a*(val d:Int))):=by
 have hm:=zqe (T:=T) n false a d (by omega) (by omega);rw[show wv false d=(val d:Int) from rfl]at hm;rw[zaa Zs.h210 rfl,b210];simp -implicitDefEqProofs[hm]
def zz3(x x':Fz)(hx:fsz x<=30000)(hx':fsz x'<=30000):Za T 211 [efz x,efz x']=some (.i .i64 (sgQ (fv x-fv x'))):=by
 obtain⟨⟨n,a,d⟩,h1,h2,h3,hp⟩:=za1 (T:=T) x (by omega);obtain⟨⟨m,b,e⟩,h1',h2',h3',hp'⟩:=za1 (T:=T) x' (by omega);have la:=zfc (n,a,d);have ld:=zfy (n,a,d);have lb:=zfc (m,b,e);have le:=zfy (m,b,e);simp only at la ld lb le;have c1:=zb8 (T:=T) n a e (by omega) (by omega);have c2:=zb8 (T:=T) m b d (by omega) (by omega);have l1:(ofN (wv n a*(val e:Int)).natAbs).length<=60000:=by
  have:=zaw (x:=wv n a) (y:=(val e:Int)) (L:=30000) (M:=30000) (Ye (zcd n a) (by omega)) (Ye (zcd false e) (by omega));omega
 have l2:(ofN (wv m b*(val d:Int)).natAbs).length<=60000:=by
  have:=zaw (x:=wv m b) (y:=(val d:Int)) (L:=30000) (M:=30000) (Ye (zcd m b) (by omega)) (Ye (zcd false d) (by omega));omega
 have e1:sgQ (fv x-fv x')=sgI (wv n a*(val e:Int)-wv m b*(val d:Int)):=by
  rw[<-h2,<-h2',Yd7];unfold fv;rw[Rat.neg_mkRat,Ydx _ _ h1 h1',z6h (Yc7 h1 h1'),Int.neg_mul]
  rfl
 generalize wv n a*(val e:Int)=z1 at *
 generalize wv m b*(val d:Int)=z2 at *
 have c3:=zrz (T:=T) z1 z2 (by omega) (by omega);rw[e1,zaa Zs.h211 rfl,b211];simp -implicitDefEqProofs[hp,hp',c1,c2,c3]
def zv3(x x':Fz)(hx:fsz x<=30000)(hx':fsz x'<=30000):Za T 212 [efz x,efz x']=some (.b (decide (fv x=fv x'))):=by
 have hc:=zz3 (T:=T) x x' hx hx';have e:(sgQ (fv x-fv x') == 0)=decide (fv x=fv x'):=by
  grind[zhd]
 rw[zaa Zs.h212 rfl,b212];simp -implicitDefEqProofs[hc,e]
def zpp(x x':Fz)(hx:fsz x<=1000)(hx':fsz x'<=1000):Za T 212 [efz x,efz x']=some (.b (decide (fv x=fv x'))):=zv3 (T:=T) x x' (Ye hx (by decide)) (Ye hx' (by decide))
def zz4(x:Fz)(hx:fsz x<=90000):Za T 213 [efz x]=some (efz (fz (-fv x))):=by
 have h1:=zfo (T:=T) x hx;have hl:(ofN (fv x).num.natAbs).length<=1000000:=by
  have:=zbd (x:=x) (L:=90000) hx (by decide);have:=zhb (fv x);omega
 have h2:Za T 40 [.agg [.b (decide ((fv x).num<0)),.sl (Zb (ofN (fv x).num.natAbs)) .an]]=some (.agg [.b (decide (-(fv x).num<0)),.sl (Zb (ofN (-(fv x).num).natAbs)) .an]):=zv0 (T:=T) (fv x).num hl;generalize fv x=q at *
 have e:fz (-q)=(decide (-q.num<0),ofN (-q.num).natAbs,ofN q.den):=rfl;have e':fz q=(decide (q.num<0),ofN q.num.natAbs,ofN q.den):=rfl;rw[e,zaa Zs.h213 rfl,b213];rw[e']at h1;simp -implicitDefEqProofs[h1,h2]
def zfp(x:Fz)(hx:fsz x<=10000):Za T 213 [efz x]=some (efz (fz (-fv x))):=zz4 (T:=T) x (Ye hx (by decide))
def ze5(x x':Fz)(hx:fsz x<=30000)(hx':fsz x'<=30000):Za T 215 [efz x,efz x']=some (efz (fz (fv x+fv x'))):=by
 obtain⟨⟨n,a,d⟩,h1,h2,h3,hp⟩:=za1 (T:=T) x (by omega);obtain⟨⟨m,b,e⟩,h1',h2',h3',hp'⟩:=za1 (T:=T) x' (by omega);have la:=zfc (n,a,d);have ld:=zfy (n,a,d);have lb:=zfc (m,b,e);have le:=zfy (m,b,e);simp only at la ld lb le;have c1:=zb8 (T:=T) n a e (by omega) (by omega);have c2:=zb8 (T:=T) m b d (by omega) (by omega);have c4:=zfs (T:=T) d e (by omega) (by omega);have l1:(ofN (wv n a*(val e:Int)).natAbs).length<=60000:=by
  have:=zaw (x:=wv n a) (y:=(val e:Int)) (L:=30000) (M:=30000) (Ye (zcd n a) (by omega)) (Ye (zcd false e) (by omega));omega
 have l2:(ofN (wv m b*(val d:Int)).natAbs).length<=60000:=by
  have:=zaw (x:=wv m b) (y:=(val d:Int)) (L:=30000) (M:=30000) (Ye (zcd m b) (by omega)) (Ye (zcd false d) (by omega));omega
 have l3:(ofN (val d*val e)).length<=60000:=by
  have:=zb9 (x:=val d) (y:=val e) (L:=30000) (M:=30000) (Ye (zac d) (by omega)) (Ye (zac e) (by omega));omega
 have e1:fv x+fv x'=mkRat (wv n a*(val e:Int)+wv m b*(val d:Int)) (val d*val e):=by
  rw[<-h2,<-h2'];exact Ydx _ _ h1 h1'
 have hne:=Yc7 h1 h1';generalize wv n a*(val e:Int)=z1 at *
 generalize wv m b*(val d:Int)=z2 at *
 generalize val d*val e=D at *
 have c3:=zrx (T:=T) z1 z2 (by omega) (by omega);have c5:=zcc (T:=T) (decide (z1+z2<0)) (ofN (z1+z2).natAbs) (ofN D) (by have:=zen l1 l2;omega) (by omega) (by rw[zae];omega);rw[zkt,zae,<-e1]at c5;rw[zaa Zs.h215 rfl,b215];simp -implicitDefEqProofs[hp,hp',c1,c2,c3,c4,c5]
def zgy(x x':Fz)(hx:fsz x<=1000)(hx':fsz x'<=1000):Za T 215 [efz x,efz x']=some (efz (fz (fv x+fv x'))):=ze5 (T:=T) x x' (Ye hx (by decide)) (Ye hx' (by decide))
def zz5(x x':Fz)(hx:fsz x<=30000)(hx':fsz x'<=30000):Za T 216 [efz x,efz x']=some (efz (fz (fv x-fv x'))):=by
 obtain⟨⟨n,a,d⟩,h1,h2,h3,hp⟩:=za1 (T:=T) x (by omega);obtain⟨⟨m,b,e⟩,h1',h2',h3',hp'⟩:=za1 (T:=T) x' (by omega);have la:=zfc (n,a,d);have ld:=zfy (n,a,d);have lb:=zfc (m,b,e);have le:=zfy (m,b,e);simp only at la ld lb le;have c1:=zb8 (T:=T) n a e (by omega) (by omega);have c2:=zb8 (T:=T) m b d (by omega) (by omega);have c4:=zfs (T:=T) d e (by omega) (by omega);have l1:(ofN (wv n a*(val e:Int)).natAbs).length<=60000:=by
  have:=zaw (x:=wv n a) (y:=(val e:Int)) (L:=30000) (M:=30000) (Ye (zcd n a) (by omega)) (Ye (zcd false e) (by omega));omega
 have l2:(ofN (wv m b*(val d:Int)).natAbs).length<=60000:=by
  have:=zaw (x:=wv m b) (y:=(val d:Int)) (L:=30000) (M:=30000) (Ye (zcd m b) (by omega)) (Ye (zcd false d) (by omega));omega
 have l3:(ofN (val d*val e)).length<=60000:=by
  have:=zb9 (x:=val d) (y:=val e) (L:=30000) (M:=30000) (Ye (zac d) (by omega)) (Ye (zac e) (by omega));omega
 have e1:fv x-fv x'=mkRat (wv n a*(val e:Int)-wv m b*(val d:Int)) (val d*val e):=by
  rw[<-h2,<-h2',Yd7];unfold fv;rw[Rat.neg_mkRat,Ydx _ _ h1 h1',Int.neg_mul]
  rfl
 have hne:=Yc7 h1 h1';generalize wv n a*(val e:Int)=z1 at *
 generalize wv m b*(val d:Int)=z2 at *
 generalize val d*val e=D at *
 have c3:=zry (T:=T) z1 z2 (by omega) (by omega);have c5:=zcc (T:=T) (decide (z1-z2<0)) (ofN (z1-z2).natAbs) (ofN D) (by
  have:=zen (x:=z1) (y:=-z2) (L:=60000) l1 (by grind)
  grind) (by omega) (by rw[zae];omega)
 rw[zkt,zae,<-e1]at c5;rw[zaa Zs.h216 rfl,b216];simp -implicitDefEqProofs[hp,hp',c1,c2,c3,c4,c5]
def zgz(x x':Fz)(hx:fsz x<=1000)(hx':fsz x'<=1000):Za T 216 [efz x,efz x']=some (efz (fz (fv x-fv x'))):=zz5 (T:=T) x x' (Ye hx (by decide)) (Ye hx' (by decide))
def zkh(x x':Fz)(hx:fsz x<=30000)(hx':fsz x'<=30000):Za T 217 [efz x,efz x']=some (efz (fz (fv x*fv x'))):=by
 obtain⟨⟨n,a,d⟩,h1,h2,h3,hp⟩:=za1 (T:=T) x (by omega);obtain⟨⟨m,b,e⟩,h1',h2',h3',hp'⟩:=za1 (T:=T) x' (by omega);have la:=zfc (n,a,d);have ld:=zfy (n,a,d);have lb:=zfc (m,b,e);have le:=zfy (m,b,e);simp only at la ld lb le;have c3:=zqe (T:=T) n m a b (by omega) (by omega);have c4:=zfs (T:=T) d e (by omega) (by omega);have l1:(ofN (wv n a*wv m b).natAbs).length<=60000:=by
  have:=zaw (x:=wv n a) (y:=wv m b) (L:=30000) (M:=30000) (Ye (zcd n a) (by omega)) (Ye (zcd m b) (by omega));omega
 have l3:(ofN (val d*val e)).length<=60000:=by
  have:=zb9 (x:=val d) (y:=val e) (L:=30000) (M:=30000) (Ye (zac d) (by omega)) (Ye (zac e) (by omega));omega
 have e1:fv x*fv x'=mkRat (wv n a*wv m b) (val d*val e):=by
  rw[<-h2,<-h2'];exact Rat.mkRat_mul_mkRat _ _ _ _
 have hne:=Yc7 h1 h1';generalize wv n a*wv m b=z at *
 generalize val d*val e=D at *
 have c5:=zcc (T:=T) (decide (z<0)) (ofN z.natAbs) (ofN D) (by omega) (by omega) (by rw[zae];omega);rw[zkt,zae,<-e1]at c5;rw[zaa Zs.h217 rfl,b217];simp -implicitDefEqProofs[hp,hp',c3,c4,c5]
def zcj(x x':Fz)(hx:fsz x<=1000)(hx':fsz x'<=1000):Za T 217 [efz x,efz x']=some (efz (fz (fv x*fv x'))):=zkh (T:=T) x x' (Ye hx (by decide)) (Ye hx' (by decide))
def z8l{n m:Bool}{x y:Nat}{d e:Nat}(hy:y≠0) :
  mkRat (sg n x) d/mkRat (sg m y) e=mkRat (sg (decide (sg n x*(e:Int)<0) != m) (sg n x*(e:Int)).natAbs) (d*y):=by
 have h1:sg (decide (sg n x*(e:Int)<0) != m) (sg n x*(e:Int)).natAbs=sg n x*(e:Int)*sg m 1:=by
  grind[sg]
 rw[h1,Ycj,<-Yef,<-Yef,<-Yef,Rat.inv_divInt,Rat.divInt_mul_divInt];cases m
 ·grind[sg]
 ·simp only[sg,if_true,Yc6,Int.mul_neg,Int.mul_one,Yek];rw[<-Rat.neg_divInt_neg,Int.neg_neg]
def zpq(x x':Fz)(hx:fsz x<=30000)(hx':fsz x'<=30000):Za T 218 [efz x,efz x']=some (.tup [efz (fz (fv x/fv x')),.b (decide (fv x'≠0))]):=by
 obtain⟨⟨n,a,d⟩,h1,h2,h3,hp⟩:=za1 (T:=T) x (by omega);obtain⟨⟨m,b,e⟩,h1',h2',h3',hp'⟩:=za1 (T:=T) x' (by omega);have la:=zfc (n,a,d);have ld:=zfy (n,a,d);have lb:=zfc (m,b,e);have le:=zfy (m,b,e);simp only at la ld lb le;have cs:=zft (T:=T) m b (by omega);rw[show wv m b=sg m (val b) from rfl,z57]at cs;by_cases hb:val b=0
 ·have e0:fv x'=0:=by
   rw[<-h2'];unfold fv;rw[Rat.mkRat_eq_zero h1'];show sg m (val b)=0;rw[hb];cases m<;>rfl
  have ho:=zc8 (T:=T);rw[if_pos hb]at cs;rw[e0,Ycj,Rat.inv_zero,Rat.mul_zero,zaa Zs.h218 rfl,b218];clear h1 h2 h3 h1' h2' h3' e0;generalize fz 0=R at *
  simp -implicitDefEqProofs[hp,hp',cs,ho]
 ·rw[if_neg hb]at cs;have c1:=zb8 (T:=T) n a e (by omega) (by omega);have c4:=zfs (T:=T) d b (by omega) (by omega);have l1:(ofN (wv n a*(val e:Int)).natAbs).length<=60000:=by
   have:=zaw (x:=wv n a) (y:=(val e:Int)) (L:=30000) (M:=30000) (Ye (zcd n a) (by omega)) (Ye (zcd false e) (by omega));omega
  have l3:(ofN (val d*val b)).length<=60000:=by
   have:=zb9 (x:=val d) (y:=val b) (L:=30000) (M:=30000) (Ye (zac d) (by omega)) (Ye (zac b) (by omega));omega
  have hne0:fv x'≠0:=by
   rw[<-h2'];unfold fv;rw[Ne,Rat.mkRat_eq_zero h1'];show ¬ sg m (val b)=0;cases m<;>simp[sg,hb]
  have e1:fv x/fv x'=mkRat (sg (decide (wv n a*(val e:Int)<0) != m) (wv n a*(val e:Int)).natAbs) (val d*val b):=by
   rw[<-h2,<-h2'];exact z8l hb
  have hne:=Yc7 h1 hb;generalize wv n a*(val e:Int)=z at *
  generalize val d*val b=D at *
  have c5:=zcc (T:=T) (decide (z<0) != m) (ofN z.natAbs) (ofN D) (by omega) (by omega) (by rw[zae];omega);rw[show wv (decide (z<0) != m) (ofN z.natAbs)=sg (decide (z<0) != m) z.natAbs by unfold wv;rw[zae],zae,<-e1]at c5;have hdec:decide (fv x'≠0)=true:=by grind
  have hs:((if m=true then (-1:Int) else 1) == 0)=false:=by grind
  rw[hdec];rw[zaa Zs.h218 rfl,b218];simp -implicitDefEqProofs[hp,hp',cs,c1,c4,c5,hs]
def zfq(x x':Fz)(hx:fsz x<=1000)(hx':fsz x'<=1000):Za T 218 [efz x,efz x']=some (.tup [efz (fz (fv x/fv x')),.b (decide (fv x'≠0))]):=zpq (T:=T) x x' (Ye hx (by decide)) (Ye hx' (by decide))
end
def nrm(l:List Fz):List Fz:=l.map fun x=>fz (fv x)
def fzs(l:List Rat):List Fz:=l.map fz
def zd9{m:List Fz}{n:Nat}(h:m.length=n)(x:Fz):wkL (Zc (List.take n m)++[Zci x])=Zc (m++[x]):=by
 rw[Yc (by omega),zhe,zgi]
def zck{α β:Type}(l:List α)(f:α->β){i:Nat}(h:i<l.length):(l.take (i+1)).map f=(l.take i).map f++[f (l[i]'h)]:=by
 grind[List.take_succ_eq_append_getElem]
@[simp] def z0z:Zcu []=[]:=rfl
def Zjc(q:Rat):List UInt8:=if q.den=1 then Zif q.num else Zif q.num++47::Zan q.den
section
variable{T:Tbl}[Zr T][Zv T][Zw T][Zq T][Zo T][Z9 T][Ze T][Zh T][Zs T][Za5 T][Zb8 T]
def zsb(x:Fz)(hx:fsz x<=900):Za T 251 [efz x]=some (.s (Zjc (fv x))):=by
 have h1:=zcz (T:=T) x (by omega);have hs:=zbd (x:=x) (L:=900) hx (by decide);generalize fv x=q at *
 have l1:=zhb q;have l2:=zhc q;have e':fz q=(decide (q.num<0),ofN q.num.natAbs,ofN q.den):=rfl;have h2:=zw2 (T:=T) (decide (q.num<0)) (ofN q.num.natAbs) (by omega);rw[zkt]at h2;have h3:=zic (T:=T) 1 (by decide);have h4:=zhw (T:=T) (ofN q.den) (ofN 1) (by omega) (by rw[zgh];decide);rw[zae,zae]at h4;have h5:Za T 68 [.sl (Zb (ofN q.den)) .an]=some (.s (Zan q.den)):=by
  rw[p68,zfa _ (by omega),zae]
 have t1:(Zan q.den).length<=10000:=by
  grind[zgf,zae]
 have t2:(Zif q.num).length<=20000:=by
  grind[zgf,zae,Zif]
 rw[zaa Zb8.h251 rfl,b251];rw[e']at h1;unfold Zjc;obtain⟨D,hD⟩:∃D,D=ofN q.den:=⟨_,rfl⟩;obtain⟨A,hA⟩:∃A,A=ofN q.num.natAbs:=⟨_,rfl⟩;obtain⟨O,hO⟩:∃O,O=ofN 1:=⟨_,rfl⟩;by_cases hd:q.den=1
 ·have hc:Zgu q.den 1=0:=by rw[hd];rfl
  rw[hc]at h4;rw[if_pos hd];simp -implicitDefEqProofs[h1,h2,h3,h4]
 ·have hc:Zgu q.den 1=1:=by
   unfold Zgu;have:=q.den_pos;omega
  rw[hc]at h4;rw[if_neg hd];have b1:1+(Zan q.den).length<=9223372036854775807:=by omega
  have b2:(Zif q.num).length+((Zan q.den).length+1)<=9223372036854775807:=by omega
  simp -implicitDefEqProofs[h1,h2,h3,h4,h5,b1,b2]
def Zly(n i:Nat):St:=⟨[(3,.bs (.loc 9) 1 3 0 n),(10,.i .i64 n),(11,.i .i64 i)],[(.loc 9,⟨1,.own,3,Zc (List.replicate i (fz 0))++List.replicate (n-i) [.b false,.sl [] .an,.sl [] .an]⟩)],3⟩
def zp4(n:Nat)(hn:n<=300):Zx T 0 0 (.norm false [3]) l263_0 (Zly n 0)=some (.n,⟨[(3,.bs (.loc 9) 1 3 0 n)],[(.loc 9,⟨1,.own,3,Zc (List.replicate n (fz 0))⟩)],3⟩):=by
 refine zao (Zly n) n _ (fun i hi=>?_) ?_
 ·have h0:=zc8 (T:=T);have hw:=zbc hi (by omega);have e:(Zc (List.replicate i (fz 0))++List.replicate (n-i) [AV.b false,.sl [] .an,.sl [] .an]).set i (Zci (fz 0))=Zc (List.replicate (i+1) (fz 0))++List.replicate (n-(i+1)) [AV.b false,.sl [] .an,.sl [] .an]:=by
   rw[Ya1 _ _ (by simp),zso,Yak,Yb0,show n-i=(n-(i+1))+1 by omega,Ya6 (n:=n-(i+1)),Yb7,Ycw (n:=i),<-zhe,Yz]
   rfl
  have hl:(Zc (List.replicate i (fz 0))++List.replicate (n-i) [AV.b false,.sl [] .an,.sl [] .an]).length=n:=by simp;omega
  have hk:wkL ((Zc (List.replicate i (fz 0))++List.replicate (n-i) [AV.b false,.sl [] .an,.sl [] .an]).set i (Zci (fz 0)))=(Zc (List.replicate i (fz 0))++List.replicate (n-i) [AV.b false,.sl [] .an,.sl [] .an]).set i (Zci (fz 0)):=by
   rw[e,zav,Ybp,<-zav,zgi]
   simp_all
  have hg:(Zc (List.replicate i (fz 0))++List.replicate (n-i) [AV.b false,.sl [] .an,.sl [] .an])[i]? = some [AV.b false,.sl [] .an,.sl [] .an]:=by
   grind
  unfold Zly;rw[<-e];generalize Zc (List.replicate i (fz 0))++List.replicate (n-i) [AV.b false,.sl [] .an,.sl [] .an]=B at *
  obtain⟨hb,hgE⟩:=Yb.1 hg;simp -implicitDefEqProofs[l263_0,hi,hw,h0,hl,hk,hgE]
 ·have e:Zc (List.replicate n (fz 0))++List.replicate (n-n) [AV.b false,.sl [] .an,.sl [] .an]=Zc (List.replicate n (fz 0)):=by simp
  unfold Zly;constructor<;>simp -implicitDefEqProofs[l263_0]
def zt3(n:Nat)(hn:n<=300):Za T 263 [.i .i64 n]=some (.sl (Zc (List.replicate n (fz 0))) .an):=by
 have h:=zp4 (T:=T) n hn;unfold Zly at h;simp only[Yci,zdd,Yal,Yep,Ym]at h;have m1:¬ (n:Int)<0:=by omega
 have m2:¬ (300:Int)<n:=by omega
 have m3:(n:Int)<=4294967296:=by omega
 have hz:wkL (List.replicate n [AV.b false,.sl [] .nl,.sl [] .nl])=List.replicate n [AV.b false,.sl [] .an,.sl [] .an]:=by rw[zav,Ya9];simp_all
 rw[zaa Zb8.h263 rfl,b263];simp -implicitDefEqProofs[m1,m2,m3,h,mm2,hz]
def Zs6(l:List Fz)(i:Nat):St:=⟨[(3,.bs (.loc 3) 1 3 0 i),(6,.sl (Zc l) .an),(7,.i .i64 l.length),(8,.i .i64 i)],[(.loc 3,⟨1,.own,3,Zc (nrm (l.take i))⟩)],3⟩
def scl(c:Rat)(l:List Fz):List Fz:=l.map fun x=>fz (c*fv x)
def Zs7(c:Fz)(l:List Fz)(i:Nat):St:=⟨[(2,.ptr (.loc 2) 1 3 0 0),(5,.bs (.loc 5) 2 3 0 i),(8,.sl (Zc l) .an),(9,.i .i64 l.length),(10,.i .i64 i)],[(.loc 2,⟨1,.str,3,[Zci c]⟩),(.loc 5,⟨2,.own,3,Zc (scl (fv c) (l.take i))⟩)],4⟩
def Zkf:List Fz->List Fz->Rat
 | x::a,y::b=>fv x*fv y+Zkf a b
 | _,_=>0
def Zm7(a b:List Fz)(i:Nat):Rat:=Zkf (a.take i) (b.take i)
theorem zp5:∀(a b:List Fz) (x y:Fz),a.length=b.length->Zkf (a++[x]) (b++[y])=Zkf a b+fv x*fv y
 | [],[],x,y,_=>by simp[Zkf,Yes,Rat.zero_add]
 | u::a,v::b,x,y,h=>by
  have ih:=zp5 a b x y (by simpa using h);simp only[Ybj,Zkf,ih,Rat.add_assoc]
def zafk{a b:List Fz}(hab:a.length=b.length){i:Nat}(hi:i<a.length):Zm7 a b (i+1)=Zm7 a b i+fv (a[i]'hi)*fv (b[i]'(by omega)):=by
 grind[Zm7,List.take_succ_eq_append_getElem,zp5]
abbrev Zh1:List AV:=[.b false,.sl [] .an,.sl [] .an]
def Zs8(a b:List Fz)(i:Nat):St:=⟨[(1,.sl (Zc b) .an),(4,.ptr (.loc 4) 1 3 0 0),(6,.ptr (.loc 6) 2 3 0 0),(16,.sl (Zc a) .an),(17,.i .i64 a.length),(18,.i .i64 i)],
 [(.loc 4,⟨1,.str,3,[Zh1]⟩),(.loc 6,⟨2,.str,3,[Zci (fz (Zm7 a b i))]⟩)],4⟩
def Zlz(a b:List Fz)(i:Nat):St:=⟨[(0,.sl (Zc a) .an),(1,.sl (Zc b) .an),(12,.i .i64 a.length),(13,.i .i64 i)],[],2⟩
def z00(a b:List Fz)(hab:a.length=b.length)(hl:a.length<=1000)(ha:∀x∈a,fsz x<=1000)(hb:∀x∈b,fsz x<=1000) :
  Zx T 0 0 (.norm false []) l265_0 (Zlz a b 0)=if (a.drop 0).map fv=(b.drop 0).map fv then some (.n,⟨[],[],2⟩) else some (.r,⟨[(4,.b false)],[],2⟩):=by
 refine zbb (Zlz a b) a.length (fun i=>if (a.drop i).map fv=(b.drop i).map fv then some (.n,⟨[],[],2⟩) else some (.r,⟨[(4,.b false)],[],2⟩)) (fun i hi=>?_) ?_
 ·have hib:i<b.length:=by omega
  have hws:=zbc hi (by omega);have c:=zpp (T:=T) (a[i]'hi) (b[i]'hib) (ha _ (Y7 hi)) (hb _ (Y7 hib));have hib':(i:Int)<b.length:=by omega
  have key:((a.drop i).map fv=(b.drop i).map fv)↔(fv (a[i]'hi)=fv (b[i]'hib)/\(a.drop (i+1)).map fv=(b.drop (i+1)).map fv):=by
   grind[List.drop_eq_getElem_cons]
  by_cases he:fv (a[i]'hi)=fv (b[i]'hib)
  ·left;refine⟨?_,by grind⟩;unfold Zlz;simp -implicitDefEqProofs[l265_0,hi,hws,c,he,hib,hib']
  ·right;rw[if_neg (fun h=>he (key.1 h).1)];unfold Zlz;constructor<;>simp -implicitDefEqProofs[l265_0,hi,c,he,hib,hib']
 ·rw[Yaf,if_pos (by rw[hab,Yaf])];unfold Zlz;constructor<;>simp -implicitDefEqProofs[l265_0]
def zt4(a b:List Fz)(hl:a.length<=1000)(ha:∀x∈a,fsz x<=1000)(hb:∀x∈b,fsz x<=1000) :
  Za T 265 [.sl (Zc a) .an,.sl (Zc b) .an]=some (.b (decide (a.map fv=b.map fv))):=by
 rw[zaa Zb8.h265 rfl,b265];by_cases hab:a.length=b.length
 ·have h:=z00 (T:=T) a b hab hl ha hb;unfold Zlz at h;simp at h;have hab':(b.length:Int)=a.length:=by omega
  by_cases he:a.map fv=b.map fv
  ·simp -implicitDefEqProofs[hab',h,he]
  ·simp -implicitDefEqProofs[hab',h,he]
 ·have he:¬ a.map fv=b.map fv:=fun h=>hab (by simpa using congrArg List.length h);have hab':¬ (a.length:Int)=b.length:=by omega
  simp -implicitDefEqProofs[hab',he]
def Zf3(l:List Fz):List (List UInt8):=l.map fun x=>Zjc (fv x)
def Zm8(l:List Fz)(i:Nat):St:=⟨[(3,.bs (.loc 3) 1 1 0 i),(6,.sl (Zc l) .an),(7,.i .i64 l.length),(8,.i .i64 i)],[(.loc 3,⟨1,.own,1,Zcu (Zf3 (l.take i))⟩)],3⟩
def zp6(l:List Fz)(hl:l.length<=1000)(hw:∀x∈l,fsz x<=400) :
  Zx T 0 0 (.norm false [3]) l274_0 (Zm8 l 0)=some (.n,⟨[(3,.bs (.loc 3) 1 1 0 l.length)],[(.loc 3,⟨1,.own,1,Zcu (Zf3 l)⟩)],3⟩):=by
 refine zao (Zm8 l) l.length _ (fun i hi=>?_) ?_
 ·have hws:=zbc hi (by omega);have hn:=zsb (T:=T) (l[i]'hi) (Ye (hw _ (Y7 hi)) (by decide));have e:Zf3 (l.take (i+1))=Zf3 (l.take i)++[Zjc (fv (l[i]'hi))]:=zck l _ hi;have hml:(Zf3 (l.take i)).length=i:=by simp[Zf3];omega
  have hp:=zw7 (Zf3 (l.take i)) (Zjc (fv (l[i]'hi)));rw[hml]at hp;unfold Zm8;rw[e];have hb:i<=4294967295:=by omega
  simp -implicitDefEqProofs[l274_0,hi,hws,hn,hp,hml,hb]
 ·unfold Zm8;rw[Yc (Yh _)];constructor<;>simp -implicitDefEqProofs[l274_0]
theorem z01{q:Rat}(h:sz q<=400):(Zjc q).length<=10000:=by
 have key:∀{a:List UInt32},a.length<=400->(Zan (val a)).length<=4000:=by
  intro a ha;obtain⟨K,hK⟩:∃K,K=3999:=⟨_,rfl⟩;have h1:=za6 a;have h2:4294967296^a.length<=(10^10)^a.length:=Yd0 (by decide) _;rw[<-Ydb]at h2;have h3:10^(10*a.length)<=10^(K+1):=Yag (by decide) (by omega);have h4:=zqg (k:=K) (Yt h1 (Ye h2 h3));omega
 grind[zhb,zhc,zae,Zif,Zjc]
def z4d(l:List Fz)(hl:l.length<=1000)(hw:∀x∈l,fsz x<=400):Za T 274 [.sl (Zc l) .an]=some (.s (List.intercalate [44] (Zf3 l))):=by
 have h:=zp6 (T:=T) l hl hw;unfold Zm8 at h;have e:Zf3 (l.take 0)=[]:=rfl;rw[e]at h;simp only[z0z,Ym]at h;have hj:Za T 183 [.sl (Zcu (Zf3 l)) .an,.s [44]]=some (.s (List.intercalate [44] (Zf3 l))):=by
  grind[p183,zw8,Zf3,z01,zbd]
 have ht:List.take l.length (Zcu (Zf3 l))=Zcu (Zf3 l):=Yc (by simp[Zf3]);have hl2:(Zf3 l).length=l.length:=by simp[Zf3]
 rw[zaa Zb8.h274 rfl,b274];simp -implicitDefEqProofs[h,ht,hl2,hj]
end
def zh0{l:List Rat}{i:Nat}{q:Rat}(h:l[i]? = some q):(fzs l)[i]? = some (fz q):=by
 unfold fzs;rw[Yan,h]
 rfl
def z82(l:List Rat)(i:Nat)(q:Rat):(fzs l).set i (fz q)=fzs (l.set i q):=by
 unfold fzs;rw[Yco]
@[simp] def zaf(l:List Rat):(fzs l).length=l.length:=by simp[fzs]
def z02(l:List Fz):nrm l=fzs (l.map fv):=by unfold nrm fzs;rw[Ybo];rfl
@[simp] def zp7(l:List Rat):(fzs l).map fv=l:=by unfold fzs;rw[Ybo];simp[Function.comp_def]
def Zqa(c:Rat)(acc:List Rat)(r:List Fz):List Rat:=List.zipWith (fun q x=>q+c*fv x) acc r
def Zl0(acc:List Rat)(r:List Fz):List Rat:=List.zipWith (fun q x=>q+fv x) acc r
section
variable{T:Tbl}[Zr T][Zv T][Zw T][Zq T][Zo T][Z9 T][Ze T][Zh T][Zs T][Za5 T][Zb8 T]
def Zs9(k j n:Nat)(rest:List (List Fz))(r:List Fz)(L acc:List Rat)(i:Nat):St:=
 ⟨[(4,.bs (.fld (.loc 15) 3) 1 3 0 n),(17,.sl (Z4 rest) .an),(18,.i .i64 k),(19,.i .i64 j),(28,.sl (Zc r) .an),(29,.i .i64 n),(30,.i .i64 i)],
  [(.fld (.loc 15) 3,⟨1,.own,3,Zc (fzs (L.take i++acc.drop i))⟩)],3⟩
def Zta(n:Nat)(rest:List (List Fz))(acc:List Rat)(j:Nat):St:=
 ⟨[(4,.bs (.fld (.loc 15) 3) 1 3 0 n),(17,.sl (Z4 rest) .an),(18,.i .i64 rest.length),(19,.i .i64 j)],[(.fld (.loc 15) 3,⟨1,.own,3,Zc (fzs ((rest.take j).foldl Zl0 acc))⟩)],3⟩
end
def Zp0(p:List (Fz×List Fz))(acc:List Rat):List Rat:=p.foldl (fun a q=>Zqa (fv q.1) a q.2) acc
section
variable{T:Tbl}[Zr T][Zv T][Zw T][Zq T][Zo T][Z9 T][Ze T][Zh T][Zs T][Za5 T][Zb8 T]
def Zsh(C:List Fz)(k j n:Nat)(l:List (List Fz))(r:List Fz)(L acc:List Rat)(i:Nat):St:=
 ⟨[(0,.sl (Zc C) .an),(10,.bs (.fld (.loc 40) 9) 1 3 0 n),(11,.i .i64 k),(41,.sl (Z4 l) .an),(42,.i .i64 j),(43,.i .i64 k),(54,.sl (Zc r) .an),(55,.i .i64 n),(56,.i .i64 i)],
  [(.fld (.loc 40) 9,⟨1,.own,3,Zc (fzs (L.take i++acc.drop i))⟩)],3⟩
def Zsi(C:List Fz)(n:Nat)(l:List (List Fz))(acc:List Rat)(k:Nat):St:=
 ⟨[(0,.sl (Zc C) .an),(10,.bs (.fld (.loc 40) 9) 1 3 0 n),(41,.sl (Z4 l) .an),(42,.i .i64 l.length),(43,.i .i64 k)],[(.fld (.loc 40) 9,⟨1,.own,3,Zc (fzs (Zp0 ((C.zip l).take k) acc))⟩)],3⟩
def Zsj(C:List Fz)(l:List (List Fz))(n i:Nat):St:=⟨[(0,.sl (Zc C) .an),(1,.sl (Z4 l) .an),(2,.i .i64 n),(28,.sl (Z4 l) .an),(29,.i .i64 l.length),(30,.i .i64 i)],[],2⟩
end
abbrev agS(t h:Fz)(y0 y1 f0 f1:List Fz):AV:=
 .agg [.b t.1,.sl (Zb t.2.1) .an,.sl (Zb t.2.2) .an,.b h.1,.sl (Zb h.2.1) .an,.sl (Zb h.2.2) .an,.sl (Zc y0) .an,.sl (Zc y1) .an,.sl (Zc f0) .an,.sl (Zc f1) .an]
def Zo0(l:List Fz):Rat:=l.foldl (fun p x=>p*fv x) 1
section
variable{T:Tbl}[Zr T][Zv T][Zw T][Zq T][Zo T][Z9 T][Ze T][Zh T][Zs T][Za5 T][Zb8 T][Zom T]
def Ztj(l:List Fz)(i:Nat):St:=⟨[(2,.ptr (.loc 2) 1 3 0 0),(3,.ptr (.loc 3) 2 3 0 0),(7,.sl (Zc l) .an),(8,.i .i64 l.length),(9,.i .i64 i)],[(.loc 2,⟨1,.str,3,[Zh1]⟩),(.loc 3,⟨2,.str,3,[Zci (fz (Zo0 (l.take i)))]⟩)],4⟩
def Zqe(h:Fz)(y0 y1 f0 f1:List Fz):Bool:=decide (0<fv h)&&decide (y0.length<=300)&&decide (y1.length=y0.length)&&decide (f0.length=y0.length)&&decide (f1.length=y0.length)
end
def zvp(a b:List AV):wkR (a++b)=wkR a++wkR b:=by rw[zjz,zjz,zjz,Ybp]
abbrev tyS:Ty:=.cons tyF (.cons tyF (.cons (.sl tyF) (.cons (.sl tyF) (.cons (.sl tyF) (.cons (.sl tyF) .nil)))))
class Zol (T:Tbl):Prop where
end Go.Ab
section
namespace Go.Ab
end Go.Ab
end
namespace Go.Ab
section
variable{T:Tbl}
def Zss(Q:List UInt32)(o n s i:Nat):St:=⟨[(0,.bs (.bor 0) 0 1 o n),(1,.i .i64 s),(5,.i .i64 i)],[(.bor 0,⟨0,.own,1,Zb Q⟩)],4⟩
end
section
variable{T:Tbl}[Zb1 T][Zb2 T][Zbm T][Zb3 T][Zc7 T]
def Zst(Q R:List UInt32)(o n o2 n2 c i:Nat):St:=⟨[(0,.bs (.bor 0) 0 1 o n),(1,.bs (.bor 1) 1 1 o2 n2),(4,u64 c),(5,.i .i64 i)],[(.bor 0,⟨0,.own,1,Zb Q⟩),(.bor 1,⟨1,.own,1,Zb R⟩)],6⟩
def nmX:BId:=.fld (.loc 12) 22
def nmY:BId:=.fld (.loc 14) 22
def nm2(f:Bool):BId×BId:=if f then (nmX,nmY) else (nmY,nmX)
def Zsu(f:Bool)(P a S P2 b S2:List UInt32)(m n:Nat):St:=
 ⟨[(5,.bs (nm2 f).1 1 1 P.length a.length),(6,.bs (nm2 f).2 2 1 P2.length b.length),(7,.i .i64 m),(8,.i .i64 n)],[((nm2 f).1,⟨1,.own,1,Zb (P++(a++S))⟩),((nm2 f).2,⟨2,.own,1,Zb (P2++(b++S2))⟩)],4⟩
structure Gc where
 f:Bool
 P:List UInt32
 S:List UInt32
 P2:List UInt32
 S2:List UInt32
 X:Nat
 Y:Nat
end
end Go.Ab
section
namespace Go.Ab
end Go.Ab
end
namespace Go.Ab
section
variable{T:Tbl}[Zb1 T][Zb2 T][Zbm T][Zb3 T][Zc7 T][Zdf T][Zc0 T]
def zhz(x:Fz)(k:Nat):Za T 247 [efz x,.i .i64 k]=some (.b (decide (k<fsz x))):=by
 obtain⟨n,a,d⟩:=x;unfold fsz;rw[zaa Zc0.h247 rfl,b247];by_cases h1:k<a.length
 ·have h3:k<max a.length d.length:=by omega
  simp -implicitDefEqProofs[h1,h3]
 ·by_cases h2:k<d.length
  ·have h3:k<max a.length d.length:=by omega
   simp -implicitDefEqProofs[h1,h2,h3]
  ·have h3:¬ k<max a.length d.length:=by omega
   simp -implicitDefEqProofs[h1,h2,h3]
end
section
variable{T:Tbl}[Zb1 T][Zb2 T][Zbm T][Zb3 T][Zc7 T][Zdf T][Zc0 T][Zc1 T]
def Zsw(n i:Nat):St:=⟨[(0,.i .i64 n),(3,.bs (.loc 3) 1 3 0 i),(4,.i .i64 i)],[(.loc 3,⟨1,.own,3,Zc (List.replicate i (fz 0))⟩)],3⟩
def Zsx(l:List Fz)(i:Nat):St:=⟨[(0,.sl (Zc l) .an),(3,.bs (.loc 3) 1 3 0 i),(4,.i .i64 i)],[(.loc 3,⟨1,.own,3,Zc (nrm (l.take i))⟩)],3⟩
def Zsy(a b:List Fz)(i:Nat):St:=⟨[(0,.sl (Zc a) .an),(1,.sl (Zc b) .an),(5,.i .i64 i)],[],2⟩
def Zsz(p q:List Rat)(i:Nat):St:=⟨[(0,.sl (Zc (fzs p)) .an),(1,.sl (Zc (fzs q)) .an),(5,.bs (.loc 5) 1 3 0 i),(6,.i .i64 i)],[(.loc 5,⟨1,.own,3,Zc (fzs ((Zl0 p (fzs q)).take i))⟩)],3⟩
def Zs0(p q:List Rat)(i:Nat):St:=⟨[(0,.sl (Zc (fzs p)) .an),(1,.sl (Zc (fzs q)) .an),(4,.ptr (.loc 4) 1 3 0 0),(5,.ptr (.loc 5) 2 3 0 0),(6,.i .i64 i)],
 [(.loc 4,⟨1,.str,3,[Zh1]⟩),(.loc 5,⟨2,.str,3,[Zci (fz (Zm7 (fzs p) (fzs q) i))]⟩)],4⟩
def Zgj(l:List Fz)(many words:Nat):Bool:=decide (many<l.length) || l.any fun x=>decide (words<fsz x)
def Zij(l:List Fz)(many words:Nat)(i:Nat):St:=⟨[(0,.sl (Zc l) .an),(1,.i .i64 many),(2,.i .i64 words),(7,.i .i64 i)],[],2⟩
def zwn(l:List Fz)(many words:Nat)(hl:l.length<=many)(hm:many<=1000) :
  Zx T 0 0 (.norm false [0,1]) l286_0 (Zij l many words 0)=if (l.drop 0).any (fun x=>decide (words<fsz x))=true then some (.r,⟨[(6,.b true)],[],2⟩) else some (.n,⟨[(0,.sl (Zc l) .an),(1,.i .i64 many)],[],2⟩):=by
 refine zbb (Zij l many words) l.length (fun i=>if (l.drop i).any (fun x=>decide (words<fsz x))=true then some (.r,⟨[(6,.b true)],[],2⟩) else some (.n,⟨[(0,.sl (Zc l) .an),(1,.i .i64 many)],[],2⟩)) (fun i hi=>?_) ?_
 ·have hga:l[i]? = some (l[i]'hi):=Ya hi;have hws:=zbc hi (by omega);have c:=zhz (T:=T) (l[i]'hi) words;have h3:(i:Int)<many:=by omega
  have h4:i<many:=by omega
  have key:(l.drop i).any (fun x=>decide (words<fsz x))=(decide (words<fsz (l[i]'hi)) || (l.drop (i+1)).any fun x=>decide (words<fsz x)):=by
   rw[Yo hi,List.any_cons]
  by_cases he:words<fsz (l[i]'hi)
  ·right;rw[if_pos (by rw[key,decide_eq_true he,Bool.true_or])];rw[decide_eq_true he]at c;unfold Zij;clear key he;constructor<;>simp -implicitDefEqProofs[l286_0,hi,h3,c]
  ·left;refine⟨?_,by grind⟩;rw[decide_eq_false he]at c;unfold Zij;clear key he;simp -implicitDefEqProofs[l286_0,hi,h3,hws,c]
 ·rw[Yaf,if_neg (by simp)];unfold Zij;constructor<;>simp -implicitDefEqProofs[l286_0]
theorem zwo(l:List Fz)(many words:Nat)(hl:l.length<=many)(hm:many<=1000):Za T 286 [.sl (Zc l) .an,.i .i64 many,.i .i64 words]=some (.b (Zgj l many words)):=by
 have h:=zwn (T:=T) l many words hl hm;rw[Ybz]at h;unfold Zij at h;simp only[Ym]at h;have h1:¬ (many:Int)<l.length:=by omega
 have h2:¬ many<l.length:=by omega
 unfold Zgj;rw[zaa Zc1.h286 rfl,b286];cases hc:l.any fun x=>decide (words<fsz x) with
 | true=>
  rw[hc,if_pos rfl]at h;simp -implicitDefEqProofs[h,h2]
 | false=>
  rw[hc,if_neg (by decide)]at h;simp -implicitDefEqProofs[h,h1,h2]
def zwp(l:List Fz)(many words:Nat)(hl:many<l.length)(hm:many<=1000) :
  ∃r,(r=some (.r,(⟨[(6,.b true)],[],2⟩:St))\/r=some (.n,⟨[(0,.sl (Zc l) .an),(1,.i .i64 many)],[],2⟩))/\Zx T 0 0 (.norm false [0,1]) l286_0 (Zij l many words 0)=r:=by
 obtain⟨G,hG⟩:∃G:Nat->Option (Ex×St),G=fun i=>if ((l.take many).drop i).any (fun x=>decide (words<fsz x))=true then some (.r,⟨[(6,.b true)],[],2⟩) else some (.n,⟨[(0,.sl (Zc l) .an),(1,.i .i64 many)],[],2⟩):=⟨_,rfl⟩
 refine⟨G 0,?_,zbb (Zij l many words) many G (fun i hi=>?_) ?_⟩
 ·grind
 ·have hil:i<l.length:=by omega
  have hil':(i:Int)<l.length:=by omega
  have hga:l[i]? = some (l[i]'hil):=Ya hil;have hws:=zbc hi (by omega);have c:=zhz (T:=T) (l[i]'hil) words;have key:((l.take many).drop i).any (fun x=>decide (words<fsz x))=(decide (words<fsz (l[i]'hil)) || ((l.take many).drop (i+1)).any fun x=>decide (words<fsz x)):=by
   grind[List.drop_eq_getElem_cons]
  by_cases he:words<fsz (l[i]'hil)
  ·right;rw[hG];simp only;rw[if_pos (by rw[key,decide_eq_true he,Bool.true_or])];rw[decide_eq_true he]at c;unfold Zij;clear key he hG;constructor<;>simp -implicitDefEqProofs[l286_0,hi,hil,hil',c]
  ·left;refine⟨?_,by grind⟩;rw[decide_eq_false he]at c;unfold Zij;clear key he hG;simp -implicitDefEqProofs[l286_0,hi,hil,hil',hws,c]
 ·rw[hG];simp only;rw[Ybk (by grind),if_neg (by simp)];have h1:(many:Int)<l.length:=by omega
  unfold Zij;constructor<;>simp -implicitDefEqProofs[l286_0,h1]
theorem zsa(l:List Fz)(many words:Nat)(hl:many<l.length)(hm:many<=1000):Za T 286 [.sl (Zc l) .an,.i .i64 many,.i .i64 words]=some (.b true):=by
 obtain⟨r,hr,h⟩:=zwp (T:=T) l many words hl hm;unfold Zij at h;simp only[Ym]at h;have h1:(many:Int)<l.length:=by omega
 rw[zaa Zc1.h286 rfl,b286];rcases hr with rfl | rfl
 ·simp -implicitDefEqProofs[h]
 ·simp -implicitDefEqProofs[h,hl]
def zko(l:List Fz)(many words:Nat)(hm:many<=1000):Za T 286 [.sl (Zc l) .an,.i .i64 many,.i .i64 words]=some (.b (Zgj l many words)):=by
 grind[zsa,Zgj,zwo]
def zek{l:List Fz}{many words:Nat}(h:Zgj l many words=false):l.length<=many/\∀x∈l,fsz x<=words:=by
 grind[Zgj]
end
def Za2(n:Int):Nat:=(min (max n 0) 300).toNat
def zp8(n:Int):Za2 n<=300:=by unfold Za2;omega
section
variable{T:Tbl}[Zr T][Zv T][Zw T][Zq T][Zo T][Z9 T][Ze T][Zh T][Zs T][Za5 T][Zb8 T]
def zc3(n:Int):Z1 T 2263 [.i .i64 n] []=some (.bs (.loc 9) 1 3 0 (Za2 n),[(.loc 9,⟨1,.own,3,Zc (List.replicate (Za2 n) (fz 0))⟩)]):=by
 have hk:=zp8 n;have h:=zp4 (T:=T) (Za2 n) hk;have m2:(if (300:Int)<(if n<0 then 0 else n) then (300:Int) else (if n<0 then 0 else n))=(Za2 n:Int):=by unfold Za2;split<;>split at *<;>omega
 generalize Za2 n=k at *
 rw[show l263_0=l2263_0 from rfl]at h;unfold Zly at h;simp only[Yci,zdd,Yal,Yep,Ym]at h;have m3:(k:Int)<=4294967296:=by omega
 have hz:wkL (List.replicate k [AV.b false,.sl [] .nl,.sl [] .nl])=List.replicate k [AV.b false,.sl [] .an,.sl [] .an]:=by rw[zav,Ya9];simp[wkR,wkA]
 rw[zad Zb8.h2263 rfl,b2263];simp -implicitDefEqProofs[mm2,m2,m3,h,hz]
def Zbo(n i:Int):List Rat:=if 0<=i/\i<Za2 n then (List.replicate (Za2 n) 0).set i.toNat 1 else List.replicate (Za2 n) 0
def ze7(n i:Int):Za T 264 [.i .i64 n,.i .i64 i]=some (.sl (Zc (fzs (Zbo n i))) .an):=by
 have hz:=zc3 (T:=T) n;have c:=ztx (T:=T);have hk:=zp8 n;unfold Zbo;generalize Za2 n=k at *
 rw[zaa Zb8.h264 rfl,b264];by_cases h1:0<=i/\i<(k:Int)
 ·rw[if_pos h1];obtain⟨j,rfl⟩:∃j:Nat,i=j:=⟨i.toNat,by omega⟩;have hj:j<k:=by omega
  have e:fzs ((List.replicate k (0:Rat)).set j 1)=(List.replicate k (fz 0)).set j (fz 1):=by
   rw[<-z82];simp[fzs]
  rw[Y0,e];have hset:=z47 (List.replicate k (fz 0)) j (fz 1);have hl:(List.replicate k (fz 0)).length=k:=by simp
  have hl2:((List.replicate k (fz 0)).set j (fz 1)).length=k:=by simp
  have hg:(List.replicate k (fz 0))[j]? = some (fz 0):=by rw[Yax,if_pos hj]
  have ht:List.take k ((List.replicate k (fz 0)).set j (fz 1))=(List.replicate k (fz 0)).set j (fz 1):=Yc (by omega);have p1:(0:Int)<=j:=by omega
  have p2:(j:Int)<k:=by omega
  clear e;generalize fz 1=O at *
  generalize List.replicate k (fz 0)=Z at *
  obtain⟨_,hgE⟩:=Yb.1 hg;simp -implicitDefEqProofs[hz,c,p1,p2,hj,hset,hl,hl2,hg,hgE,ht]
 ·rw[if_neg h1];have e:fzs (List.replicate k (0:Rat))=List.replicate k (fz 0):=by simp[fzs]
  rw[e];have hl:(List.replicate k (fz 0)).length=k:=by simp
  have ht:List.take k (List.replicate k (fz 0))=List.replicate k (fz 0):=Yc (by omega);clear e;generalize List.replicate k (fz 0)=Z at *
  by_cases h2:0<=i
  ·have h3:¬ i<(k:Int):=fun h=>h1 ⟨h2,h⟩;simp -implicitDefEqProofs[hz,h2,h3,hl,ht]
  ·simp -implicitDefEqProofs[hz,h2,hl,ht]
end
section
variable{T:Tbl}[Zb1 T][Zb2 T][Zbm T][Zb3 T][Zc7 T][Zdf T][Zc0 T][Zc1 T]
def Zrl(n:Int)(i:Nat):St:=⟨[(0,.i .i64 n),(3,.bs (.loc 3) 1 3 0 i),(4,.i .i64 i)],[(.loc 3,⟨1,.own,3,Zc (List.replicate i (fz 0))⟩)],3⟩
end
def z0b{m:List (List Fz)}{n:Nat}(h:m.length=n)(r:List Fz):wkL (Z4 (List.take n m)++[[.sl (Zc r) .an]])=Z4 (m++[r]):=by
 rw[Yc (by omega),zqo,z9w]
def zps{α:Type}(l:List α){i:Nat}(h:i<l.length):l.take (i+1)=l.take i++[l[i]'h]:=Ya4 h
section
variable{T:Tbl}[Zb1 T][Zb2 T][Zbm T][Zb3 T][Zc7 T][Zdf T][Zc0 T][Zc1 T][Zd6 T][Zd7 T]
def zty(x:Fz):Za T 248 [efz x]=some (efz x):=by
 rw[zaa Zd6.h248 rfl,b248];simp -implicitDefEqProofs
def Zjb(l:List Fz)(i:Nat):St:=⟨[(0,.sl (Zc l) .an),(3,.bs (.loc 3) 1 3 0 i),(4,.i .i64 i)],[((.loc 3),⟨1,.own,3,Zc (l.take i)⟩)],3⟩
def z0c(l:List Fz)(hl:l.length<=4294967296) :
  Zx T 0 0 (.norm false [3]) l287_0 (Zjb l 0)=some (.n,⟨[(3,.bs (.loc 3) 1 3 0 (l.length))],[((.loc 3),⟨1,.own,3,Zc (l.take (l.length))⟩)],3⟩):=by
 refine zao (Zjb l) (l.length) _ (fun i hi=>?_) ?_
 ·have hws:=zbc hi (by omega);have hb:i<=4294967295:=by omega
  have hg:l[i]? = some (l[i]'hi):=Ya hi;have hn:=zty (T:=T) (l[i]'hi);have e:=zps l hi;have hml:(l.take i).length=i:=by simp;omega
  have hp:=zd9 hml (l[i]'hi);unfold Zjb;rw[e];clear e;generalize l.take i=M at *
  simp -implicitDefEqProofs[l287_0,hi,hws,hb,hp,hml,hg,hn]
 ·unfold Zjb;rw[Yc (Yh _)];constructor<;>simp -implicitDefEqProofs[l287_0]
def ztz(l:List Fz)(hl:l.length<=4294967296):Za T 287 [.sl (Zc l) .an]=some (.sl (Zc l) .an):=by
 have h:=z0c (T:=T) l hl;unfold Zjb at h;rw[Yb9,Yc (Yh _)]at h;simp only[zdd,Ym]at h;have ht:List.take l.length l=l:=Yc (Yh _);rw[zaa Zd7.h287 rfl,b287];simp -implicitDefEqProofs[h,ht]
def Zpx(l:List Fz)(i:Nat):St:=⟨[(0,.sl (Zc l) .an),(3,.bs (.loc 3) 1 3 0 i),(4,.i .i64 i)],[((.loc 3),⟨1,.own,3,Zc (l.take i)⟩)],3⟩
end
def Zaz:List (List Fz)->Nat
 | []=>0
 | r::_=>r.length
def Zg8(m:List (List Fz)):Bool:=m.all fun r=>decide (r.length=Zaz m)
def zv6{m:List (List Fz)}(h:Zg8 m=true):∀r∈m,r.length=Zaz m:=by
 intro r hr;simpa using Yn.1 h r hr
def Zf2(m:List (List Fz))(j:Nat):List Fz:=m.map fun r=>r.getD j (false,[],[])
def Zdr(m:List (List Fz))(k:Nat):List (List Fz):=(List.range k).map fun j=>nrm (Zf2 m j)
def scM(r:List Fz)(m:List (List Fz)):List (List Fz):=List.zipWith (fun x row=>scl (fv x) row) r m
def Zpu:List (List Fz)->List Rat
 | []=>[]
 | r::m=>m.foldl Zl0 (r.map fv)
def Zov(r:List Fz)(m:List (List Fz)):List Rat:=Zpu (scM r m)
def Zog(m:List (List Fz))(c:List Fz):List Rat:=m.map fun r=>Zkf r c
section
variable{T:Tbl}[Zr T][Zv T][Zw T][Zq T][Zo T][Z9 T][Ze T][Zh T][Zs T][Za5 T][Zb8 T][Zer T]
def zl7(m:List (List Fz)):Za T 290 [.sl (Z4 m) .an]=some (.i .i64 (Zaz m)):=by
 rw[zaa Zer.h290 rfl,b290];cases m with
 | nil=>simp -implicitDefEqProofs[Zaz]
 | cons r m=>
  have e1:(Z4 (r::m))[0]? = some [.sl (Zc r) .an]:=rfl;have e2:(Z4 (r::m)).length=m.length+1:=by simp
  have e3:¬ (m.length:Int)+1=0:=by omega
  unfold Zaz;generalize Z4 (r::m)=R at *
  obtain⟨_,e4⟩:=Yb.1 e1;simp -implicitDefEqProofs[e1,e2,e3,e4]
def Zjw(m:List (List Fz))(i:Nat):St:=⟨[(0,.sl (Z4 m) .an),(5,.sl (Z4 m) .an),(6,.i .i64 m.length),(7,.i .i64 i)],[],2⟩
def zr2(m:List (List Fz))(hl:m.length<=1000000) :
  Zx T 0 0 (.norm false []) l291_0 (Zjw m 0)=if (m.drop 0).all (fun r=>decide (r.length=Zaz m))=true then some (.n,⟨[],[],2⟩) else some (.r,⟨[(2,.b false)],[],2⟩):=by
 refine zbb (Zjw m) m.length (fun i=>if (m.drop i).all (fun r=>decide (r.length=Zaz m))=true then some (.n,⟨[],[],2⟩) else some (.r,⟨[(2,.b false)],[],2⟩)) (fun i hi=>?_) ?_
 ·have hg:m[i]? = some (m[i]'hi):=Ya hi;have hws:=zbc hi (by omega);have hc:=zl7 (T:=T) m;have key:(m.drop i).all (fun r=>decide (r.length=Zaz m))=(decide ((m[i]'hi).length=Zaz m)&&(m.drop (i+1)).all fun r=>decide (r.length=Zaz m)):=by
   rw[Yo hi,Ybv]
  by_cases he:(m[i]'hi).length=Zaz m
  ·left;refine⟨?_,by simp only[key,decide_eq_true he,Yct]⟩;have he':((m[i]'hi).length:Int)=Zaz m:=by omega
   unfold Zjw;clear key;simp -implicitDefEqProofs[l291_0,hi,hg,hws,hc,he,he']
  ·right;rw[if_neg (by rw[key,decide_eq_false he];simp)];have he':¬ ((m[i]'hi).length:Int)=Zaz m:=by omega
   unfold Zjw;clear key;constructor<;>simp -implicitDefEqProofs[l291_0,hi,hg,hws,hc,he,he']
 ·rw[Yaf,if_pos (by simp)];unfold Zjw;constructor<;>simp -implicitDefEqProofs[l291_0]
def zv7(m:List (List Fz))(hl:m.length<=1000000):Za T 291 [.sl (Z4 m) .an]=some (.b (Zg8 m)):=by
 have h:=zr2 (T:=T) m hl;rw[Ybz]at h;unfold Zjw at h;simp only[Ym]at h;rw[zaa Zer.h291 rfl,b291];unfold Zg8;cases hc:m.all fun r=>decide (r.length=Zaz m) with
 | true=>
  rw[hc,if_pos rfl]at h;simp -implicitDefEqProofs[h]
 | false=>
  rw[hc,if_neg (by decide)]at h;simp -implicitDefEqProofs[h]
def Zjx(a b:List (List Fz))(i:Nat):St:=⟨[(1,.sl (Z4 b) .an),(12,.sl (Z4 a) .an),(13,.i .i64 a.length),(14,.i .i64 i)],[],2⟩
def zv8(a b:List (List Fz))(hab:a.length=b.length)(hl:a.length<=1000)(hr:∀r∈a,r.length<=1000)(ha:∀r∈a,∀x∈r,fsz x<=1000)(hb:∀r∈b,∀x∈r,fsz x<=1000) :
  Zx T 0 0 (.norm false []) l293_0 (Zjx a b 0)=if (a.drop 0).map (·.map fv)=(b.drop 0).map (·.map fv) then some (.n,⟨[],[],2⟩) else some (.r,⟨[(4,.b false)],[],2⟩):=by
 refine zbb (Zjx a b) a.length (fun i=>if (a.drop i).map (·.map fv)=(b.drop i).map (·.map fv) then some (.n,⟨[],[],2⟩) else some (.r,⟨[(4,.b false)],[],2⟩)) (fun i hi=>?_) ?_
 ·have hga:a[i]? = some (a[i]'hi):=Ya hi;have hib:i<b.length:=by omega
  have hgb:b[i]? = some (b[i]'hib):=Ya hib;have hws:=zbc hi (by omega);have c:=zt4 (T:=T) (a[i]'hi) (b[i]'hib) (hr _ (Y7 hi)) (ha _ (Y7 hi)) (hb _ (Y7 hib));have hib':(i:Int)<b.length:=by omega
  have key:((a.drop i).map (·.map fv)=(b.drop i).map (·.map fv))↔((a[i]'hi).map fv=(b[i]'hib).map fv/\(a.drop (i+1)).map (·.map fv)=(b.drop (i+1)).map (·.map fv)):=by
   rw[Yo hi,Yo hib,Y9,Y9,List.cons.injEq]
  by_cases he:(a[i]'hi).map fv=(b[i]'hib).map fv
  ·left;refine⟨?_,by simp only[key,he,true_and]⟩;rw[decide_eq_true he]at c;unfold Zjx;clear key he ha hb hr;simp -implicitDefEqProofs[l293_0,hi,hga,hgb,hws,c,hib,hib']
  ·right;rw[if_neg (fun h=>he (key.1 h).1)];rw[decide_eq_false he]at c;unfold Zjx;clear key he ha hb hr;constructor<;>simp -implicitDefEqProofs[l293_0,hi,hga,hgb,hws,c,hib,hib']
 ·rw[Yaf,if_pos (by rw[hab,Yaf])];unfold Zjx;constructor<;>simp -implicitDefEqProofs[l293_0]
def zpr(a b:List (List Fz))(hl:a.length<=1000)(hr:∀r∈a,r.length<=1000)(ha:∀r∈a,∀x∈r,fsz x<=1000)(hb:∀r∈b,∀x∈r,fsz x<=1000) :
  Za T 293 [.sl (Z4 a) .an,.sl (Z4 b) .an]=some (.b (decide (a.map (·.map fv)=b.map (·.map fv)))):=by
 rw[zaa Zer.h293 rfl,b293];by_cases hab:a.length=b.length
 ·have h:=zv8 (T:=T) a b hab hl hr ha hb;rw[Ybz,Ybz]at h;unfold Zjx at h;simp only[Ym]at h;have hab':(b.length:Int)=a.length:=by omega
  by_cases he:a.map (·.map fv)=b.map (·.map fv)
  ·rw[if_pos he]at h;simp -implicitDefEqProofs[hab',h,he]
  ·rw[if_neg he]at h;simp -implicitDefEqProofs[hab',h,he]
 ·have he:¬ a.map (·.map fv)=b.map (·.map fv):=fun h=>hab (by simpa using congrArg List.length h);have hab':¬ (a.length:Int)=b.length:=by omega
  simp -implicitDefEqProofs[hab,hab',he]
def idQ(k:Nat)(i:Nat):List (List Fz):=(List.range i).map fun j=>fzs ((List.replicate k 0).set j 1)
def Zqv(k:Nat)(i:Nat):St:=⟨[(0,.i .i64 k),(3,.bs (.loc 3) 1 1 0 i),(8,.i .i64 k),(9,.i .i64 i)],[((.loc 3),⟨1,.own,1,Z4 (idQ k i)⟩)],3⟩
def zz7(m:List (List Fz))(j:Nat){i:Nat}(hi:i<m.length)(hj:j<(m[i]'hi).length):nrm (Zf2 (m.take (i+1)) j)=nrm (Zf2 (m.take i) j)++[fz (fv ((m[i]'hi)[j]'hj))]:=by
 unfold nrm Zf2;rw[zps m hi,Ybp,Ybp];simp[List.getD,Ya hj]
def zv9(m:List (List Fz))(j:Nat):Zdr m (j+1)=Zdr m j++[nrm (Zf2 m j)]:=by unfold Zdr;rw[List.range_succ,Ybp];rfl
def Zku(m R:List (List Fz))(k j:Nat)(i:Nat):St:=⟨[(0,.sl (Z4 m) .an),(3,.bs (.loc 3) 1 1 0 j),(4,.i .i64 j),(5,.bs (.loc 5) 2 3 0 i),(12,.i .i64 k),(13,.i .i64 j),(16,.sl (Z4 m) .an),(17,.i .i64 m.length),(18,.i .i64 i)],[(.loc 3,⟨1,.own,1,Z4 R⟩),((.loc 5),⟨2,.own,3,Zc (nrm (Zf2 (m.take i) j))⟩)],4⟩
def z8o(m R:List (List Fz))(k j:Nat)(hl:m.length<=1000)(hw:∀r∈m,j<r.length)(hs:∀r∈m,∀x∈r,fsz x<=1000) :
  Zx T 0 2 (.norm false [0,3,5,12,13]) l294_0 (Zku m R k j 0)=some (.n,⟨[(0,.sl (Z4 m) .an),(3,.bs (.loc 3) 1 1 0 j),(5,.bs (.loc 5) 2 3 0 m.length),(12,.i .i64 k),(13,.i .i64 j)],[(.loc 3,⟨1,.own,1,Z4 R⟩),(.loc 5,⟨2,.own,3,Zc (nrm (Zf2 m j))⟩)],4⟩):=by
 refine zao (Zku m R k j) (m.length) _ (fun i hi=>?_) ?_
 ·have hws:=zbc hi (by omega);have hb:i<=4294967295:=by omega
  have hg:m[i]? = some (m[i]'hi):=Ya hi;have hj:=hw _ (Y7 hi);have hgj:(m[i]'hi)[j]? = some ((m[i]'hi)[j]'hj):=Ya hj;have hj':(j:Int)<(m[i]'hi).length:=by omega
  have hn:=zcz (T:=T) ((m[i]'hi)[j]'hj) (Ye (hs _ (Y7 hi) _ (Y7 hj)) (by decide));have e:=zz7 m j hi hj;have hml:(nrm (Zf2 (m.take i) j)).length=i:=by simp[nrm,Zf2];omega
  have hp:=zd9 hml (fz (fv ((m[i]'hi)[j]'hj)));unfold Zku;rw[e];clear e;generalize nrm (Zf2 (m.take i) j)=M at *
  generalize fz (fv ((m[i]'hi)[j]'hj))=z at *
  clear hw hs;simp -implicitDefEqProofs[l294_0,hi,hws,hb,hp,hml,hg,hj,hj',hgj,hn]
 ·unfold Zku;rw[Yc (Yh m.length)];generalize nrm (Zf2 m j)=M;constructor<;>simp -implicitDefEqProofs[l294_0]
def Zhm(m:List (List Fz))(k:Nat)(i:Nat):St:=⟨[(0,.sl (Z4 m) .an),(3,.bs (.loc 3) 1 1 0 i),(12,.i .i64 k),(13,.i .i64 i)],[((.loc 3),⟨1,.own,1,Z4 (Zdr m i)⟩)],3⟩
def zwa(m:List (List Fz))(k:Nat)(hk:k<=1000)(hl:m.length<=1000)(hw:∀r∈m,k<=r.length)(hs:∀r∈m,∀x∈r,fsz x<=1000) :
  Zx T 0 0 (.norm false [3]) l294_1 (Zhm m k 0)=some (.n,⟨[(3,.bs (.loc 3) 1 1 0 (k))],[((.loc 3),⟨1,.own,1,Z4 (Zdr m (k))⟩)],3⟩):=by
 refine zao (Zhm m k) (k) _ (fun i hi=>?_) ?_
 ·have hws:=zbc hi (by omega);have hb:i<=4294967295:=by omega
  have hin:=z8o (T:=T) m (Zdr m i) k i hl (fun r hr=>by have:=hw r hr;omega) hs;have e:=zv9 m i;have hml:(Zdr m i).length=i:=by simp[Zdr]
  have hp:=z0b hml (nrm (Zf2 m i));have hcl:(nrm (Zf2 m i)).length=m.length:=by simp[nrm,Zf2]
  have ht:List.take m.length (nrm (Zf2 m i))=nrm (Zf2 m i):=Yc (by omega);unfold Zku at hin;rw[show nrm (Zf2 (m.take 0) i)=[] from rfl]at hin;simp only[zdd,Ym]at hin;unfold Zhm;rw[e];clear e;generalize Zdr m i=M at *
  generalize nrm (Zf2 m i)=w at *
  clear hw hs;simp -implicitDefEqProofs[l294_1,hi,hws,hb,hp,hml,hin,hcl,ht]
 ·unfold Zhm;constructor<;>simp -implicitDefEqProofs[l294_1]
def zz8(m:List (List Fz))(hl:m.length<=1000)(hk:Zaz m<=1000)(hs:∀r∈m,∀x∈r,fsz x<=1000):Za T 294 [.sl (Z4 m) .an]=some (.sl (Z4 (if Zg8 m then Zdr m (Zaz m) else [])) .an):=by
 have hr:=zv7 (T:=T) m (by omega);have hwd:=zl7 (T:=T) m;rw[zaa Zer.h294 rfl,b294];cases hc:Zg8 m with
 | false=>
  rw[hc]at hr;simp -implicitDefEqProofs[hr]
 | true=>
  rw[hc]at hr;have h:=zwa (T:=T) m (Zaz m) hk hl (fun r hr=>by rw[zv6 hc r hr];exact Yh _) hs;unfold Zhm at h;rw[show Zdr m 0=[] from rfl]at h;simp only[znt,Ym]at h;have hml:(Zdr m (Zaz m)).length=Zaz m:=by simp[Zdr]
  have ht:List.take (Zaz m) (Zdr m (Zaz m))=Zdr m (Zaz m):=Yc (by omega);rw[if_pos rfl];generalize Zdr m (Zaz m)=M at *
  generalize Zaz m=k at *
  simp -implicitDefEqProofs[hr,hwd,h,ht,hml]
end
section
variable{T:Tbl}[Zr T][Zv T][Zw T][Zq T][Zo T][Z9 T][Ze T][Zh T][Zs T][Za5 T][Zb8 T][Zer T]
def Zqw(r:List Fz)(m:List (List Fz))(i:Nat):St:=⟨[(0,.sl (Zc r) .an),(6,.bs (.loc 6) 1 1 0 i),(19,.sl (Z4 m) .an),(20,.i .i64 m.length),(21,.i .i64 i)],[((.loc 6),⟨1,.own,1,Z4 (scM (r.take i) (m.take i))⟩)],3⟩
def Zqx(m:List (List Fz))(c:List Fz)(i:Nat):St:=⟨[(1,.sl (Zc c) .an),(6,.bs (.loc 6) 1 3 0 i),(21,.sl (Z4 m) .an),(22,.i .i64 m.length),(23,.i .i64 i)],[((.loc 6),⟨1,.own,3,Zc (fzs (Zog (m.take i) c))⟩)],3⟩
def Zpv(a b:List (List Fz)):List (List Fz):=a.map fun r=>fzs (Zov r b)
def Zqy(a m:List (List Fz))(i:Nat):St:=⟨[(1,.sl (Z4 m) .an),(6,.bs (.loc 6) 1 1 0 i),(26,.sl (Z4 a) .an),(27,.i .i64 a.length),(28,.i .i64 i)],[((.loc 6),⟨1,.own,1,Z4 (Zpv (a.take i) m)⟩)],3⟩
def Zpw(a b:List (List Fz)):List (List Fz):=List.zipWith (fun r s=>fzs (Zl0 (r.map fv) s)) a b
def Zqz(a m:List (List Fz))(i:Nat):St:=⟨[(1,.sl (Z4 m) .an),(6,.bs (.loc 6) 1 1 0 i),(33,.sl (Z4 a) .an),(34,.i .i64 a.length),(35,.i .i64 i)],[((.loc 6),⟨1,.own,1,Z4 (Zpw (a.take i) (m.take i))⟩)],3⟩
end
def Zo9:List Rat->List Rat->Rat
 | x::a,y::b=>x*y+Zo9 a b
 | _,_=>0
def Zqi(m:List (List Fz)):List (List Rat):=m.map fun r=>r.map fv
def fzM(L:List (List Rat)):List (List Fz):=L.map fzs
def Znd:List (List Rat)->Nat
 | []=>0
 | r::_=>r.length
def Zqj(L:List (List Rat)):Bool:=L.all fun r=>decide (r.length=Znd L)
def Zoi(L:List (List Rat))(j:Nat):List Rat:=L.map fun p=>p.getD j 0
def Zpa(L:List (List Rat)):List (List Rat):=(List.range (Znd L)).map (Zoi L)
def Zne(L:List (List Rat))(c:List Rat):List Rat:=L.map fun p=>Zo9 p c
def Zrp(r:List Rat)(L:List (List Rat)):List Rat:=Zne (Zpa L) r
def Zou(q:Rat):Rat:=if q<0 then -q else q
def Zpf(c:Rat)(l:List Rat):List Rat:=l.map fun x=>c*x
def Zqm(a b:List Rat):List Rat:=List.zipWith (· + ·) a b
def Znt(b x:Rat):Rat:=if b<Zou x then Zou x else b
def Zn7(l:List Rat):Rat:=l.foldl Znt 0
def Zqn:List (Rat×List Rat)->List Rat->List Rat
 | [],acc=>acc
 | p::l,acc=>Zqn l (Zqm acc (Zpf p.1 p.2))
def sqC:List UInt32->Nat
 | []=>0
 | x::r=>4294967296*(x.toNat*val r)+4294967296*4294967296*sqC r
def sqD:List UInt32->Nat
 | []=>0
 | x::r=>x.toNat*x.toNat+4294967296*4294967296*sqD r
section
variable{T:Tbl}[Z2 T][Zr T][Zv T][Zw T][Zbk T]
def ziz(a:List UInt32)(ha:a.length<=1000000):Za T 356 [.sl (Zb a) .an]=some (.i .i64 (Zbh (val a))):=by
 have h1:=zbo (T:=T) a (by omega);have hl:=zac a;have hv:val (ofN (val a))=val a:=zae _;rw[zaa Zbk.h356 rfl,b356];by_cases h0:val a=0
 ·have e:ofN (val a)=[]:=zbl.2 h0;have eb:Zbh (val a)=0:=by rw[h0];rfl
  rw[e]at h1;rw[eb];simp -implicitDefEqProofs[h1]
 ·have hne:ofN (val a)≠[]:=fun h=>h0 (zbl.1 h);obtain⟨B,x,hB⟩:∃B x,ofN (val a)=B++[x]:=⟨_,_,(List.dropLast_concat_getLast hne).symm⟩;have hx0:x.toNat≠0:=by
   intro hx;have e1:val (ofN (val a))=val B:=by
    rw[hB,zal];simp[hx]
   have e2:ofN (val B)=ofN (val a):=by rw[<-e1,zae]
   have e3:=zac B;rw[e2,hB]at e3;simp at e3;omega
  have hlog:Zbh (val a)=32*B.length+Zbh x.toNat:=by
   have hdiv:val a/2^(32*B.length)=x.toNat:=by
    have e1:val a=val B+4294967296^B.length*x.toNat:=by
     rw[<-hv,hB,zal];simp
    have e2:2^(32*B.length)=4294967296^B.length:=by
     rw[Ydb]
    have e3:=za6 B;rw[e2,e1,Ydp _ _ (by omega),Yb4 e3,Yad]
   have:=zmb (n:=val a) (s:=32*B.length) (by rw[hdiv];exact hx0);rw[hdiv]at this;exact this
  have hbl:B.length+1<=1000000:=by
   have:=congrArg List.length hB;simp at this;omega
  have hL:=zt2 (T:=T) x;have hb32:Zbh x.toNat<=32:=by
   have hx:=zam x;unfold Zbh;split
   ·omega
   ·have:=(Yed (n:=x.toNat) (k:=32) (by assumption)).2 (by omega);omega
  rw[hB]at h1;rw[hlog];have w2:IntKind.wrap .i64 (32*(B.length:Int))=32*(B.length:Int):=zab _ (by omega);have w3:IntKind.wrap .i64 (32*(B.length:Int)+(Zbh x.toNat:Int))=32*(B.length:Int)+(Zbh x.toNat:Int):=zab _ (by omega);have w4:IntKind.wrap .i64 (B.length:Int)=B.length:=zab _ (by omega);have n1:¬ (B.length:Int)+1=0:=by omega
  have n2:(B.length:Int)<(B.length:Int)+1:=by omega
  simp -implicitDefEqProofs[h1,hL,w2,w3,w4,n1,n2]
def Zq8(a X:List UInt32)(i:Nat):St:=
 ⟨[(0,.sl (Zb a) .an),(3,.bs (.loc 14) 1 1 0 (2*a.length+1)),(15,.sl (Zb a) .an),(16,.i .i64 a.length),(17,.i .i64 i)],[(.loc 14,⟨1,.own,1,Zb (X++List.replicate (a.length+1-i) 0)⟩)],3⟩
def Zq9(a X:List UInt32)(U:List (List AV))(i:Nat):St:=
 ⟨[(6,.sl U .an),(7,.bs (.loc 38) 1 1 0 (2*a.length)),(39,.sl (Zb a) .an),(40,.i .i64 a.length),(41,.i .i64 i)],[(.loc 38,⟨1,.own,1,Zb (X++List.replicate (2*a.length-2*i) 0)⟩)],3⟩
end
class Zob (T:Tbl):Prop where
class Zmt (T:Tbl):Prop where
section
variable{T:Tbl}[Zb1 T][Zb2 T][Zbm T][Zb3 T][Zc7 T][Zdf T][Zc0 T][Zc1 T][Zmt T]
def Zrd(m:List (List Fz))(i:Nat):St:=⟨[(0,.sl (Z4 m) .an),(3,.i .i64 i)],[],2⟩
def Zre(m:List (List Fz))(i:Nat):St:=⟨[(0,.sl (Z4 m) .an),(3,.bs (.loc 3) 1 1 0 i),(4,.i .i64 i)],[((.loc 3),⟨1,.own,1,Z4 (fzM (Zqi (m.take i)))⟩)],3⟩
def Zrf(a b:List (List Fz))(i:Nat):St:=⟨[(0,.sl (Z4 a) .an),(1,.sl (Z4 b) .an),(5,.i .i64 i)],[],2⟩
def Zrg(n:Int)(k:Nat)(i:Nat):St:=⟨[(0,.i .i64 n),(3,.bs (.loc 3) 1 1 0 i),(4,.i .i64 i)],[((.loc 3),⟨1,.own,1,Z4 (idQ k i)⟩)],3⟩
def Zp8(L:List (List Rat))(R:List (List Fz))(j:Nat)(i:Nat):St:=⟨[(0,.sl (Z4 (fzM L)) .an),(3,.bs (.loc 3) 1 1 0 j),(4,.i .i64 j),(5,.bs (.loc 5) 2 3 0 i),(6,.i .i64 i)],[(.loc 3,⟨1,.own,1,Z4 R⟩),((.loc 5),⟨2,.own,3,Zc (fzs (Zoi (L.take i) j))⟩)],4⟩
def Zp9(L:List (List Rat))(i:Nat):St:=⟨[(0,.sl (Z4 (fzM L)) .an),(3,.bs (.loc 3) 1 1 0 i),(4,.i .i64 i)],[((.loc 3),⟨1,.own,1,Z4 (fzM ((List.range i).map (Zoi L)))⟩)],3⟩
def Zrh(L:List (List Rat))(c:List Rat)(i:Nat):St:=⟨[(0,.sl (Z4 (fzM L)) .an),(1,.sl (Zc (fzs c)) .an),(5,.bs (.loc 5) 1 3 0 i),(6,.i .i64 i)],[((.loc 5),⟨1,.own,3,Zc (fzs (Zne (L.take i) c))⟩)],3⟩
def Zri(m:List (List Fz))(many words:Nat):Bool:=decide (many<m.length) || m.any fun r=>Zgj r many words
def Zrj(m:List (List Fz))(many words:Nat)(i:Nat):St:=⟨[(0,.sl (Z4 m) .an),(1,.i .i64 many),(2,.i .i64 words),(7,.i .i64 i)],[],2⟩
end
def zae6{l:List Rat}{B:Nat}(h:∀q∈l,sz q<=B):∀x∈fzs l,fsz x<=B:=by
 intro x hx;obtain⟨q,hq,rfl⟩:=Yu.1 hx;exact h q hq
section
variable{T:Tbl}[Zr T][Zv T][Zw T][Zq T][Zo T][Z9 T][Ze T][Zh T][Zs T][Za5 T][Zb8 T][Zer T][Zb1 T][Zb2 T][Zbm T][Zb3 T][Zc7 T][Zdf T][Zc0 T][Zc1 T][Zmt T][Zd6 T][Zd7 T][Zob T]
def Zpy(m:List (List Fz))(i:Nat):St:=⟨[(0,.sl (Z4 m) .an),(3,.bs (.loc 3) 1 1 0 i),(4,.i .i64 i)],[((.loc 3),⟨1,.own,1,Z4 (m.take i)⟩)],3⟩
def Zpz(a b:List (List Fz))(i:Nat):St:=⟨[(0,.sl (Z4 a) .an),(1,.sl (Z4 b) .an),(5,.i .i64 i)],[],2⟩
def zae7{q:Rat}(h1:q.num.natAbs<4294967296)(h2:q.den<4294967296):sz q<=1:=Yd9.2 ⟨zap (by omega),zap (by omega)⟩
end
class Zok (T:Tbl):Prop where
def Zox(l:List Rat):Nat->Nat
 | 0=>0
 | n+1=>if l.getD n 0=0 then Zox l n else n+1
def Zq7(l:List Rat):List Rat:=l.take (Zox l l.length)
def z0o(M:List Fz):Option.all (fun r:List AV=>decide (r.length=3)) (Zc M).head? = true:=by cases M<;>rfl
section
variable{T:Tbl}[Zr T][Zv T][Zw T][Zq T][Zo T][Z9 T][Ze T][Zh T][Zs T][Za5 T][Zb8 T][Zok T]
def Zp2:List Rat->Rat->Rat
 | [],_=>0
 | a::l,x=>Zp2 l x*x+a
def dif(l:List Rat):List Rat:=(List.range (l.length-1)).map fun(i:Nat)=>(((i:Int)+1:Int):Rat)*l.getD (i+1) 0
def Zsm(l:List Fz)(i:Nat):St:=⟨[(0,.sl (Zc l) .an),(3,.bs (.loc 3) 1 3 0 i),(4,.i .i64 ((i:Int)+1))],[((.loc 3),⟨1,.own,3,Zc (fzs ((dif (l.map fv)).take i))⟩)],3⟩
end
def Zby(x:Fz):Nat:=Zbh (val x.2.1)+Zbh (val x.2.2)
def Zqb(l:List Fz):Nat:=l.foldl (fun n x=>max n (Zby x)) 0
def zi0{x k:Nat}(h:(ofN x).length<=k):Zbh x<=32*k:=by
 unfold Zbh;split
 ·omega
 ·next h0=>
  have h1:=za6 (ofN x);rw[zae]at h1;have h2:4294967296^(ofN x).length<=4294967296^k:=Yag (by decide) h;have h3:(4294967296:Nat)^k=2^(32*k):=by rw[Ydb]
  have:=(Yed (n:=x) (k:=32*k) h0).2 (by omega);omega
section
variable{T:Tbl}[Z2 T][Zr T][Zv T][Zw T][Zq T][Zo T][Z9 T][Ze T][Zh T][Zs T][Zbv T][Z5 T][Zbk T][Za5 T][Zb8 T][Znz T]
def Zoy(b c:Rat)(i:Nat):Rat:=if i=0 then 0 else if i=1 then b else (if b<c then c else b)
def Ztb(b c:Rat)(i:Nat):St:=⟨[(2,.ptr (.loc 2) 1 3 0 0),(3,.ptr (.loc 3) 2 3 0 0),(7,.sl [Zci (fz b),Zci (fz c)] .an),(8,.i .i64 2),(9,.i .i64 i)],
 [(.loc 2,⟨1,.str,3,[Zh1]⟩),(.loc 3,⟨2,.str,3,[Zci (fz (Zoy b c i))]⟩)],4⟩
def Ztc(l:List Fz)(i:Nat):St:=⟨[(2,.ptr (.loc 2) 1 3 0 0),(3,.ptr (.loc 3) 2 3 0 0),(7,.sl (Zc l) .an),(8,.i .i64 l.length),(9,.i .i64 i)],
 [(.loc 2,⟨1,.str,3,[Zh1]⟩),(.loc 3,⟨2,.str,3,[Zci (fz (Zn7 ((l.map fv).take i)))]⟩)],4⟩
def Ztd(l:List Fz)(i:Nat):St:=⟨[(3,.i .i64 (Zqb (l.take i))),(6,.sl (Zc l) .an),(7,.i .i64 l.length),(8,.i .i64 i)],[],2⟩
end
section
variable{T:Tbl}[Zb1 T][Zb2 T][Zbm T][Zb3 T][Zc7 T][Zdf T][Zc0 T][Zc1 T][Zol T]
def Zte(c:Rat)(p:List Rat)(i:Nat):St:=⟨[(1,.sl (Zc (fzs p)) .an),(2,.ptr (.loc 2) 1 3 0 0),(5,.bs (.loc 5) 2 3 0 i),(6,.i .i64 i)],
 [(.loc 2,⟨1,.str,3,[Zci (fz c)]⟩),(.loc 5,⟨2,.own,3,Zc (fzs ((Zpf c p).take i))⟩)],4⟩
def Ztf(p:List Rat)(i:Nat):St:=⟨[(0,.sl (Zc (fzs p)) .an),(2,.ptr (.loc 2) 1 3 0 0),(3,.ptr (.loc 3) 2 3 0 0),(4,.i .i64 i)],
 [(.loc 2,⟨1,.str,3,[Zh1]⟩),(.loc 3,⟨2,.str,3,[Zci (fz (Zn7 (p.take i)))]⟩)],4⟩
end
structure Ins where
 op:Int
 a:Int
 b:Int
 n:Fz
abbrev Zdn(i:Ins):List AV:=[.i .i64 i.op,.i .i64 i.a,.i .i64 i.b,.b i.n.1,.sl (Zb i.n.2.1) .an,.sl (Zb i.n.2.2) .an]
def Zcw(l:List Ins):List (List AV):=l.map Zdn
@[simp] def zsu(l:List Ins):(Zcw l).length=l.length:=by simp[Zcw]
@[simp] def zao3(l:List Ins):wkL (Zcw l)=Zcw l:=by rw[zav];simp[Zcw,wkR,wkA]
@[simp] def rowI_get?(l:List Ins)(i:Nat):(Zcw l)[i]? = (l[i]?).map Zdn:=by simp[Zcw]
@[simp] def zajs(l:List Ins)(i:Nat)(h:i<(Zcw l).length):(Zcw l)[i]=Zdn (l[i]'(by simpa using h)):=by simp[Zcw]
def z13(l:List Ins)(x:Ins):Zcw l++[Zdn x]=Zcw (l++[x]):=by simp[Zcw]
@[simp] def zaga(l:List Ins)(n:Nat):(Zcw l).take n=Zcw (l.take n):=by simp[Zcw]
structure Tp where
 code:List Ins
 outs:List Int
 dim:Int
 par:Int
abbrev etp(t:Tp):AV:=.agg [.sl (Zcw t.code) .an,.sl (ints t.outs) .an,.i .i64 t.dim,.i .i64 t.par]
def Zki(x:Fz):Bool:=decide (x=fz (fv x))
def Zkj(x:Fz):Bool:=!x.1&&x.2.1.isEmpty&&x.2.2.isEmpty
def Zap(i:Ins):List Int:=if i.op=6\/i.op=11 then [i.a] else if 7<=i.op/\i.op<=10 then [i.a,i.b] else []
def Zag(i m:Int):Bool:=decide (0<=i)&&decide (i<m)
def Zcj(dim par p:Int)(i:Ins):Bool:=
 if i.op=1 then decide (i.a=0)&&decide (i.b=0)&&Zki i.n
 else Zkj i.n&&(Zap i).all (fun r=>Zag r p) &&
  (if i.op=2 then decide (i.a=0)&&decide (i.b=0)
   else if i.op=3 then Zag i.a dim&&decide (i.b=0)
   else if i.op=4 then Zag i.a par&&decide (i.b=0)
   else if i.op=6 then decide (i.b=0)
   else if i.op=11 then decide (-8<=i.b)&&decide (i.b<=8)
   else decide ((Zap i).length=2))
def Zda(dim par:Int):Nat->List Ins->Int
 | _,[]=>-1
 | p,i::r=>if Zcj dim par p i then Zda dim par (p+1) r else p
def Zfv(t:Tp):Bool:=Zag (t.dim-1) 6&&Zag t.par 7&&decide ((t.outs.length:Int)=t.dim)&&decide (t.code.length<=300)
def Zh3(t:Tp):Int:=
 if Zfv t=false then -2 else if Zda t.dim t.par 0 t.code≠-1 then Zda t.dim t.par 0 t.code
 else if (t.outs.all fun o=>Zag o t.code.length)=false then t.code.length else -1
def okT(t:Tp):Bool:=decide (Zh3 t=-1)
@[simp] def zajt:Zcw []=[]:=rfl
theorem zmn(dim par:Int):∀(l:List Ins) (p:Nat),Zda dim par p l=-1↔∀(k:Nat) (i:Ins),l[k]? = some i->Zcj dim par (p+k:Nat) i=true
 | [],p=>by simp[Zda]
 | x::l,p=>by
  have ih:=zmn dim par l (p+1);unfold Zda;by_cases h:Zcj dim par p x=true
  ·rw[if_pos h,ih];constructor
   ·intro H k i hk;cases k with
    | zero=>simp only[Ybx,Option.some.injEq]at hk;subst hk;simpa using h
    | succ k=>have:=H k i (by simpa using hk);rwa [show p+1+k=p+(k+1) by omega]at this
   ·intro H k i hk;have:=H (k+1) i (by simpa using hk)
    rwa [show p+(k+1)=p+1+k by omega]at this
  ·rw[if_neg h];constructor
   ·intro H;omega
   ·intro H;exact absurd (by simpa using H 0 x rfl) h
structure OkTp (t:Tp):Prop where
 d1:1<=t.dim
 d2:t.dim<=6
 p1:0<=t.par
 p2:t.par<=6
 ol:(t.outs.length:Int)=t.dim
 cl:t.code.length<=300
 may:∀(k:Nat) (i:Ins),t.code[k]? = some i->Zcj t.dim t.par k i=true
 outs:∀o∈t.outs,0<=o/\o<t.code.length
theorem zk3(t:Tp):okT t=true↔OkTp t:=by
 unfold okT Zh3;rw[decide_eq_true_eq];by_cases h1:Zfv t=false
 ·rw[if_pos h1];constructor
  ·intro h;omega
  ·intro h;exfalso;have:Zfv t=true:=by
    have:=h.d1;have:=h.d2;have:=h.p1;have:=h.p2;simp only[Zfv,Zag,Yj,decide_eq_true_eq];exact⟨⟨⟨⟨by omega,by omega⟩,by omega,by omega⟩,h.ol⟩,h.cl⟩
   rw[this]at h1;cases h1
 ·have hw:Zfv t=true:=by simpa using h1
  rw[if_neg h1];simp only[Zfv,Zag,Yj,decide_eq_true_eq]at hw;obtain⟨⟨⟨⟨a1,a2⟩,a3,a4⟩,a5⟩,a6⟩:=hw;have hf:=zmn t.dim t.par t.code 0;by_cases h2:Zda t.dim t.par 0 t.code≠-1
  ·rw[if_pos h2];constructor
   ·intro h;exact absurd h h2
   ·intro h;exact absurd (hf.2 fun k i hk=>by rw[Yad];exact h.may k i hk) h2
  ·have h2':Zda t.dim t.par 0 t.code=-1:=by simpa using h2
   rw[if_neg h2];by_cases h3:(t.outs.all fun o=>Zag o t.code.length)=false
   ·rw[if_pos h3];constructor
    ·intro h;omega
    ·intro h;exfalso;have:(t.outs.all fun o=>Zag o t.code.length)=true:=Yn.2 fun o ho=>by
      have:=h.outs o ho;simp only[Zag,Yj,decide_eq_true_eq];exact this
     rw[this]at h3;cases h3
   ·rw[if_neg h3];have h3':(t.outs.all fun o=>Zag o t.code.length)=true:=by simpa using h3
    refine⟨fun _=>⟨by omega,by omega,a3,by omega,a5,a6,fun k i hk=>by have:=hf.1 h2' k i hk;rwa [Yad]at this,fun o ho=>?_⟩,fun _=>rfl⟩;have:=Yn.1 h3' o ho;simpa only[Zag,Yj,decide_eq_true_eq]using this
def zfz{dim par:Int}{p:Nat}{i:Ins}(h:Zcj dim par p i=true)(ho:i.op=6\/i.op=11\/(7<=i.op/\i.op<=10)):0<=i.a/\i.a<p:=by
 unfold Zcj at h;rw[if_neg (by omega)]at h;simp only[Yj,Yn]at h;have:=h.1.2 i.a (by
  unfold Zap;by_cases h1:i.op=6\/i.op=11
  ·rw[if_pos h1];simp
  ·rw[if_neg h1,if_pos (by omega)];simp)
 simpa only[Zag,Yj,decide_eq_true_eq]using this
def zil{dim par:Int}{p:Nat}{i:Ins}(h:Zcj dim par p i=true)(ho:7<=i.op/\i.op<=10):0<=i.b/\i.b<p:=by
 unfold Zcj at h;rw[if_neg (by omega)]at h;simp only[Yj,Yn]at h;have:=h.1.2 i.b (by
  unfold Zap;rw[if_neg (by omega),if_pos ho];simp)
 simpa only[Zag,Yj,decide_eq_true_eq]using this
def zii{dim par:Int}{p:Nat}{i:Ins}(h:Zcj dim par p i=true):i.op=1\/i.op=2\/i.op=3\/i.op=4\/i.op=6\/i.op=7\/i.op=8\/i.op=9\/i.op=10\/i.op=11:=by
 unfold Zcj at h;by_cases h1:i.op=1
 ·exact .inl h1
 rw[if_neg h1]at h;by_cases h2:i.op=2
 ·omega
 by_cases h3:i.op=3
 ·omega
 by_cases h4:i.op=4
 ·omega
 by_cases h6:i.op=6
 ·omega
 by_cases h11:i.op=11
 ·omega
 rw[if_neg h2,if_neg h3,if_neg h4,if_neg h6,if_neg h11]at h;simp only[Yj,decide_eq_true_eq]at h;have h2':=h.2;by_cases hr:7<=i.op/\i.op<=10
 ·omega
 ·have e:Zap i=[]:=by
   unfold Zap;rw[if_neg (by omega),if_neg hr]
  rw[e]at h2';simp at h2'
def z14{dim par:Int}{p:Nat}{i:Ins}(h:Zcj dim par p i=true)(ho:i.op=3):0<=i.a/\i.a<dim:=by
 unfold Zcj at h;rw[if_neg (by omega),if_neg (by omega),if_pos ho]at h;simp only[Yj,decide_eq_true_eq,Zag]at h;exact h.2.1
def z15{dim par:Int}{p:Nat}{i:Ins}(h:Zcj dim par p i=true)(ho:i.op=4):0<=i.a/\i.a<par:=by
 unfold Zcj at h;rw[if_neg (by omega),if_neg (by omega),if_neg (by omega),if_pos ho]at h;simp only[Yj,decide_eq_true_eq,Zag]at h;exact h.2.1
def zsv{dim par:Int}{p:Nat}{i:Ins}(h:Zcj dim par p i=true)(ho:i.op=11):-8<=i.b/\i.b<=8:=by
 unfold Zcj at h;rw[if_neg (by omega),if_neg (by omega),if_neg (by omega),if_neg (by omega),if_neg (by omega),if_pos ho]at h;simp only[Yj,decide_eq_true_eq]at h;exact h.2
structure Po where
 t:Rat
 y:List Rat
 p:List Rat
structure PoF where
 t:Fz
 y:List Fz
 p:List Fz
def PoF.v(x:PoF):Po:=⟨fv x.t,x.y.map fv,x.p.map fv⟩
def Po.f(x:Po):PoF:=⟨fz x.t,fzs x.y,fzs x.p⟩
abbrev ept(x:PoF):AV:=.agg [.b x.t.1,.sl (Zb x.t.2.1) .an,.sl (Zb x.t.2.2) .an,.sl (Zc x.y) .an,.sl (Zc x.p) .an]
def gI(l:List Rat)(i:Int):Rat:=l.getD i.toNat 0
def Zbp(x:Rat)(e:Int):Rat:=x^e
def Zg(P:Po)(D:List Rat)(i:Ins):Rat×Bool:=
 if i.op=1 then (fv i.n,true)
 else if i.op=3 then (gI P.y i.a,true)
 else if i.op=4 then (gI P.p i.a,true)
 else if i.op=6 then (-gI D i.a,true)
 else if i.op=7 then (gI D i.a+gI D i.b,true)
 else if i.op=8 then (gI D i.a-gI D i.b,true)
 else if i.op=9 then (gI D i.a*gI D i.b,true)
 else if i.op=10 then (gI D i.a/gI D i.b,decide (gI D i.b≠0))
 else if i.op=11 then (if i.b<0/\gI D i.a=0 then (0,false) else (Zbp (gI D i.a) i.b,true))
 else (P.t,true)
def Zbl(q:Rat):Nat:=Zby (fz q)
def Zbb(lim:Nat)(P:Po):List Ins->List Rat->List Rat×Nat×Nat
 | [],D=>(D,0,0)
 | i::r,D=>if (Zg P D i).2=false then ([],3,D.length) else if lim<Zbl (Zg P D i).1 then ([],6,D.length) else Zbb lim P r (D++[(Zg P D i).1])
theorem zb3(lim:Nat)(P:Po)(i:Ins)(r:List Ins)(D:List Rat):Zbb lim P (i::r) D=if (Zg P D i).2=false then ([],3,D.length) else if lim<Zbl (Zg P D i).1 then ([],6,D.length) else Zbb lim P r (D++[(Zg P D i).1]):=rfl
theorem zk4(lim:Nat)(P:Po):∀(l m:List Ins) (D:List Rat),Zbb lim P (l++m) D=if (Zbb lim P l D).2.1=0 then Zbb lim P m (Zbb lim P l D).1 else Zbb lim P l D
 | [],m,D=>by simp[Zbb]
 | i::r,m,D=>by
  have ih:=zk4 lim P r m (D++[(Zg P D i).1]);rw[Ybj,zb3,zb3];by_cases h1:(Zg P D i).2=false
  ·simp[h1]
  ·rw[if_neg h1,if_neg h1];by_cases h2:lim<Zbl (Zg P D i).1
   ·simp[h2]
   ·rw[if_neg h2,if_neg h2,ih]
theorem zh9(lim:Nat)(P:Po):∀(l:List Ins) (D:List Rat),(Zbb lim P l D).2.1=0->(Zbb lim P l D).2.2=0/\∃E,(Zbb lim P l D).1=D++E/\E.length=l.length
 | [],D,_=>⟨rfl,[],by simp[Zbb],rfl⟩
 | i::r,D,h=>by
  have ih:=zh9 lim P r (D++[(Zg P D i).1]);rw[zb3]at h ⊢;by_cases h1:(Zg P D i).2=false
  ·simp[h1]at h
  ·rw[if_neg h1]at h ⊢;by_cases h2:lim<Zbl (Zg P D i).1
   ·simp[h2]at h
   ·rw[if_neg h2]at h ⊢;obtain⟨e1,E,e2,e3⟩:=ih h;exact⟨e1,(Zg P D i).1::E,by rw[e2];simp,by simp[e3]⟩
theorem z16(lim:Nat)(P:Po):∀(l:List Ins) (D:List Rat),(Zbb lim P l D).2.1≠0->(Zbb lim P l D).1=[]/\D.length<=(Zbb lim P l D).2.2/\(Zbb lim P l D).2.2<D.length+l.length
 | [],D,h=>by simp[Zbb]at h
 | i::r,D,h=>by
  have ih:=z16 lim P r (D++[(Zg P D i).1]);rw[zb3]at h ⊢;by_cases h1:(Zg P D i).2=false
  ·simp[h1]
  ·rw[if_neg h1]at h ⊢;by_cases h2:lim<Zbl (Zg P D i).1
   ·simp[h2]
   ·rw[if_neg h2]at h ⊢;have:=ih h;simp only[Yp,Yg,Yab]at this ⊢;exact⟨this.1,by omega,by omega⟩
abbrev tyI:Ty:=.cons (.int .i64) (.cons (.int .i64) (.cons (.int .i64) (.cons tyF .nil)))
abbrev tyT:Ty:=.cons (.sl tyI) (.cons (.sl (.int .i64)) (.cons (.int .i64) (.cons (.int .i64) .nil)))
abbrev tyP:Ty:=.cons tyF (.cons (.sl tyF) (.cons (.sl tyF) .nil))
def zzf{x:AV}(h:Zkn (true,tyP) x):∃t:PoF,wkA x=ept t:=by
 obtain⟨cs,rfl,c1,c1',rfl,h1,c2,c2',rfl,h2,c3,c3',rfl,h3,rfl⟩:=h;obtain⟨t,e1⟩:=z5v h1;obtain⟨y,e2⟩:=zpd h2;obtain⟨p,e3⟩:=zpd h3;refine⟨⟨t,y,p⟩,?_⟩;rw[wkA];simp only[zvp,e1,e2,e3]
 rfl
structure Nd where
 op:Int
 i:Int
 n:List UInt32
 deriving DecidableEq
abbrev Zdb(x:Nd):List AV:=[.i .i64 x.op,.i .i64 x.i,.sl (Zb x.n) .an]
def Zl(l:List Nd):List (List AV):=l.map Zdb
@[simp] def z92(l:List Nd):(Zl l).length=l.length:=by simp[Zl]
@[simp] def zsw(l:List Nd):wkL (Zl l)=Zl l:=by rw[zav];simp[Zl,wkR,wkA]
@[simp] def zaju(l:List Nd)(i:Nat)(h:i<(Zl l).length):(Zl l)[i]=Zdb (l[i]'(by simpa using h)):=by simp[Zl]
def z17(l:List Nd)(x:Nd):Zl l++[Zdb x]=Zl (l++[x]):=by simp[Zl]
@[simp] def zagb(l:List Nd)(n:Nat):(Zl l).take n=Zl (l.take n):=by simp[Zl]
@[simp] def zagc(l:List Nd)(n:Nat):(Zl l).drop n=Zl (l.drop n):=by simp[Zl]
@[simp] def zur:Zl []=[]:=rfl
def z18{m:List Nd}{n:Nat}(h:m.length=n)(x:Nd):wkL (Zl (List.take n m)++[Zdb x])=Zl (m++[x]):=by
 rw[Yc (by omega),z17,zsw]
@[simp] def zagd(l:List Nd):Option.all (fun r:List AV=>decide (r.length=3)) (Zl l).head? = true:=by cases l<;>rfl
@[simp] def zage(l:List Nd):Zkk 3 (Zl l)=true:=by cases l<;>rfl
@[simp] def z6j(l:List Nd):(Zl l).isEmpty=l.isEmpty:=by cases l<;>rfl
def Za3(l:List (List Nd)):List (List AV):=l.map fun c=>[.sl (Zl c) .an]
@[simp] def z93(l:List (List Nd)):(Za3 l).length=l.length:=by simp[Za3]
@[simp] def zao4(l:List (List Nd)):wkL (Za3 l)=Za3 l:=by rw[zav];simp[Za3,wkR,wkA]
@[simp] def zajv(l:List (List Nd))(i:Nat)(h:i<(Za3 l).length):(Za3 l)[i]=[.sl (Zl (l[i]'(by simpa using h))) .an]:=by simp[Za3]
def arN(op:Int):Int:=if 1<=op/\op<=5 then 0 else if op=6\/op=11 then 1 else if 7<=op/\op<=10 then 2 else -1
@[simp] def zajw:Za3 []=[]:=rfl
def zax(op:Int):(arN op=0/\1<=op/\op<=5)\/(arN op=1/\(op=6\/op=11))\/(arN op=2/\7<=op/\op<=10)\/(arN op=-1/\(op<1\/11<op)):=by
 unfold arN;split
 ·left;omega
 ·split
  ·right;left;omega
  ·split
   ·right;right;left;omega
   ·right;right;right;omega
def Zah:Nat->Int->List Nd->Int
 | i,o,[]=>if o=1 then -1 else i
 | i,o,x::r=>if arN x.op<0\/o<arN x.op then i else Zah (i+1) (o+1-arN x.op) r
def Zcp(l:List Nd):Int:=Zah 0 0 l
def Zru(o:Int)(l:List Nd):Int:=l.foldl (fun o x=>o+1-arN x.op) o
def goL:Nat->Int->List Nd->Option Nat×Int
 | _,o,[]=>(none,o)
 | i,o,x::r=>if arN x.op<0\/o<arN x.op then (some i,o) else goL (i+1) (o+1-arN x.op) r
theorem zqu:∀(l:List Nd) (i:Nat) (o:Int),Zah i o l=match goL i o l with
  | (some k,_)=>(k:Int)
  | (none,p)=>if p=1 then -1 else i+l.length
 | [],i,o=>by simp[Zah,goL]
 | x::r,i,o=>by
  unfold Zah goL;by_cases h:arN x.op<0\/o<arN x.op
  ·rw[if_pos h,if_pos h]
  ·rw[if_neg h,if_neg h,zqu r (i+1) (o+1-arN x.op)];generalize goL (i+1) (o+1-arN x.op) r=G;obtain⟨_ | k,p⟩:=G
   ·dsimp only;by_cases hp:p=1
    ·rw[if_pos hp,if_pos hp]
    ·rw[if_neg hp,if_neg hp,Yg];omega
   ·rfl
def Zhc(n:List UInt32):Bool:=decide (n=ofN (val n))&&decide ((Zan (val n)).length<=60)
def Zgl(i m:Int):Bool:=decide (0<=i)&&decide (i<m)
def okN(dim pars lets:Int)(x:Nd):Bool:=
 if x.op=1 then decide (x.i=0)&&Zhc x.n
 else if x.n≠[]\/x.op<1\/11<x.op then false
 else if x.op=3 then Zgl x.i dim else if x.op=4 then Zgl x.i pars else if x.op=5 then Zgl x.i lets
 else if x.op=11 then decide (-8<=x.i)&&decide (x.i<=8)
 else decide (x.i=0)
def Zgm(dim pars lets w:Int):Nat->List Nd->Int
 | _,[]=>w
 | i,x::r=>if (i:Int)=w\/okN dim pars lets x=false then i else Zgm dim pars lets w (i+1) r
def Zig(dim pars lets w:Int):Nat->List Nd->Option Nat
 | _,[]=>none
 | i,x::r=>if (i:Int)=w\/okN dim pars lets x=false then some i else Zig dim pars lets w (i+1) r
theorem zk5(dim pars lets w:Int):∀(l:List Nd) (i:Nat),Zgm dim pars lets w i l=match Zig dim pars lets w i l with
  | some k=>(k:Int)
  | none=>w
 | [],i=>rfl
 | x::r,i=>by
  unfold Zgm Zig;by_cases h:(i:Int)=w\/okN dim pars lets x=false
  ·rw[if_pos h,if_pos h]
  ·rw[if_neg h,if_neg h,zk5 dim pars lets w r (i+1)]
def Za9(dim pars lets:Int)(l:List Nd):Int:=Zgm dim pars lets (Zcp l) 0 l
inductive Tre where
 | leaf (x:Nd)
 | un (x:Nd) (a:Tre)
 | bin (x:Nd) (a b:Tre)
def Tre.flat:Tre->List Nd
 | .leaf x=>[x]
 | .un x a=>a.flat++[x]
 | .bin x a b=>a.flat++(b.flat++[x])
def Tre.ok:Tre->Prop
 | .leaf x=>arN x.op=0
 | .un x a=>arN x.op=1/\a.ok
 | .bin x a b=>arN x.op=2/\a.ok/\b.ok
def Tre.deep:Tre->Nat
 | .leaf _=>1
 | .un _ a=>a.deep+1
 | .bin _ a b=>max a.deep b.deep+1
def Tre.flat_ne(t:Tre):t.flat≠[]:=by cases t<;>simp[Tre.flat]
def Tre.flat_pos(t:Tre):0<t.flat.length:=Yb1.2 t.flat_ne
def Zbj(s:List Tre):List Nd:=s.flatMap Tre.flat
theorem zer:∀(l:List Nd) (i:Nat) (s:List Tre),(∀t∈s,t.ok)->Zah i s.length l=-1->∃t:Tre,t.ok/\t.flat=Zbj s++l
 | [],i,s,hs,h=>by
  unfold Zah at h;by_cases h1:(s.length:Int)=1
  ·obtain⟨t,rfl⟩:=Yck.1 (show s.length=1 by omega);exact⟨t,hs t (by simp),by simp[Zbj]⟩
  ·rw[if_neg h1]at h;omega
 | x::r,i,s,hs,h=>by
  unfold Zah at h;by_cases h1:arN x.op<0\/(s.length:Int)<arN x.op
  ·rw[if_pos h1]at h;omega
  ·rw[if_neg h1]at h;rcases zax x.op with ⟨e,_⟩ | ⟨e,_⟩ | ⟨e,_⟩ | ⟨e,_⟩
   ·rw[e]at h;obtain⟨t,h2,h3⟩:=zer r (i+1) (s++[.leaf x]) (by
     intro t ht;rcases Y6.1 ht with ht | ht
     ·exact hs t ht
     ·rw[Yr.1 ht];exact e) (by rw[<-h];congr 1;simp)
    exact⟨t,h2,by rw[h3];simp[Zbj,Tre.flat]⟩
   ·rw[e]at h h1;obtain⟨s',a,rfl⟩:=Ydg s |>.resolve_left (by rintro rfl;simp at h1);rw[Ydh]at *
    obtain⟨t,h2,h3⟩:=zer r (i+1) (s'++[.un x a]) (by
     intro t ht;rcases Y6.1 ht with ht | ht
     ·exact hs t (by simp[ht])
     ·rw[Yr.1 ht];exact⟨e,hs a (by simp)⟩) (by rw[<-h];congr 1;simp)
    exact⟨t,h2,by rw[h3];simp[Zbj,Tre.flat]⟩
   ·rw[e]at h h1;obtain⟨s1,b,rfl⟩:=Ydg s |>.resolve_left (by rintro rfl;simp at h1);rw[Ydh]at *
    obtain⟨s2,a,rfl⟩:=Ydg s1 |>.resolve_left (by rintro rfl;simp at h1);rw[Ydh]at *
    obtain⟨t,h2,h3⟩:=zer r (i+1) (s2++[.bin x a b]) (by
     intro t ht;rcases Y6.1 ht with ht | ht
     ·exact hs t (by simp[ht])
     ·rw[Yr.1 ht];exact⟨e,hs a (by simp),hs b (by simp)⟩) (by rw[<-h];congr 1;simp;omega)
    exact⟨t,h2,by rw[h3];simp[Zbj,Tre.flat]⟩
   ·omega
def zsx{l:List Nd}(h:Zcp l=-1):∃t:Tre,t.ok/\t.flat=l:=by
 obtain⟨t,h1,h2⟩:=zer l 0 [] (by simp) h;exact⟨t,h1,by simpa[Zbj]using h2⟩
theorem zes:∀(t:Tre),t.ok->∀(i:Nat) (o:Int) (r:List Nd),0<=o->Zah i o (t.flat++r)=Zah (i+t.flat.length) (o+1) r
 | .leaf x,h,i,o,r,ho=>by
  have e:arN x.op=0:=h;show Zah i o (x::r)=_;rw[Zah,if_neg (by omega),e];simp[Tre.flat]
 | .un x a,h,i,o,r,ho=>by
  have e:arN x.op=1:=h.1;rw[Tre.flat,Yz,zes a h.2 i o _ ho];show Zah _ _ (x::r)=_;rw[Zah,if_neg (by omega),e];congr 1
  ·simp;omega
  ·omega
 | .bin x a b,h,i,o,r,ho=>by
  have e:arN x.op=2:=h.1;rw[Tre.flat,Yz,zes a h.2.1 i o _ ho,Yz,zes b h.2.2 _ _ _ (by omega)];show Zah _ _ (x::r)=_;rw[Zah,if_neg (by omega),e];congr 1
  ·simp;omega
  ·omega
def zet{t:Tre}(h:t.ok):Zcp t.flat=-1:=by
 have:=zes t h 0 0 [] (by decide);rw[Yau]at this;unfold Zcp;rw[this];rfl
theorem zk6:∀(l:List Nd) (i:Nat) (o:Int),Zah i o l=-1\/(i<=Zah i o l/\Zah i o l<=i+l.length)
 | [],i,o=>by
  unfold Zah;split
  ·left;rfl
  ·right;simp
 | x::r,i,o=>by
  unfold Zah;split
  ·right;simp;omega
  ·rcases zk6 r (i+1) (o+1-arN x.op) with h | h
   ·left;exact h
   ·right;simp only[Yg];omega
theorem zk7(dim pars lets w:Int):∀(l:List Nd) (i:Nat),Zgm dim pars lets w i l<0->w<0/\∀x∈l,okN dim pars lets x=true
 | [],i,h=>⟨h,by simp⟩
 | x::r,i,h=>by
  unfold Zgm at h;split at h
  ·omega
  ·next h1=>
   obtain⟨h2,h3⟩:=zk7 dim pars lets w r (i+1) h;refine⟨h2,fun y hy=>?_⟩;rcases Yw.1 hy with rfl | hy
   ·cases hk:okN dim pars lets y with
    | true=>rfl
    | false=>exact absurd (.inr hk) h1
   ·exact h3 y hy
theorem zqv(dim pars lets:Int):∀(l:List Nd) (i:Nat),(∀x∈l,okN dim pars lets x=true)->Zgm dim pars lets (-1) i l=-1
 | [],i,h=>rfl
 | x::r,i,h=>by
  unfold Zgm;have hc:¬ ((i:Int)=-1\/okN dim pars lets x=false):=by
   rw[h x (by simp)]
   rintro(h1 | h1)
   ·omega
   ·cases h1
  rw[if_neg hc];exact zqv dim pars lets r (i+1) fun y hy=>h y (by simp[hy])
def zcr{dim pars lets:Int}{l:List Nd}(h:Za9 dim pars lets l<0):∃t:Tre,t.ok/\t.flat=l/\∀x∈l,okN dim pars lets x=true:=by
 obtain⟨h1,h2⟩:=zk7 dim pars lets _ l 0 h;have h3:Zcp l=-1:=by
  rcases zk6 l 0 0 with h | h
  ·exact h
  ·unfold Zcp at h1;omega
 obtain⟨t,h4,h5⟩:=zsx h3;exact⟨t,h4,h5,h2⟩
def zk8{dim pars lets:Int}{t:Tre}(h:t.ok)(h2:∀x∈t.flat,okN dim pars lets x=true):Za9 dim pars lets t.flat=-1:=by
 unfold Za9;rw[zet h];exact zqv dim pars lets _ 0 h2
def zmo{a:List UInt32}:(ofN (val a)).length=a.length↔a=ofN (val a):=by
 constructor
 ·intro h;obtain⟨n,h1,h2,_⟩:=znn a;have h3:n=a.length:=by
   have:=congrArg List.length h2;rw[Yae,h]at this;omega
  rw[h3,Ydm]at h2;exact h2
 ·intro h;exact(congrArg List.length h).symm
structure Lt where
 name:List UInt8
 code:List Nd
abbrev Zo8(x:Lt):List AV:=[.s x.name,.sl (Zl x.code) .an]
def Zf0(l:List Lt):List (List AV):=l.map Zo8
structure Fd where
 lets:List Lt
 outs:List (List Nd)
abbrev efd(f:Fd):AV:=.agg [.sl (Zf0 f.lets) .an,.sl (Za3 f.outs) .an]
def codesD(f:Fd):List (List Nd):=f.lets.map (·.code)++f.outs
@[simp] def zaf3:Zf0 []=[]:=rfl
abbrev tyN:Ty:=.cons (.int .i64) (.cons (.int .i64) (.cons (.sl (.int .u32)) .nil))
abbrev tyL:Ty:=.cons .str (.cons (.sl tyN) .nil)
abbrev tyD:Ty:=.cons (.sl tyL) (.cons (.sl (.sl tyN)) .nil)
def zaeo{cs:List AV}(h:Ok tyN cs):∃x:Nd,wkR cs=Zdb x:=by
 obtain⟨c1,c1',rfl,⟨a,rfl,_⟩,c2,c2',rfl,⟨b,rfl,_⟩,c3,c3',rfl,⟨els,f,rfl,_,_,he⟩,rfl⟩:=h;obtain⟨l,rfl⟩:=ziu els he;exact⟨⟨a,b,l⟩,by simp[wkA,wkR]⟩
theorem zpe:∀(els:List (List AV)),(∀r∈els,Ok tyN r)->∃l:List Nd,wkL els=Zl l
 | [],_=>⟨[],rfl⟩
 | r::els,h=>by
  obtain⟨l,hl⟩:=zpe els fun r hr=>h r (Yk _ hr);obtain⟨x,hx⟩:=zaeo (h r Yv);refine⟨x::l,?_⟩;simp only[wkL,hx,hl]
  rfl
def zvq{cs:List AV}(h:Ok (.sl tyN) cs):∃l:List Nd,wkR cs=[.sl (Zl l) .an]:=by
 obtain⟨els,f,rfl,_,_,he⟩:=h;obtain⟨l,hl⟩:=zpe els he;exact⟨l,by simp[wkR,wkA,hl]⟩
def z27{x:AV}(h:Zkn (false,.sl tyN) x):∃l:List Nd,wkA x=.sl (Zl l) .an:=by
 obtain⟨l,hl⟩:=zvq h;exact⟨l,by simpa[wkR]using hl⟩
abbrev Zrx:Ty:=.cons (.sl tyF) (.cons (.int .i64) .nil)
end Go.Ab
section
namespace Go.Proofs.YtmojeopgpabkhaaGreatDoor
open Go Go.Ab Go.ChangeShapes Go.WideShapes Go.ChangeAt Go.RowKit
def Tryz.own:ownKnob Tryz.prog.godebug=none:=by kernel_rfl
def Tryz.laidOut:laidOutB Tryz.prog=true:=by kernel_rfl
def Tryz.mixed:Tryz.prog.follows .mixedOrders=true:=by kernel_rfl
def Tryz.rowed:mapsRowed Tryz.prog=true:=by kernel_rfl
def Tryz.heard:Tryz.prog.stopsHeard=true:=by kernel_rfl
def Tryz.enters:Tryz.prog.mayEnter=true:=by kernel_rfl
def Tryz.keys:Tryz.prog.plainKeys=Rows.slopeTreesRow.plainKeys:=by kernel_rfl
def Tryz.lifts:Tryz.prog.liftsFinal=Rows.slopeTreesRow.lifted:=by kernel_rfl
def Tryz.makes:Tryz.prog.make=some Rows.slopeTreesRow.make:=by kernel_rfl
def laid2:List (String×DataW Unit):=[("unicode/utf8.acceptRanges",Rows.laid_unicode_utf8_acceptRanges),("unicode/utf8.first",Rows.laid_unicode_utf8_first)]
noncomputable def laidWorld(os:Os):World:=
 let put (h:Array Obj) (g:Nat) (cs:Array Value):Array Obj:=h.modify g fun
  | .cells _ t frozen=>.cells cs t frozen
  | o=>o
 let w0:=World.holding Tryz.prog os ⟨#[],#[],[]⟩
 let h1:=put w0.heap 1 (Lib.firstTab.map fun z=>Value.int .u8 z).toArray
 let h2:=put h1 2 ((List.range 16).flatMap fun i=>[Value.int .u8 (Lib.accLo i),Value.int .u8 (Lib.accHi i)]).toArray
 { w0 with heap:=h2 }
def laid_met(os:Os)(args:Array Value):laidMetH Tryz.prog laid2 ((laidWorld os).forCall (fun _ _=>0) ⟨#[],args,[]⟩).memory:=
 laidMetH_of_parts3 (fuel:=8) (laidMet_of_run' 8 (by kernel_rfl) (by kernel_rfl)) (by kernel_rfl) (by kernel_rfl)
def laid_shaped(os:Os):(laidWorld os).Shaped Tryz.prog:=World.shaped_of_RefB (by kernel_rfl) (by kernel_rfl)
def tab_all:TOk Tryz.prog nu (fun u=>lTab.lookup u):=lTab_ok (text_ok Tryz.mixed) (join_ok)
end Go.Proofs.YtmojeopgpabkhaaGreatDoor
end
namespace Go.Ab
class Zoc (T:Tbl):Prop where
class Zmv (T:Tbl):Prop where
section
variable{T:Tbl}[Zd9 T]
def Zs1(l:List Nd)(p:Nat×Int):St:=⟨[(0,.sl (Zl l) .an),(3,.i .i64 p.2),(4,.i .i64 p.1)],[],2⟩
def Zrk(l:List Nd)(many words:Int):Bool:=decide (many<l.length) || (l.take many.toNat).any fun x=>decide (words<x.n.length)
def zwq(l:List Nd)(many words:Nat)(hl:l.length<=4294967296\/many<=4294967295)(hm:many<=4294967295):Za T 10 [.sl (Zl l) .an,.i .i64 many,.i .i64 words]=some (.b (decide (many<l.length) || (l.take many).any fun x=>decide (words<x.n.length))):=by
 have hlo:Zx T 0 0 (.norm false [0,1]) l10_0 ⟨[(0,.sl (Zl l) .an),(1,.i .i64 many),(2,.i .i64 words),(7,.i .i64 ((0:Nat):Int))],[],2⟩ =
   if ((l.take many).drop 0).any (fun x=>decide (words<x.n.length))=true then some (.r,⟨[(6,.b true)],[],2⟩) else some (.n,⟨[(0,.sl (Zl l) .an),(1,.i .i64 many)],[],2⟩):=by
  refine zbb (fun i=>⟨[(0,.sl (Zl l) .an),(1,.i .i64 many),(2,.i .i64 words),(7,.i .i64 ((i:Nat):Int))],[],2⟩) (l.take many).length
   (fun i=>if ((l.take many).drop i).any (fun x=>decide (words<x.n.length))=true then some (.r,_) else some (.n,_)) (fun i hi=>?_) ?_
  ·have hi1:=hi;rw[Yae]at hi1;have h:i<l.length:=by omega
   have h':(i:Int)<l.length:=by omega
   have h2:i<many:=by omega
   have h2':(i:Int)<many:=by omega
   have hg:l[i]? = some (l[i]'h):=Ya h;have hd:(l.take many).drop i=(l.take many)[i]'hi::(l.take many).drop (i+1):=Yo hi;have hx2:(l.take many)[i]'hi=l[i]'h:=by simp
   rw[hx2]at hd;have hws:=zbc h2 (by omega);generalize hx:l[i]'h=x at *
   by_cases hc:words<x.n.length
   ·right;rw[if_pos (by rw[hd];simp[hc])];have hc':(words:Int)<x.n.length:=by omega
    clear hd;constructor<;>simp -implicitDefEqProofs[l10_0,h,h',h2,h2',hg,hx,hc,hc']
   ·left;have hc':¬ (words:Int)<x.n.length:=by omega
    refine⟨?_,by rw[hd];simp[hc]⟩;clear hd;simp -implicitDefEqProofs[l10_0,h,h',h2,h2',hg,hx,hc,hc',hws]
  ·rw[Yaf,Yae];simp only[List.any_nil,Yah,if_false];by_cases h:l.length<=many
   ·rw[Nat.min_eq_right h];constructor<;>simp -implicitDefEqProofs[l10_0]
   ·rw[Ycg (by omega)];have h2:many<l.length:=by omega
    have h2':(many:Int)<l.length:=by omega
    constructor<;>simp -implicitDefEqProofs[l10_0,h2,h2']
 rw[Ybz]at hlo;simp only[Ym]at hlo;rw[zaa Zd9.h10 rfl,b10];generalize (l.take many).any (fun x=>decide (words<x.n.length))=B at *
 cases B with
 | true=>
  rw[if_pos rfl]at hlo;simp -implicitDefEqProofs[hlo]
 | false=>
  rw[if_neg (by decide)]at hlo;by_cases h:many<l.length
  ·have h':(many:Int)<l.length:=by omega
   simp -implicitDefEqProofs[hlo,h,h']
  ·have h':¬ (many:Int)<l.length:=by omega
   simp -implicitDefEqProofs[hlo,h,h']
variable[Zb1 T][Zb2 T][Zbm T][Zb3 T]
def Zs2(l:List Nd)(dim pars lets w:Int)(i:Nat):St:=⟨[(0,.sl (Zl l) .an),(1,.i .i64 dim),(2,.i .i64 pars),(3,.i .i64 lets),(9,.i .i64 w),(10,.i .i64 i)],[],2⟩
end
section
variable{T:Tbl}[Zd9 T]
def Tre.parts:Tre->List (List Nd)
 | .leaf _=>[]
 | .un _ a=>[a.flat]
 | .bin _ a b=>[a.flat,b.flat]
end
section
variable{T:Tbl}[Zax T]
def za2(op:Int):Za T 76 [.i .i64 op]=some (.i .i64 (arN op)):=by
 rw[zaa Zax.h76 rfl,b76];by_cases h:1<=op/\op<=11
 ·rcases(show op=1\/op=2\/op=3\/op=4\/op=5\/op=6\/op=7\/op=8\/op=9\/op=10\/op=11 by omega) with rfl | rfl | rfl | rfl | rfl | rfl | rfl | rfl | rfl | rfl | rfl<;>simp -implicitDefEqProofs[arN]
 ·have e:arN op=-1:=by rcases zax op with h1 | h1 | h1 | h1<;>omega
  have h1:op≠1:=by omega
  have h2:op≠2:=by omega
  have h3:op≠3:=by omega
  have h4:op≠4:=by omega
  have h5:op≠5:=by omega
  have h6:op≠6:=by omega
  have h7:op≠7:=by omega
  have h8:op≠8:=by omega
  have h9:op≠9:=by omega
  have h10:op≠10:=by omega
  have h11:op≠11:=by omega
  rw[e];simp -implicitDefEqProofs[h1,h2,h3,h4,h5,h6,h7,h8,h9,h10,h11]
def Zjm(l:List Nd)(p:Nat×Int):St:=⟨[(0,.sl (Zl l) .an),(3,.i .i64 p.2),(7,.sl (Zl l) .an),(8,.i .i64 l.length),(9,.i .i64 p.1)],[],2⟩
def zkq(l:List Nd)(hl:l.length<=4294967296):∀p:Nat×Int,(p.1<=l.length/\0<=p.2/\p.2<=p.1)->Zx T 0 0 (.norm false [0,3]) l74_0 (Zjm l p) =
  match goL p.1 p.2 (l.drop p.1) with
  | (some k,_)=>some (.r,⟨[(2,.i .i64 (k:Nat))],[],2⟩)
  | (none,o)=>some (.n,⟨[(0,.sl (Zl l) .an),(3,.i .i64 o)],[],2⟩):=by
 refine zbg (Zjm l) _ (fun p=>l.length-p.1) _ ?_
 rintro⟨i,o⟩ ⟨hi,ho,ho2⟩
 dsimp only at *
 by_cases h:i<l.length
 ·have hg:l[i]? = some (l[i]'h):=Ya h;have hd:l.drop i=l[i]'h::l.drop (i+1):=Yo h;have ca:=za2 (T:=T) (l[i]'h).op;have h':(i:Int)<l.length:=by omega
  have hws:=zbc h (by omega);rw[hd,goL];generalize hx:l[i]'h=x at *
  clear hd;rcases zax x.op with ⟨e,_⟩ | ⟨e,_⟩ | ⟨e,_⟩ | ⟨e,_⟩
  ·left;rw[e]at ca ⊢;have hw:IntKind.wrap .i64 (o+1)=o+1:=zab _ (by omega);refine⟨(i+1,o+1),⟨by omega,by omega,by dsimp only;omega⟩,by dsimp only;omega,?_,?_⟩
   ·unfold Zjm;simp -implicitDefEqProofs[l74_0,h,h',hg,hx,hws,ca,hw,ho]
   ·rw[if_neg (by omega)];simp
  ·rw[e]at ca ⊢;by_cases hc:o<1
   ·right;rw[if_pos (by omega)];unfold Zjm;constructor<;>simp -implicitDefEqProofs[l74_0,h,h',hg,hx,ca,hc]
   ·left;have hw:IntKind.wrap .i64 o=o:=zab _ (by omega);refine⟨(i+1,o),⟨by omega,by omega,by dsimp only;omega⟩,by dsimp only;omega,?_,?_⟩
    ·unfold Zjm;simp -implicitDefEqProofs[l74_0,h,h',hg,hx,hws,ca,hw,hc]
    ·rw[if_neg (by omega)];simp
  ·rw[e]at ca ⊢;by_cases hc:o<2
   ·right;rw[if_pos (by omega)];unfold Zjm;constructor<;>simp -implicitDefEqProofs[l74_0,h,h',hg,hx,ca,hc]
   ·left;have hw:IntKind.wrap .i64 (o + -1)=o-1:=zab _ (by omega);refine⟨(i+1,o-1),⟨by omega,by omega,by dsimp only;omega⟩,by dsimp only;omega,?_,?_⟩
    ·unfold Zjm;simp -implicitDefEqProofs[l74_0,h,h',hg,hx,hws,ca,hw,hc]
    ·rw[if_neg (by omega)];dsimp only;rw[show o+1-2=o-1 by omega]
  ·right;rw[e]at ca ⊢;rw[if_pos (by omega)];unfold Zjm;constructor<;>simp -implicitDefEqProofs[l74_0,h,h',hg,hx,ca]
 ·have:i=l.length:=by omega
  subst this;right;rw[Yaf,goL];unfold Zjm;constructor<;>simp -implicitDefEqProofs[l74_0]
def zwz(l:List Nd)(hl:l.length<=4294967296):Za T 74 [.sl (Zl l) .an]=some (.i .i64 (Zcp l)):=by
 have hlo:=zkq (T:=T) l hl (0,0) ⟨Yx _,by decide,by decide⟩;have hw:=zqu l 0 0;unfold Zcp;rw[hw];unfold Zjm at hlo;simp only[Ybz,Ym]at hlo;rw[zaa Zax.h74 rfl,b74];generalize goL 0 0 l=G at *
 obtain⟨_ | k,o⟩:=G
 ·dsimp only at hlo ⊢;by_cases h:o=1
  ·subst h;simp -implicitDefEqProofs[hlo]
  ·simp -implicitDefEqProofs[hlo,h]
 ·dsimp only at hlo ⊢;simp -implicitDefEqProofs[hlo]
def zgd(i m:Int):Za T 108 [.i .i64 i,.i .i64 m]=some (.b (Zgl i m)):=by
 rw[zaa Zax.h108 rfl,b108];unfold Zgl;by_cases h:0<=i
 ·by_cases h2:i<m<;>simp -implicitDefEqProofs[h,h2]
 ·simp -implicitDefEqProofs[h]
variable[Z2 T][Zr T][Z9 T][Zcs T]
def lenD(n:Nat)(h:(ofN n).length<=1000):Za T 129 [.sl (Zb (ofN n)) .an]=some (.i .i64 (Zan n).length):=by
 have c:Za T 68 [.sl (Zb (ofN n)) .an]=some (.s (Zan n)):=by
  rw[p68,zfa _ (by omega),zae]
 rw[zaa Zcs.h129 rfl,b129];generalize ofN n=N at *
 simp -implicitDefEqProofs[c]
def zqc(n:List UInt32)(hn:n.length<=1000):Za T 107 [.sl (Zb n) .an]=some (.b (Zhc n)):=by
 have c1:=zbo (T:=T) n (by omega);unfold Zhc;by_cases h:n=ofN (val n)
 ·have c2:=lenD (T:=T) (val n) (by rw[<-h];exact hn);rw[<-h]at c1 c2;rw[decide_eq_true h];rw[zaa Zax.h107 rfl,b107];generalize (Zan (val n)).length=L at *
  by_cases h2:L<=60
  ·have h2':(L:Int)<=60:=by omega
   simp -implicitDefEqProofs[c1,c2,h2,h2']
  ·have h2':¬ (L:Int)<=60:=by omega
   simp -implicitDefEqProofs[c1,c2,h2,h2']
 ·have h2:¬ ((ofN (val n)).length:Int)=n.length:=fun hh=>h (zmo.1 (by omega));have h3:¬ (ofN (val n)).length=n.length:=fun hh=>h (zmo.1 hh);rw[decide_eq_false h];rw[zaa Zax.h107 rfl,b107];generalize ofN (val n)=N at *
  simp -implicitDefEqProofs[c1,h2,h3]
def zmc(x:Nd)(dim pars lets:Int)(hn:x.n.length<=1000):Za T 75 [.agg (Zdb x),.i .i64 dim,.i .i64 pars,.i .i64 lets]=some (.b (okN dim pars lets x)):=by
 have c1:=zqc (T:=T) x.n hn;have c3:=zgd (T:=T) x.i dim;have c4:=zgd (T:=T) x.i pars;have c5:=zgd (T:=T) x.i lets;have ca:=za2 (T:=T) x.op;obtain⟨op,i,n⟩:=x;dsimp only at *
 rw[zaa Zax.h75 rfl,b75];unfold okN;dsimp only;generalize Zhc n=W at *
 generalize Zgl i dim=B3 at *
 generalize Zgl i pars=B4 at *
 generalize Zgl i lets=B5 at *
 by_cases h1:op=1
 ·subst h1;by_cases hi:i=0
  ·subst hi;simp -implicitDefEqProofs[c1]
  ·simp -implicitDefEqProofs[hi]
 rw[if_neg h1];by_cases hne:n=[]
 ·subst hne;by_cases h3:op=3
  ·subst h3;simp -implicitDefEqProofs[c3]
  by_cases h4:op=4
  ·subst h4;simp -implicitDefEqProofs[c4]
  by_cases h5:op=5
  ·subst h5;simp -implicitDefEqProofs[c5]
  by_cases h11:op=11
  ·subst h11;by_cases ha:-8<=i
   ·by_cases hb:i<=8<;>simp -implicitDefEqProofs[ha,hb]
   ·simp -implicitDefEqProofs[ha]
  by_cases hi:i=0
  ·subst hi;rcases zax op with ⟨e,h⟩ | ⟨e,h⟩ | ⟨e,h⟩ | ⟨e,h⟩
   ·rw[e]at ca;have g1:¬ op<1:=by omega
    have g2:¬ 11<op:=by omega
    simp -implicitDefEqProofs[h1,h3,h4,h5,h11,ca,g1,g2]
   ·rw[e]at ca;have g1:¬ op<1:=by omega
    have g2:¬ 11<op:=by omega
    simp -implicitDefEqProofs[h1,h3,h4,h5,h11,ca,g1,g2]
   ·rw[e]at ca;have g1:¬ op<1:=by omega
    have g2:¬ 11<op:=by omega
    simp -implicitDefEqProofs[h1,h3,h4,h5,h11,ca,g1,g2]
   ·rw[e]at ca;simp -implicitDefEqProofs[h1,h3,h4,h5,h11,ca,h]
  ·have hb:(if (([]:List UInt32)≠[]\/op<1\/11<op) then false else if op=3 then B3 else if op=4 then B4 else if op=5 then B5 else if op=11 then decide (-8<=i)&&decide (i<=8) else decide (i=0))=false:=by
    split
    ·rfl
    ·exact decide_eq_false hi
   rw[hb];simp -implicitDefEqProofs[h1,h3,h4,h5,h11,hi]
 ·have hp:0<n.length:=Yb1.2 hne;rw[if_pos (.inl hne)];simp -implicitDefEqProofs[h1,hp,hne]
def Zld(l:List Nd)(dim pars lets w:Int)(i:Nat):St:=⟨[(1,.i .i64 dim),(2,.i .i64 pars),(3,.i .i64 lets),(9,.i .i64 w),(14,.sl (Zl l) .an),(15,.i .i64 l.length),(16,.i .i64 i)],[],2⟩
def zik(l:List Nd)(dim pars lets w:Int)(hl:l.length<=4294967296)(hn:∀x∈l,x.n.length<=1000)(hw:w<0\/(w:Int)<=l.length):Zx T 0 0 (.norm false [9]) l46_0 (Zld l dim pars lets w 0) =
  match Zig dim pars lets w 0 l with
  | some k=>some (.r,⟨[(8,.i .i64 (k:Nat))],[],2⟩)
  | none=>some (.n,⟨[(9,.i .i64 w)],[],2⟩):=by
 have e0:l.drop 0=l:=rfl;rw[<-e0];refine zbb (Zld l dim pars lets w) l.length (fun i=>match Zig dim pars lets w i (l.drop i) with
  | some k=>some (.r,⟨[(8,.i .i64 (k:Nat))],[],2⟩)
  | none=>some (.n,⟨[(9,.i .i64 w)],[],2⟩)) (fun i hi=>?_) ?_
 ·have hg:l[i]? = some (l[i]'hi):=Ya hi;have hd:l.drop i=l[i]'hi::l.drop (i+1):=Yo hi;have cn:=zmc (T:=T) (l[i]'hi) dim pars lets (hn _ (Y7 hi));have hi':(i:Int)<l.length:=by omega
  have hws:=zbc hi (by omega);generalize hx:l[i]'hi=x at *
  rw[hd,Zig];clear hd;by_cases h1:(i:Int)=w
  ·right;rw[if_pos (.inl h1)];subst h1;unfold Zld;constructor<;>simp -implicitDefEqProofs[l46_0,hi,hi',hg,hx]
  ·generalize okN dim pars lets x=B at *
   cases B with
   | false=>
    right;rw[if_pos (.inr rfl)];unfold Zld;constructor<;>simp -implicitDefEqProofs[l46_0,hi,hi',hg,hx,h1,cn]
   | true=>
    left;refine⟨?_,by rw[if_neg (by simp[h1])]⟩;unfold Zld;simp -implicitDefEqProofs[l46_0,hi,hi',hg,hx,h1,cn,hws]
 ·rw[Yaf,Zig];unfold Zld;constructor<;>simp -implicitDefEqProofs[l46_0]
def zdv(l:List Nd)(dim pars lets:Int)(hl:l.length<=4294967296)(hn:∀x∈l,x.n.length<=1000):Za T 46 [.sl (Zl l) .an,.i .i64 dim,.i .i64 pars,.i .i64 lets]=some (.i .i64 (Za9 dim pars lets l)):=by
 have cw:=zwz (T:=T) l hl;have hlo:=zik (T:=T) l dim pars lets (Zcp l) hl hn (by
  rcases zk6 l 0 0 with h | h
  ·left;unfold Zcp;omega
  ·right;unfold Zcp;omega)
 unfold Zld at hlo;simp only[Ym]at hlo;have hf:=zk5 dim pars lets (Zcp l) l 0;unfold Za9;rw[hf];rw[zaa Zax.h46 rfl,b46];generalize Zcp l=w at *
 generalize Zig dim pars lets w 0 l=F at *
 cases F with
 | none=>
  dsimp only at hlo ⊢;simp -implicitDefEqProofs[cw,hlo]
 | some k=>
  dsimp only at hlo ⊢;simp -implicitDefEqProofs[cw,hlo]
end
def Zt(op:Int)(l:List (List Nd)):List Nd:=l.flatten++[⟨op,0,[]⟩]
def kNd(n:Int):List Nd:=[⟨1,0,if n=0 then [] else [w32 n.toNat]⟩]
def Zc4(a:List Nd)(e:Int):List Nd:=a++[⟨11,e,[]⟩]
def Zaa(op:Int)(d o:List Nd)(first:Bool):List Nd:=if d=[] then [] else if first then Zt op [d,o] else Zt op [o,d]
def Zeu(op:Int)(a b:List Nd):List Nd:=if b=[] then a else if a≠[] then Zt op [a,b] else if op=8 then Zt 6 [b] else b
def Zgv(x:Nd)(a da:List Nd):List Nd:=
 if da=[]\/(x.op=11/\x.i=0) then [] else if x.op=6 then Zt 6 [da]
 else if 0<x.i then Zt 9 [Zt 9 [kNd x.i,Zc4 a (x.i-1)],da]
 else Zt 6 [Zt 10 [Zt 9 [Zt 9 [kNd (-x.i),Zc4 a x.i],da],a]]
def Zim(d b o:List Nd):List Nd:=if Zaa 9 d o false=[] then [] else Zt 10 [Zaa 9 d o false,Zt 9 [b,b]]
def Zha(op:Int)(a da b db:List Nd):List Nd:=
 if op=9 then Zeu 7 (Zaa 9 da b true) (Zaa 9 db a false)
 else if op=10 then Zeu 8 (Zaa 10 da b true) (Zim db b a)
 else Zeu op da db
def Tre.der(u:Nd):Tre->List Nd
 | .leaf x=>if x.op=u.op/\x.i=u.i then kNd 1 else []
 | .un x a=>Zgv x a.flat (a.der u)
 | .bin x a b=>Zha x.op a.flat (a.der u) b.flat (b.der u)
@[simp] def zdz(op:Int)(l:List (List Nd)):Zt op l≠[]:=by simp[Zt]
def z1u(op:Int)(a:List Nd):(Zt op [a]).length=a.length+1:=by simp[Zt]
def zd0(op:Int)(a b:List Nd):(Zt op [a,b]).length=a.length+b.length+1:=by simp[Zt];omega
def zmj(n:Int):(kNd n).length=1:=rfl
def zi2(a:List Nd)(e:Int):(Zc4 a e).length=a.length+1:=by simp[Zc4]
def zc2(op:Int)(d o:List Nd)(f:Bool):(Zaa op d o f).length<=d.length+o.length+1:=by
 unfold Zaa;split
 ·simp
 ·split<;>rw[zd0]<;>omega
def znr(op:Int)(a b:List Nd):(Zeu op a b).length<=a.length+b.length+1:=by
 unfold Zeu;split
 ·omega
 ·split
  ·rw[zd0];omega
  ·split
   ·rw[z1u];omega
   ·omega
def z9q(x:Nd)(a da:List Nd):(Zgv x a da).length<=da.length+2*a.length+7:=by
 unfold Zgv;split
 ·simp
 ·split
  ·rw[z1u];omega
  ·split
   ·rw[zd0,zd0,zmj,zi2];omega
   ·rw[z1u,zd0,zd0,zd0,zmj,zi2];omega
def z1v(d b o:List Nd):(Zim d b o).length<=d.length+o.length+2*b.length+3:=by
 unfold Zim;have:=zc2 9 d o false;split
 ·simp
 ·rw[zd0,zd0];omega
def z9r(op:Int)(a da b db:List Nd):(Zha op a da b db).length<=da.length+db.length+a.length+3*b.length+6:=by
 unfold Zha;split
 ·have:=znr 7 (Zaa 9 da b true) (Zaa 9 db a false);have:=zc2 9 da b true;have:=zc2 9 db a false;omega
 ·split
  ·have:=znr 8 (Zaa 10 da b true) (Zim db b a);have:=zc2 10 da b true;have:=z1v db b a;omega
  ·have:=znr op da db;omega
theorem zqj(u:Nd):∀t:Tre,(t.der u).length<=10*(t.flat.length*t.flat.length)
 | .leaf x=>by
  unfold Tre.der;split
  ·simp[zmj,Tre.flat]
  ·simp
 | .un x a=>by
  have h1:=zqj u a;have h2:=z9q x a.flat (a.der u);have h3:(Tre.un x a).flat.length=a.flat.length+1:=by simp[Tre.flat]
  show (Zgv x a.flat (a.der u)).length<=_;rw[h3];generalize a.flat.length=n at *
  have:(n+1)*(n+1)=n*n+2*n+1:=by rw[Ybb,Yar];omega
  rw[this];omega
 | .bin x a b=>by
  have h1:=zqj u a;have h1':=zqj u b;have h2:=z9r x.op a.flat (a.der u) b.flat (b.der u);have h3:(Tre.bin x a b).flat.length=a.flat.length+b.flat.length+1:=by simp[Tre.flat];omega
  show (Zha x.op a.flat (a.der u) b.flat (b.der u)).length<=_;rw[h3];generalize a.flat.length=n at *
  generalize b.flat.length=m at *
  have:(n+m+1)*(n+m+1)=n*n+m*m+2*(n*m)+2*n+2*m+1:=by
   rw[Ybb,Yar,Ybb,Yar,Yar,Yas m n];omega
  rw[this];omega
def Zkh(a b:List Nd)(op i:Int):List Nd:=a++b++[⟨op,i,[]⟩]
def z9s(op:Int)(a:List Nd):Zt op [a]=Zkh a [] op 0:=by simp[Zt,Zkh]
def zg8(op:Int)(a b:List Nd):Zt op [a,b]=Zkh a b op 0:=by simp[Zt,Zkh]
def zi3(a:List Nd)(e:Int):Zc4 a e=Zkh a [] 11 e:=by simp[Zc4,Zkh]
def thin(w:Nat)(l:List Nd):Prop:=∀x∈l,x.n.length<=w
def zuk{w:Nat}{a b:List Nd}(ha:thin w a)(hb:thin w b):thin w (a++b):=fun x hx=>(Y6.1 hx).elim (ha x) (hb x)
def zat{w:Nat}{a b:List Nd}{op i:Int}(ha:thin w a)(hb:thin w b):thin w (Zkh a b op i):=by
 refine zuk (zuk ha hb) fun x hx=>?_;rw[Yr.1 hx];exact Yx _
def zcl(w:Nat):thin w []:=by simp[thin]
def zif{w:Nat}(hw:1<=w)(n:Int):thin w (kNd n):=by
 intro x hx;rw[Yr.1 hx];dsimp only;split
 ·exact Yx _
 ·exact hw
def zce{w:Nat}{op:Int}{d o:List Nd}{f:Bool}(hd:thin w d)(ho:thin w o):thin w (Zaa op d o f):=by
 unfold Zaa;split
 ·exact zcl w
 ·split<;>rw[zg8]
  ·exact zat hd ho
  ·exact zat ho hd
def zkw{w:Nat}{op:Int}{a b:List Nd}(ha:thin w a)(hb:thin w b):thin w (Zeu op a b):=by
 unfold Zeu;split
 ·exact ha
 ·split
  ·rw[zg8];exact zat ha hb
  ·split
   ·rw[z9s];exact zat hb (zcl w)
   ·exact hb
def z41{w:Nat}(hw:1<=w){x:Nd}{a da:List Nd}(ha:thin w a)(hd:thin w da):thin w (Zgv x a da):=by
 unfold Zgv;split
 ·exact zcl w
 ·split
  ·rw[z9s];exact zat hd (zcl w)
  ·split
   ·rw[zg8,zg8,zi3];exact zat (zat (zif hw _) (zat ha (zcl w))) hd
   ·rw[z9s,zg8,zg8,zg8,zi3];exact zat (zat (zat (zat (zif hw _) (zat ha (zcl w))) hd) ha) (zcl w)
def zul{w:Nat}{d b o:List Nd}(hd:thin w d)(hb:thin w b)(ho:thin w o):thin w (Zim d b o):=by
 unfold Zim;split
 ·exact zcl w
 ·rw[zg8,zg8];exact zat (zce hd ho) (zat hb hb)
def z42{w:Nat}{op:Int}{a da b db:List Nd}(ha:thin w a)(hda:thin w da)(hb:thin w b)(hdb:thin w db):thin w (Zha op a da b db):=by
 unfold Zha;split
 ·exact zkw (zce hda hb) (zce hdb ha)
 ·split
  ·exact zkw (zce hda hb) (zul hdb hb ha)
  ·exact zkw hda hdb
theorem zep{w:Nat}(hw:1<=w)(u:Nd):∀t:Tre,thin w t.flat->thin w (t.der u)
 | .leaf x,_=>by
  unfold Tre.der;split
  ·exact zif hw _
  ·exact zcl w
 | .un x a,h=>by
  have ha:thin w a.flat:=fun y hy=>h y (by simp[Tre.flat,hy]);exact z41 hw ha (zep hw u a ha)
 | .bin x a b,h=>by
  have ha:thin w a.flat:=fun y hy=>h y (by simp[Tre.flat,hy]);have hb:thin w b.flat:=fun y hy=>h y (by simp[Tre.flat,hy]);exact z42 ha (zep hw u a ha) hb (zep hw u b hb)
def Zcn(s:List Tre)(x:Nd):List Tre:=
 if arN x.op=0 then .leaf x::s else
  match s with
  | []=>[]
  | a::s1=>if arN x.op=1 then .un x a::s1 else
   match s1 with
   | []=>[]
   | b::s2=>.bin x b a::s2
theorem zg9:∀(t:Tre),t.ok->∀(s:List Tre) (r:List Nd),(t.flat++r).foldl Zcn s=r.foldl Zcn (t::s)
 | .leaf x,h,s,r=>by
  have e:arN x.op=0:=h;show (x::r).foldl Zcn s=_;rw[Ybg,show Zcn s x=.leaf x::s from by simp[Zcn,e]]
 | .un x a,h,s,r=>by
  have e:arN x.op=1:=h.1;rw[Tre.flat,Yz,zg9 a h.2];show (x::r).foldl Zcn _=_;rw[Ybg,show Zcn (a::s) x=.un x a::s from by simp[Zcn,e]]
 | .bin x a b,h,s,r=>by
  have e:arN x.op=2:=h.1;rw[Tre.flat,Yz,zg9 a h.2.1,Yz,zg9 b h.2.2];show (x::r).foldl Zcn _=_;rw[Ybg,show Zcn (b::a::s) x=.bin x a b::s from by simp[Zcn,e]]
abbrev Pc:=List Nd×List Nd
def pcs(u:Nd)(s:List Tre):List Pc:=s.reverse.map fun t=>(t.flat,t.der u)
def Zc9(l:List Pc):Nat:=(l.map fun p=>p.1.length).sum
def z43:Zc9 []=0:=rfl
def zqk(l:List Pc)(p:Pc):Zc9 (l++[p])=Zc9 l+p.1.length:=by simp[Zc9]
def zkx(l m:List Pc):Zc9 (l++m)=Zc9 l+Zc9 m:=by simp[Zc9]
def z44(u:Nd)(s:List Tre):Zc9 (pcs u s)=(Zbj s.reverse).length:=by
 unfold Zc9 pcs Zbj;rw[Ybo,List.length_flatMap]
 rfl
def zfv(u:Nd)(t:Tre)(s:List Tre):pcs u (t::s)=pcs u s++[(t.flat,t.der u)]:=by simp[pcs]
def zw6(u:Nd)(s:List Tre):(pcs u s).length=s.length:=by simp[pcs]
def zby(s:List Tre)(t:Tre):Zbj (s++[t])=Zbj s++t.flat:=by simp[Zbj]
def dv(l:List Nd):AV:=if l=[] then .sl [] .nl else .sl (Zl l) .an
def flg(l:List Nd):Fl:=if l=[] then .nl else .an
def zhp(l:List Nd):dv l=.sl (Zl l) (flg l):=by
 unfold dv flg;by_cases h:l=[]
 ·rw[if_pos h,if_pos h,h];rfl
 ·rw[if_neg h,if_neg h]
def zzz(l:List Nd)(g:Bool):Za0 g (.sl (Zl l) (flg l))=some (.b (if l=[] then !g else g)):=by
 unfold flg;cases l<;>rfl
def zkc:dv []=.sl [] .nl:=rfl
def zgx{l:List Nd}(h:l≠[]):dv l=.sl (Zl l) .an:=by rw[dv,if_neg h]
def ze4{l:List Nd}(h:l≠[])(g:Bool):Za0 g (.sl (Zl l) .an)=some (.b g):=by
 cases l with
 | nil=>exact absurd rfl h
 | cons x l=>rfl
def zvx(m:List Nd)(op i:Int)(n:List UInt32):wkL (Zl m++[[.i .i64 op,.i .i64 i,.sl (Zb n) .an]])=Zl (m++[⟨op,i,n⟩]):=by
 rw[zav,Ybp,<-zav,zsw];simp[Zl,wkR,wkA]
def zaez(m:List Nd)(x:Nd):(m++[x]).take (m.length+1)=m++[x]:=Yc (by simp)
def zbh(g:Bool):Za0 g (.sl [] .nl)=some (.b (!g)):=rfl
def zl2(m:List Nd)(op i:Int):wkL (Zl m++[[.i .i64 op,.i .i64 i,.sl [] .nl]])=Zl (m++[⟨op,i,[]⟩]):=by
 rw[zav,Ybp,<-zav,zsw];simp[Zl,wkR,wkA]
section
variable{T:Tbl}[Za4 T]
def Zm0(op:Int)(L:List (List Nd))(i:Nat)(c:List Nd)(acc:List Nd)(j:Nat):St:=
 ⟨[(0,.i .i64 op),(5,.bs (.loc 5) 1 3 0 acc.length),(10,.sl (Za3 L) .an),(11,.i .i64 L.length),(12,.i .i64 i),(16,.sl (Zl c) .an),(17,.i .i64 c.length),(18,.i .i64 j)],
  [(.loc 5,⟨1,.own,3,Zl acc⟩)],3⟩
def zvy(op:Int)(L:List (List Nd))(i:Nat)(c acc:List Nd)(hl:acc.length+c.length<=4294967295)(hn:∀x∈c,x.n.length<=4294967295) :
  Zx T 0 2 (.norm false [0,5,10,11,12]) l109_0 (Zm0 op L i c acc 0) =
  some (.n,⟨[(0,.i .i64 op),(5,.bs (.loc 5) 1 3 0 (acc++c).length),(10,.sl (Za3 L) .an),(11,.i .i64 L.length),(12,.i .i64 i)],[(.loc 5,⟨1,.own,3,Zl (acc++c)⟩)],3⟩):=by
 have:=zao (T:=T) (k:=0) (id:=2) (g2:=.norm false [0,5,10,11,12]) (c:=l109_0) (fun j=>Zm0 op L i c (acc++c.take j) j) c.length
   (some (.n,⟨[(0,.i .i64 op),(5,.bs (.loc 5) 1 3 0 (acc++c).length),(10,.sl (Za3 L) .an),(11,.i .i64 L.length),(12,.i .i64 i)],[(.loc 5,⟨1,.own,3,Zl (acc++c)⟩)],3⟩)) (fun j hj=>?_) ?_
 ·simpa using this
 ·have hg:c[j]? = some (c[j]'hj):=Ya hj;have hj':(j:Int)<c.length:=by omega
  have hws:=zbc hj (by omega);have hs:c.take (j+1)=c.take j++[c[j]'hj]:=by rw[Ya4 hj]
  have hm:(acc++c.take j).length=acc.length+j:=by rw[Yp,Yae];omega
  rw[hs,<-Yz];have hnx:=hn _ (Y7 hj);have hp:=zvx (acc++c.take j) (c[j]'hj).op (c[j]'hj).i (c[j]'hj).n;generalize hx:c[j]'hj=x at *
  generalize acc++c.take j=m at *
  obtain⟨op',i',n⟩:=x;clear hs;dsimp only at *
  have h32:m.length+1<=4294967296:=by omega
  have h33:n.length<=4294967296:=by omega
  unfold Zm0;simp -implicitDefEqProofs[l109_0,hj,hj',hg,hx,hws,hp,h32,h33]
 ·rw[Ydm];unfold Zm0;constructor<;>simp -implicitDefEqProofs[l109_0]
def zhq{L:List (List Nd)}{i:Nat}(h:i<L.length):(L.take (i+1)).flatten=(L.take i).flatten++L[i]'h:=by
 rw[Ya4 h,Ydv];simp only[Yea,List.flatten_nil,Yau]
def zkd(L:List (List Nd))(i:Nat):(L.take i).flatten.length<=L.flatten.length:=by
 have:L.flatten=(L.take i).flatten++(L.drop i).flatten:=by rw[<-Ydv,Yaw]
 rw[this,Yp];omega
def zpj(op:Int)(L:List (List Nd))(hl:L.flatten.length<=4294967295)(hL:L.length<=1000)(hn:∀c∈L,∀x∈c,x.n.length<=4294967295):Za T 109 [.i .i64 op,.sl (Za3 L) .an]=some (.sl (Zl (Zt op L)) .an):=by
 have hlo:Zx T 0 0 (.norm false [0,5]) l109_1 ⟨[(0,.i .i64 op),(5,.bs (.loc 5) 1 3 0 0),(10,.sl (Za3 L) .an),(11,.i .i64 L.length),(12,.i .i64 0)],[(.loc 5,⟨1,.own,3,[]⟩)],3⟩ =
   some (.n,⟨[(0,.i .i64 op),(5,.bs (.loc 5) 1 3 0 L.flatten.length)],[(.loc 5,⟨1,.own,3,Zl L.flatten⟩)],3⟩):=by
  have:=zao (T:=T) (k:=0) (id:=0) (g2:=.norm false [0,5]) (c:=l109_1) (fun i=>⟨[(0,.i .i64 op),(5,.bs (.loc 5) 1 3 0 (L.take i).flatten.length),(10,.sl (Za3 L) .an),(11,.i .i64 L.length),(12,.i .i64 (i:Int))],[(.loc 5,⟨1,.own,3,Zl (L.take i).flatten⟩)],3⟩) L.length
   (some (.n,⟨[(0,.i .i64 op),(5,.bs (.loc 5) 1 3 0 L.flatten.length)],[(.loc 5,⟨1,.own,3,Zl L.flatten⟩)],3⟩)) (fun i hi=>?_) ?_
  ·simpa using this
  ·have hg:L[i]? = some (L[i]'hi):=Ya hi;have hi':(i:Int)<L.length:=by omega
   have hws:=zbc hi (by omega);have hf:=zhq hi;have hle:=zkd L (i+1);rw[hf,Yp]at hle;have hin:=zvy (T:=T) op L i (L[i]'hi) (L.take i).flatten (by omega) (hn _ (Y7 hi));rw[hf];generalize hx:L[i]'hi=c at *
   generalize (L.take i).flatten=m at *
   clear hf hle;unfold Zm0 at hin;simp only[Ym]at hin;simp -implicitDefEqProofs[l109_1,hi,hi',hg,hx,hws,hin]
  ·rw[Ydm];constructor<;>simp -implicitDefEqProofs[l109_1]
 have hp:=zl2 L.flatten op 0;have h32:L.flatten.length+1<=4294967296:=by omega
 rw[zaa Za4.h109 rfl,b109];unfold Zt;generalize L.flatten=m at *
 have ht:=zaez m ⟨op,0,[]⟩;simp -implicitDefEqProofs[hlo,hp,h32,ht]
def zhr(op:Int)(a:List Nd)(hl:a.length<=4294967295)(hn:thin 1000 a):Za T 109 [.i .i64 op,.sl [[.sl (Zl a) .an]] .an]=some (.sl (Zl (Zt op [a])) .an):=
 zpj op [a] (by simpa using hl) (by simp) (fun c hc x hx=>by rw[Yr.1 hc]at hx;exact Ye (hn x hx) (by decide))
def zbk(op:Int)(a b:List Nd)(hl:a.length+b.length<=4294967295)(ha:thin 1000 a)(hb:thin 1000 b):Za T 109 [.i .i64 op,.sl [[.sl (Zl a) .an],[.sl (Zl b) .an]] .an]=some (.sl (Zl (Zt op [a,b])) .an):=
 zpj op [a,b] (by simpa using hl) (by simp) (fun c hc x hx=>by
  simp only[Yw,Ycz,or_false]at hc;rcases hc with rfl | rfl
  ·exact Ye (ha x hx) (by decide)
  ·exact Ye (hb x hx) (by decide))
def zfm(k:Nat)(hk:k<1000):Za T 48 [.i .i64 (k:Int)]=some (.sl (Zl (kNd k)) .an):=by
 rw[zaa Za4.h48 rfl,b48];unfold kNd;by_cases h:k=0
 ·subst h;simp -implicitDefEqProofs[Zl]
 ·have h':¬ (k:Int)=0:=by omega
  have e:(w32 k).toNat=k:=by rw[zba];omega
  simp -implicitDefEqProofs[h,h',Zl,Zb,e];omega
def zl3(a:List Nd)(e:Int)(hl:a.length<=4294967295):Za T 110 [.sl (Zl a) .an,.i .i64 e]=some (.sl (Zl (Zc4 a e)) .an):=by
 have hp:=zl2 a 11 e;have h32:a.length+1<=4294967296:=by omega
 have h33:a.length<=4294967296:=by omega
 rw[zaa Za4.h110 rfl,b110];unfold Zc4;have ht:=zaez a ⟨11,e,[]⟩;simp -implicitDefEqProofs[hp,h32,h33,ht]
def zfn(op:Int)(d o:List Nd)(f:Bool)(hl:d.length+o.length<=4294967295)(hd:thin 1000 d)(ho:thin 1000 o):Za T 112 [.i .i64 op,dv d,.sl (Zl o) .an,.b f]=some (dv (Zaa op d o f)):=by
 have c1:=zbk (T:=T) op d o hl hd ho;have c2:=zbk (T:=T) op o d (by omega) ho hd;rw[zaa Za4.h112 rfl,b112];unfold Zaa;by_cases h:d=[]
 ·subst h;simp -implicitDefEqProofs[zkc]
 ·have e1:=ze4 h;rw[zgx h,if_neg h];cases f with
  | true=>
   rw[if_pos rfl,zgx (zdz _ _)];generalize Zt op [d,o]=R at *
   simp -implicitDefEqProofs[-Za0,zbh,e1,c1]
  | false=>
   rw[if_neg (by decide),zgx (zdz _ _)];generalize Zt op [o,d]=R at *
   simp -implicitDefEqProofs[-Za0,zbh,e1,c2]
def zke(op:Int)(a b:List Nd)(hl:a.length+b.length<=4294967295)(ha:thin 1000 a)(hb:thin 1000 b):Za T 111 [.i .i64 op,dv a,dv b]=some (dv (Zeu op a b)):=by
 have c1:=zbk (T:=T) op a b hl ha hb;have c2:=zhr (T:=T) 6 b (by omega) hb;rw[zaa Za4.h111 rfl,b111];unfold Zeu;by_cases h:b=[]
 ·subst h;rw[if_pos rfl];simp -implicitDefEqProofs[zkc];by_cases h2:a=[]
  ·subst h2;simp -implicitDefEqProofs[zkc]
  ·rw[zgx h2];simp -implicitDefEqProofs
 ·have e1:=ze4 h;rw[if_neg h,zgx h];by_cases h2:a=[]
  ·subst h2;rw[if_neg (fun hh=>hh rfl),zkc];by_cases h3:op=8
   ·subst h3;rw[if_pos rfl,zgx (zdz _ _)];generalize Zt 6 [b]=R at *
    simp -implicitDefEqProofs[-Za0,zbh,e1,c2]
   ·rw[if_neg h3,zgx h];simp -implicitDefEqProofs[-Za0,zbh,e1,h3]
  ·have e2:=ze4 h2;rw[if_pos h2,zgx h2,zgx (zdz _ _)];generalize Zt op [a,b]=R at *
   simp -implicitDefEqProofs[-Za0,zbh,e1,e2,c1]
end
section
variable{T:Tbl}[Za4 T]
def z8h(x u:Nd):Za T 53 [.agg (Zdb x),.agg (Zdb u)]=some (.b (decide (x.op=u.op)&&decide (x.i=u.i))):=by
 obtain⟨op,i,n⟩:=x;obtain⟨op',i',n'⟩:=u;rw[zaa Za4.h53 rfl,b53];dsimp only;by_cases h:op=op'
 ·subst h;by_cases h2:i=i'<;>simp -implicitDefEqProofs[h2]
 ·simp -implicitDefEqProofs[h]
abbrev Zct(p:Pc):List AV:=[.sl (Zl p.1) .an,dv p.2]
def z3j(op:Int)(a da b db:List Nd)(hl:a.length+da.length+3*b.length+db.length+10<=4294967295)(ha:thin 1000 a)(hda:thin 1000 da)(hb:thin 1000 b)(hdb:thin 1000 db) :
  Za T 78 [.i .i64 op,.agg (Zct (a,da)),.agg (Zct (b,db))]=some (dv (Zha op a da b db)):=by
 rw[zaa Za4.h78 rfl,b78];unfold Zha;by_cases h9:op=9
 ·subst h9;have c1:=zfn (T:=T) 9 da b true (by omega) hda hb;have c2:=zfn (T:=T) 9 db a false (by omega) hdb ha;have l1:=zc2 9 da b true;have l2:=zc2 9 db a false;have c3:=zke (T:=T) 7 (Zaa 9 da b true) (Zaa 9 db a false) (by omega) (zce hda hb) (zce hdb ha);rw[if_pos rfl];simp only[Zct,zhp]at c1 c2 c3 ⊢;generalize Zeu 7 (Zaa 9 da b true) (Zaa 9 db a false)=R at *
  generalize Zaa 9 da b true=P1 at *
  generalize Zaa 9 db a false=P2 at *
  generalize flg R=fR at *
  generalize flg P1=f1 at *
  generalize flg P2=f2 at *
  generalize flg da=fa at *
  generalize flg db=fb at *
  simp -implicitDefEqProofs[c1,c2,c3]
 rw[if_neg h9];by_cases h10:op=10
 ·subst h10;have c1:=zfn (T:=T) 9 db a false (by omega) hdb ha;have c2:=zbk (T:=T) 9 b b (by omega) hb hb;have l1:=zc2 9 db a false;have l2:=zd0 9 b b;have tb:thin 1000 (Zt 9 [b,b]):=by rw[zg8];exact zat hb hb
  have c3:=zbk (T:=T) 10 (Zaa 9 db a false) (Zt 9 [b,b]) (by omega) (zce hdb ha) tb;have c4:=zfn (T:=T) 10 da b true (by omega) hda hb;have l4:=zc2 10 da b true;have l5:=z1v db b a;have c5:=zke (T:=T) 8 (Zaa 10 da b true) (Zim db b a) (by omega) (zce hda hb) (zul hdb hb ha);have e1:=zzz (Zaa 9 db a false) true;rw[if_pos rfl];by_cases hz:Zaa 9 db a false=[]
  ·have hlow:Zim db b a=[]:=by unfold Zim;rw[if_pos hz]
   rw[hlow]at c5 ⊢;rw[if_pos hz]at e1;rw[hz]at c1;simp only[Zct,zhp]at c1 c4 c5 ⊢;generalize Zeu 8 (Zaa 10 da b true) []=R at *
   generalize Zaa 10 da b true=P1 at *
   generalize flg R=fR at *
   generalize flg P1=f1 at *
   generalize flg da=fa at *
   generalize flg db=fb at *
   have e2:flg []=.nl:=rfl;rw[e2]at c1 c5;simp -implicitDefEqProofs[-Za0,zbh,c1,c4,c5]at c1 c5 ⊢;simp -implicitDefEqProofs[-Za0,zbh,c1,c4,c5]
  ·have hlow:Zim db b a=Zt 10 [Zaa 9 db a false,Zt 9 [b,b]]:=by unfold Zim;rw[if_neg hz]
   have hfz:flg (Zaa 9 db a false)=.an:=by unfold flg;rw[if_neg hz]
   have hfl:flg (Zt 10 [Zaa 9 db a false,Zt 9 [b,b]])=.an:=by unfold flg;rw[if_neg (zdz _ _)]
   rw[hlow]at c5 ⊢;rw[if_neg hz,hfz]at e1;simp only[Zct,zhp,hfz,hfl]at c1 c4 c5 ⊢;generalize Zeu 8 (Zaa 10 da b true) (Zt 10 [Zaa 9 db a false,Zt 9 [b,b]])=R at *
   generalize Zt 10 [Zaa 9 db a false,Zt 9 [b,b]]=LO at *
   generalize Zt 9 [b,b]=BB at *
   generalize Zaa 9 db a false=P2 at *
   generalize Zaa 10 da b true=P1 at *
   generalize flg R=fR at *
   generalize flg P1=f1 at *
   generalize flg da=fa at *
   generalize flg db=fb at *
   simp -implicitDefEqProofs[-Za0,zbh,e1,c1,c2,c3,c4,c5]
 rw[if_neg h10];have c1:=zke (T:=T) op da db (by omega) hda hdb;simp only[Zct,zhp]at c1 ⊢;generalize Zeu op da db=R at *
 generalize flg R=fR at *
 generalize flg da=fa at *
 generalize flg db=fb at *
 simp -implicitDefEqProofs[h9,h10,c1]
def z3k(x:Nd)(a da:List Nd)(hx:x.op=6\/x.op=11)(hi:-8<=x.i/\x.i<=8)(h6:x.op=6->x.i=0)(hl:2*a.length+da.length+10<=4294967295)(ha:thin 1000 a)(hda:thin 1000 da) :
  Za T 77 [.agg (Zdb x),.agg (Zct (a,da))]=some (dv (Zgv x a da)):=by
 obtain⟨op,i,n⟩:=x;dsimp only at hx hi h6;rw[zaa Za4.h77 rfl,b77];unfold Zgv;simp only[Zct];by_cases hz:da=[]
 ·subst hz;rw[if_pos (.inl rfl)];simp -implicitDefEqProofs[zkc]
 have e1:=ze4 hz;rw[zgx hz];rcases hx with rfl | rfl
 ·have c1:=zhr (T:=T) 6 da (by omega) hda;rw[if_neg (by simp[hz]),if_pos rfl,zgx (zdz _ _)];generalize Zt 6 [da]=R at *
  simp -implicitDefEqProofs[-Za0,zbh,e1,c1]
 by_cases h0:i=0
 ·subst h0;rw[if_pos (.inr ⟨rfl,rfl⟩)];simp -implicitDefEqProofs[-Za0,zbh,e1,zkc]
 rw[if_neg (by simp[hz,h0]),if_neg (by decide)];by_cases hp:0<i
 ·obtain⟨k,rfl⟩:∃k:Nat,i=k:=⟨i.toNat,by omega⟩;have c1:=zfm (T:=T) k (by omega);have c2:=zl3 (T:=T) a ((k:Int)-1) (by omega);have l1:=zmj (k:Int);have l2:=zi2 a ((k:Int)-1);have tp:thin 1000 (Zc4 a ((k:Int)-1)):=by rw[zi3];exact zat ha (zcl _)
  have c3:=zbk (T:=T) 9 (kNd k) (Zc4 a ((k:Int)-1)) (by omega) (zif (by decide) _) tp;have l3:=zd0 9 (kNd k) (Zc4 a ((k:Int)-1));have t3:thin 1000 (Zt 9 [kNd k,Zc4 a ((k:Int)-1)]):=by rw[zg8];exact zat (zif (by decide) _) tp
  have c4:=zbk (T:=T) 9 (Zt 9 [kNd k,Zc4 a ((k:Int)-1)]) da (by omega) t3 hda;have hw:IntKind.wrap .i64 ((k:Int)-1)=(k:Int)-1:=zab _ (by omega);rw[if_pos hp,zgx (zdz _ _)];have hp':0<k:=by omega
  have h0':¬ k=0:=by omega
  generalize Zt 9 [Zt 9 [kNd k,Zc4 a ((k:Int)-1)],da]=R at *
  generalize Zt 9 [kNd k,Zc4 a ((k:Int)-1)]=R2 at *
  generalize Zc4 a ((k:Int)-1)=R3 at *
  generalize kNd (k:Int)=R4 at *
  simp -implicitDefEqProofs[-Za0,zbh,e1,c1,c2,c3,c4,hw,hp',h0,h0']
 ·obtain⟨k,rfl⟩:∃k:Nat,i=-(k:Int):=⟨(-i).toNat,by omega⟩;have en:-(-(k:Int))=k:=by omega
  rw[en];have c1:=zfm (T:=T) k (by omega);have c2:=zl3 (T:=T) a (-(k:Int)) (by omega);have l1:=zmj (k:Int);have l2:=zi2 a (-(k:Int));have tp:thin 1000 (Zc4 a (-(k:Int))):=by rw[zi3];exact zat ha (zcl _)
  have c3:=zbk (T:=T) 9 (kNd k) (Zc4 a (-(k:Int))) (by omega) (zif (by decide) _) tp;have l3:=zd0 9 (kNd k) (Zc4 a (-(k:Int)));have t3:thin 1000 (Zt 9 [kNd k,Zc4 a (-(k:Int))]):=by rw[zg8];exact zat (zif (by decide) _) tp
  have c4:=zbk (T:=T) 9 (Zt 9 [kNd k,Zc4 a (-(k:Int))]) da (by omega) t3 hda;have l4:=zd0 9 (Zt 9 [kNd k,Zc4 a (-(k:Int))]) da;have t4:thin 1000 (Zt 9 [Zt 9 [kNd k,Zc4 a (-(k:Int))],da]):=by rw[zg8];exact zat t3 hda
  have c5:=zbk (T:=T) 10 (Zt 9 [Zt 9 [kNd k,Zc4 a (-(k:Int))],da]) a (by omega) t4 ha;have l5:=zd0 10 (Zt 9 [Zt 9 [kNd k,Zc4 a (-(k:Int))],da]) a;have t5:thin 1000 (Zt 10 [Zt 9 [Zt 9 [kNd k,Zc4 a (-(k:Int))],da],a]):=by rw[zg8];exact zat t4 ha
  have c6:=zhr (T:=T) 6 (Zt 10 [Zt 9 [Zt 9 [kNd k,Zc4 a (-(k:Int))],da],a]) (by omega) t5;have hw:IntKind.wrap .i64 (k:Int)=(k:Int):=zab _ (by omega);rw[if_neg hp,zgx (zdz _ _)];have hp':¬ 0 < -(k:Int):=by omega
  have h0':¬ k=0:=by omega
  generalize Zt 6 [Zt 10 [Zt 9 [Zt 9 [kNd k,Zc4 a (-(k:Int))],da],a]]=R6 at *
  generalize Zt 10 [Zt 9 [Zt 9 [kNd k,Zc4 a (-(k:Int))],da],a]=R5 at *
  generalize Zt 9 [Zt 9 [kNd k,Zc4 a (-(k:Int))],da]=R at *
  generalize Zt 9 [kNd k,Zc4 a (-(k:Int))]=R2 at *
  generalize Zc4 a (-(k:Int))=R3 at *
  generalize kNd (k:Int)=R4 at *
  simp -implicitDefEqProofs[-Za0,zbh,e1,c1,c2,c3,c4,c5,c6,hw,hp',h0,h0']
end
def Zdm(l:List Pc):List (List AV):=l.map Zct
@[simp] def z5y(l:List Pc):(Zdm l).length=l.length:=by simp[Zdm]
@[simp] def zae0(l:List Pc)(i:Nat)(h:i<(Zdm l).length):(Zdm l)[i]=Zct (l[i]'(by simpa using h)):=by simp[Zdm]
def zvz(l:List Pc)(x:Pc):Zdm l++[Zct x]=Zdm (l++[x]):=by simp[Zdm]
@[simp] def zabv(l:List Pc)(n:Nat):(Zdm l).take n=Zdm (l.take n):=by simp[Zdm]
@[simp] def zpk:Zdm []=[]:=rfl
def zkf(l:List Pc)(c d:List Nd):Zdm l++[[.sl (Zl c) .an,.sl (Zl d) (flg d)]]=Zdm (l++[(c,d)]):=by
 rw[<-zvz];simp only[Zct,zhp]
section
variable{T:Tbl}[Za4 T]
abbrev Zm1(u x:Nd)(S:List Pc):Heap:=[(.loc 3,⟨1,.str,3,[Zdb u]⟩),(.loc 5,⟨2,.own,2,Zdm S⟩),(.loc 7,⟨3,.str,3,[Zdb x]⟩)]
def Zji(u x:Nd)(code:List Nd)(S:List Pc)(i kk:Nat)(v:AV)(r:Nat)(from_ j:Nat):St:=
 ⟨[(0,.sl (Zl code) .an),(3,.ptr (.loc 3) 1 3 0 0),(5,.bs (.loc 5) 2 2 0 S.length),(6,.i .i64 i),(7,.ptr (.loc 7) 3 3 0 0),(8,.i .i64 kk),(9,.i .i64 from_),(13,.sl (Zl code) .an),(14,.i .i64 code.length),(15,.i .i64 i),
  (29,v),(30,.i .i64 r),(31,.i .i64 j)],Zm1 u x S,5⟩
def Zid(u x:Nd)(code:List Nd)(S:List Pc)(i kk:Nat)(from_:Nat):St:=
 ⟨[(0,.sl (Zl code) .an),(3,.ptr (.loc 3) 1 3 0 0),(5,.bs (.loc 5) 2 2 0 S.length),(6,.i .i64 i),(7,.ptr (.loc 7) 3 3 0 0),(8,.i .i64 kk),(9,.i .i64 from_),(13,.sl (Zl code) .an),(14,.i .i64 code.length),(15,.i .i64 i)],Zm1 u x S,5⟩
def zae1(u x:Nd)(code:List Nd)(S:List Pc)(i kk f:Nat)(v:AV)(hv:v=.sl [] .an\/v=.bs (.loc 5) 2 2 0 0) :
  Zx T 0 2 (.norm true [0,3,5,6,7,8,9,13,14,15]) l47_0 (Zji u x code S i kk v 0 f 0)=some (.n,Zid u x code S i kk f):=by
 refine zao (fun j=>Zji u x code S i kk v 0 f j) 0 _ (fun j hj=>absurd hj (Nat.not_lt_zero j)) ?_;unfold Zji Zid;rcases hv with rfl | rfl<;>(constructor<;>simp -implicitDefEqProofs[l47_0])
def zpl(l:List Pc)(j:Nat):Zc9 (l.take j)<=Zc9 l:=by
 have:Zc9 l=Zc9 (l.take j)+Zc9 (l.drop j):=by rw[<-zkx,Yaw]
 omega
def zpm(l:List Pc)(j:Nat):Zc9 (l.drop j)<=Zc9 l:=by
 have:Zc9 l=Zc9 (l.take j)+Zc9 (l.drop j):=by rw[<-zkx,Yaw]
 omega
def zae2(u x:Nd)(code:List Nd)(S:List Pc)(i kk r:Nat)(hr:S.length=kk+r)(hS:S.length<=4294967295)(hi:Zc9 S<=i)(hi2:i<=4294967295) :
  Zx T 0 2 (.norm true [0,3,5,6,7,8,9,13,14,15]) l47_0 (Zji u x code S i kk (.bs (.loc 5) 2 2 kk r) r i 0)=some (.n,Zid u x code S i kk (i-Zc9 (S.drop kk))):=by
 have:=zao (T:=T) (k:=0) (id:=2) (g2:=.norm true [0,3,5,6,7,8,9,13,14,15]) (c:=l47_0) (fun j=>Zji u x code S i kk (.bs (.loc 5) 2 2 kk r) r (i-Zc9 ((S.drop kk).take j)) j) r
  (some (.n,Zid u x code S i kk (i-Zc9 (S.drop kk)))) (fun j hj=>?_) ?_
 ·simpa[z43]using this
 ·have hlt:kk+j<S.length:=by omega
  have hg:S[kk+j]? = some (S[kk+j]'hlt):=Ya hlt;have hj':(j:Int)<r:=by omega
  have hws:=zbc hj (by omega);have ht:(S.drop kk).take (j+1)=(S.drop kk).take j++[S[kk+j]'hlt]:=by
   rw[Ya4 (by rw[Yb3];omega)];congr 2;simp
  have hle:=zpl (S.drop kk) (j+1);have hle2:=zpm S kk;rw[ht,zqk]at hle;rw[ht,zqk];generalize hx:S[kk+j]'hlt=p at *
  generalize Zc9 ((S.drop kk).take j)=L at *
  generalize Zc9 (S.drop kk)=L2 at *
  obtain⟨c,d⟩:=p;clear ht;dsimp only at *
  have hw:IntKind.wrap .i64 (((i-L:Nat):Int)-(c.length:Int))=((i-(L+c.length):Nat):Int):=by rw[zab _ (by omega)];omega
  unfold Zji;simp -implicitDefEqProofs[l47_0,hj,hj',hlt,hg,hx,hws,hw,zhp]
 ·have ht:(S.drop kk).take r=S.drop kk:=Yc (by rw[Yb3];omega);rw[ht];unfold Zji Zid;constructor<;>simp -implicitDefEqProofs[l47_0]
def Zhx(u:Nd)(code:List Nd)(S:List Pc)(i:Nat):St:=
 ⟨[(0,.sl (Zl code) .an),(3,.ptr (.loc 3) 1 3 0 0),(5,.bs (.loc 5) 2 2 0 S.length),(13,.sl (Zl code) .an),(14,.i .i64 code.length),(15,.i .i64 i)],[(.loc 3,⟨1,.str,3,[Zdb u]⟩),(.loc 5,⟨2,.own,2,Zdm S⟩)],4⟩
variable[Zax T]
def z3l(u x:Nd)(code:List Nd)(S:List Pc)(i:Nat)(hx:code[i]? = some x)(ha:arN x.op=0)(hS:S.length<=4294967290)(hi2:code.length<=4294967290) :
  evX (orc T) T 0 l47_1 (Zhx u code S i)=some (.n,Zhx u code (S++[((code.take (i+1)).drop i,if x.op=u.op/\x.i=u.i then kNd 1 else [])]) (i+1)):=by
 obtain⟨hlt,hge⟩:=Yb.1 hx;have hlt':(i:Int)<code.length:=by omega
 have hws:=zbc hlt (by omega);have ca:=za2 (T:=T) x.op;rw[ha]at ca;have ci:=z8h (T:=T) x u;have ck:Za T 48 [.i .i64 1]=some (.sl (Zl (kNd 1)) .an):=zfm (T:=T) 1 (by decide);have h1:i<=code.length:=by omega
 have h2:i+1<=code.length:=by omega
 have h2':(i:Int)+1<=code.length:=by omega
 have hin:=zae1 (T:=T) u x code S i S.length i;unfold Zji Zid at hin;simp only[Ym]at hin;have h32:S.length+1<=4294967296:=by omega
 have hput:=zkf S ((code.take (i+1)).drop i) (if x.op=u.op/\x.i=u.i then kNd 1 else []);have hw:IntKind.wrap .i64 ((S.length:Int)-0)=S.length:=by rw[Int.sub_zero];exact zab _ (by omega)
 have hw2:IntKind.wrap .i64 (S.length:Int)=S.length:=zab _ (by omega);have hw3:IntKind.wrap .i64 0=0:=by decide
 unfold Zhx;generalize hc:(code.take (i+1)).drop i=c at *
 obtain⟨op,xi,n⟩:=x;obtain⟨uop,ui,un⟩:=u;dsimp only at *
 by_cases h0:S=[]
 ·subst h0;have hin1:=hin (.bs (.loc 5) 2 2 0 0) (.inr rfl);clear hin;simp only[Zm1,Yab,Ym,zpk,Yal]at *
  by_cases hu:op=uop/\xi=ui
  ·have e1:(decide (op=uop)&&decide (xi=ui))=true:=by simp[hu]
   rw[e1]at ci;rw[if_pos hu]at hput ⊢;have ef:flg (kNd 1)=.an:=rfl;rw[ef]at hput;clear ef;generalize kNd 1=K at *
   rw[<-hput];simp -implicitDefEqProofs[l47_1,hlt,hlt',hx,hge,ca,ci,ck,hws,hw,hw2,hw3,hin1,h1,h2,h2',hc,h32]
  ·have e1:(decide (op=uop)&&decide (xi=ui))=false:=by
    rw[Ydd,decide_eq_false_iff_not,decide_eq_false_iff_not];exact Classical.not_and_iff_not_or_not.1 hu
   rw[e1]at ci;rw[if_neg hu]at hput ⊢;have ef:flg []=.nl:=rfl;rw[ef,zur]at hput;clear ef;rw[<-hput];simp -implicitDefEqProofs[l47_1,hlt,hlt',hx,hge,ca,ci,ck,hws,hw,hw2,hw3,hin1,h1,h2,h2',hc,h32]
 ·have hp:0<S.length:=Yb1.2 h0;have hp':¬ S.length=0:=by omega
  have hin1:=hin (.sl [] .an) (.inl rfl);clear hin;by_cases hu:op=uop/\xi=ui
  ·have e1:(decide (op=uop)&&decide (xi=ui))=true:=by simp[hu]
   rw[e1]at ci;rw[if_pos hu]at hput ⊢;have ef:flg (kNd 1)=.an:=rfl;rw[ef]at hput;clear ef;generalize kNd 1=K at *
   simp -implicitDefEqProofs[l47_1,hlt,hlt',hx,hge,ca,ci,ck,hws,hw,hw2,hw3,hin1,hp,hp',h0,h1,h2,h2',hc,h32,hput]
  ·have e1:(decide (op=uop)&&decide (xi=ui))=false:=by
    rw[Ydd,decide_eq_false_iff_not,decide_eq_false_iff_not];exact Classical.not_and_iff_not_or_not.1 hu
   rw[e1]at ci;rw[if_neg hu]at hput ⊢;have ef:flg []=.nl:=rfl;rw[ef,zur]at hput;clear ef;simp -implicitDefEqProofs[l47_1,hlt,hlt',hx,hge,ca,ci,ck,hws,hw,hw2,hw3,hin1,hp,hp',h0,h1,h2,h2',hc,h32,hput]
end
section
variable{T:Tbl}[Za4 T][Zax T]
def z3m(u x:Nd)(code:List Nd)(S S':List Pc)(a da:List Nd)(i:Nat)(hx:code[i]? = some x)(ha:arN x.op=1)(hSe:S=S'++[(a,da)])(hS:S.length<=4294967290)(hi2:code.length<=4294967290)(hL:Zc9 S<=i)
  (c1:Za T 77 [.agg (Zdb x),.agg (Zct (a,da))]=some (dv (Zgv x a da))) :
  evX (orc T) T 0 l47_1 (Zhx u code S i)=some (.n,Zhx u code (S'++[((code.take (i+1)).drop (i-a.length),Zgv x a da)]) (i+1)):=by
 obtain⟨hlt,hge⟩:=Yb.1 hx;have hlt':(i:Int)<code.length:=by omega
 have hws:=zbc hlt (by omega);have ca:=za2 (T:=T) x.op;rw[ha]at ca;obtain⟨kk,hkk⟩:∃kk,kk=S'.length:=⟨_,rfl⟩;have hSl:S.length=kk+1:=by rw[hSe,hkk];simp
 have hg:S[kk]? = some (a,da):=by rw[hSe,hkk];simp
 have hge2:=(Yb.1 hg).2;have htk:S.take kk=S':=by rw[hSe,hkk];simp
 have hdr:Zc9 (S.drop kk)=a.length:=by rw[hSe,hkk];simp[Zc9]
 have hin:=zae2 (T:=T) u x code S i kk 1 hSl (by omega) hL (by omega);rw[hdr]at hin;have h1:i-a.length<=i+1:=by omega
 have h2:i+1<=code.length:=by omega
 have h2':(i:Int)+1<=code.length:=by omega
 have h32:kk+1<=4294967296:=by omega
 have hput:=zkf S' ((code.take (i+1)).drop (i-a.length)) (Zgv x a da);have hw:IntKind.wrap .i64 (kk:Int)=kk:=zab _ (by omega);have hw2:IntKind.wrap .i64 ((kk:Int)+1-1)=kk:=by rw[zab _ (by omega)];omega
 have hw5:IntKind.wrap .i64 ((kk:Int)+1-kk)=1:=by rw[show (kk:Int)+1-kk=1 by omega];decide
 have hle:kk<=S.length:=by omega
 have hk1:(kk:Int)<kk+1:=by omega
 have hk2:(kk:Int)<kk+2:=by omega
 have hk3:(kk:Int)+1<kk+2:=by omega
 have hk6:(kk:Int)<=kk+1:=by omega
 have hk7:(kk:Int)<=kk+2:=by omega
 have hk4:0<=(kk:Int)+1:=by omega
 have hk5:((kk:Int)+1).toNat=kk+1:=by omega
 unfold Zji Zid at hin;unfold Zhx;rw[hSl]at hin ⊢;rw[show (S'++[((code.take (i+1)).drop (i-a.length),Zgv x a da)]).length=kk+1 by rw[hkk];simp];generalize hc:(code.take (i+1)).drop (i-a.length)=c at *
 simp only[Zct,zhp]at c1;generalize hf:i-a.length=f at *
 have h1':(f:Int)<=(i:Int)+1:=by omega
 generalize Zgv x a da=R at *
 generalize hfR:flg R=fR at *
 generalize hfd:flg da=fd at *
 obtain⟨op,xi,n⟩:=x;obtain⟨uop,ui,un⟩:=u;dsimp only at *
 have hel:Zct (a,da)=[.sl (Zl a) .an,.sl (Zl da) fd]:=by simp only[Zct,zhp,hfd]
 simp only[Zm1,Ym,Yc6]at hin;rw[<-hput];clear hSe hdr hkk hS hi2 hL ha;by_cases h0:kk=0
 ·subst h0;rw[Yb9]at htk;subst htk;simp only[Ym,Yad]at *
  simp -implicitDefEqProofs[l47_1,hlt,hlt',hx,hge,ca,hws,hw,hw2,hin,h1,h1',h2,h2',hc,h32,hSl,hg,hge2,hel,c1]
 ·have hp:0<kk:=by omega
  simp -implicitDefEqProofs[l47_1,hlt,hlt',hx,hge,ca,hws,hw,hw2,hw5,hin,hp,h0,h1,h1',h2,h2',hc,h32,hSl,hg,hge2,hel,c1,htk,hle,hk1,hk2,hk3,hk4,hk5,hk6,hk7]
def z3n(u x:Nd)(code:List Nd)(S S':List Pc)(a da b db:List Nd)(i:Nat)(hx:code[i]? = some x)(ha:arN x.op=2)(hSe:S=S'++[(a,da),(b,db)])(hS:S.length<=4294967290)(hi2:code.length<=4294967290)(hL:Zc9 S<=i)
  (c1:Za T 78 [.i .i64 x.op,.agg (Zct (a,da)),.agg (Zct (b,db))]=some (dv (Zha x.op a da b db))) :
  evX (orc T) T 0 l47_1 (Zhx u code S i)=some (.n,Zhx u code (S'++[((code.take (i+1)).drop (i-(a.length+b.length)),Zha x.op a da b db)]) (i+1)):=by
 obtain⟨hlt,hge⟩:=Yb.1 hx;have hlt':(i:Int)<code.length:=by omega
 have hws:=zbc hlt (by omega);have ca:=za2 (T:=T) x.op;rw[ha]at ca;obtain⟨kk,hkk⟩:∃kk,kk=S'.length:=⟨_,rfl⟩;have hSl:S.length=kk+2:=by rw[hSe,hkk];simp
 have hg:S[kk]? = some (a,da):=by rw[hSe,hkk];simp
 have hge2:=(Yb.1 hg).2;have hgb:S[kk+1]? = some (b,db):=by rw[hSe,hkk];simp
 have hgb2:=(Yb.1 hgb).2;have htk:S.take kk=S':=by rw[hSe,hkk];simp
 have hdr:Zc9 (S.drop kk)=a.length+b.length:=by rw[hSe,hkk];simp[Zc9]
 have hin:=zae2 (T:=T) u x code S i kk 2 hSl (by omega) hL (by omega);rw[hdr]at hin;have h1:i-(a.length+b.length)<=i+1:=by omega
 have h2:i+1<=code.length:=by omega
 have h2':(i:Int)+1<=code.length:=by omega
 have h32:kk+1<=4294967296:=by omega
 have hput:=zkf S' ((code.take (i+1)).drop (i-(a.length+b.length))) (Zha x.op a da b db);have hw:IntKind.wrap .i64 (kk:Int)=kk:=zab _ (by omega);have hw2:IntKind.wrap .i64 ((kk:Int)+2-2)=kk:=by rw[zab _ (by omega)];omega
 have hw5:IntKind.wrap .i64 ((kk:Int)+2-kk)=2:=by rw[show (kk:Int)+2-kk=2 by omega];decide
 have hw6:IntKind.wrap .i64 ((kk:Int)+1)=(kk:Int)+1:=zab _ (by omega);have hle:kk<=S.length:=by omega
 have hk1:(kk:Int)<kk+1:=by omega
 have hk2:(kk:Int)<kk+2:=by omega
 have hk3:(kk:Int)+1<kk+2:=by omega
 have hk6:(kk:Int)<=kk+1:=by omega
 have hk7:(kk:Int)<=kk+2:=by omega
 have hk4:0<=(kk:Int)+1:=by omega
 have hk5:((kk:Int)+1).toNat=kk+1:=by omega
 unfold Zji Zid at hin;unfold Zhx;rw[hSl]at hin ⊢;rw[show (S'++[((code.take (i+1)).drop (i-(a.length+b.length)),Zha x.op a da b db)]).length=kk+1 by rw[hkk];simp];generalize hc:(code.take (i+1)).drop (i-(a.length+b.length))=c at *
 simp only[Zct,zhp]at c1;generalize hf:i-(a.length+b.length)=f at *
 have h1':(f:Int)<=(i:Int)+1:=by omega
 generalize Zha x.op a da b db=R at *
 generalize hfR:flg R=fR at *
 generalize hfd:flg da=fd at *
 generalize hfe:flg db=fe at *
 obtain⟨op,xi,n⟩:=x;obtain⟨uop,ui,un⟩:=u;dsimp only at *
 have hel:Zct (a,da)=[.sl (Zl a) .an,.sl (Zl da) fd]:=by simp only[Zct,zhp,hfd]
 have hel2:Zct (b,db)=[.sl (Zl b) .an,.sl (Zl db) fe]:=by simp only[Zct,zhp,hfe]
 simp only[Zm1,Ym,Int.cast_ofNat_Int]at hin;rw[<-hput];clear hSe hdr hkk hS hi2 hL ha;by_cases h0:kk=0
 ·subst h0;rw[Yb9]at htk;subst htk;simp only[Ym,Yad]at *
  simp -implicitDefEqProofs[l47_1,hlt,hlt',hx,hge,ca,hws,hw,hw2,hin,h1,h1',h2,h2',hc,h32,hSl,hg,hge2,hgb,hgb2,hel,hel2,hw6,c1]
 ·have hp:0<kk:=by omega
  simp -implicitDefEqProofs[l47_1,hlt,hlt',hx,hge,ca,hws,hw,hw2,hw5,hin,hp,h0,h1,h1',h2,h2',hc,h32,hSl,hg,hge2,hgb,hgb2,hel,hel2,hw6,c1,htk,hle,hk1,hk2,hk3,hk4,hk5,hk6,hk7]
end
end Go.Ab