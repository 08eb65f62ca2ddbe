/-
  A calculus of values, boxes and code, and what functions of the program compute, proved in it.
  Conditions: none beyond those that the theorems state. (Part 6.)
-/
import Derived.Test.YtfgfjicelfagcabGreatDoorPart5
import Derived.Test.YtfgfjicelfagcabGreatDoorProg
import Derived.KernelRfl
import Derived.Shelf.RegionOpenPlain
import Derived.Lib.Strings
import Derived.Lib.Slices
import Derived.Lib.Walk
import Derived.Lib.Builder
import Derived.Lib.AppendStr
import Derived.Lib.UnsafeStr
import Derived.Lib.MakeNoZero
import Derived.WalkKit
import Derived.Laws.Externs
import Derived.Laws.IdiomCopy
import Derived.Laws.BitsLemmas
import GoSem.Claims
import Derived.Deep.LoopGhost
import Derived.Shelf.Strings.Builder1
import Derived.Shelf.Strings.Builder2
import Derived.Shelf.Strings.OnBuilder
import Derived.ProofKit
import Derived.OpenShut
import Derived.Deep.DeepCutAuto
import Derived.Deep.DeepFit
import Derived.Deep.CutBlock
import Derived.Lib.OthersKept
import Derived.Test.YtfgfjicelfagcabGreatDoorRows
import Derived.Test.YtfgfjicelfagcabGreatDoorCards
import Derived.Test.YtfgfjicelfagcabGreatDoorTie
import Derived.LaidMore
import Derived.Stop.Joined
import Derived.SevenTiedAt
import Derived.Lib.LaidU8
import Derived.Lib.IndexAny
import Derived.Lib.Bytealg

set_option linter.unusedSectionVars false
set_option linter.unusedVariables false
set_option linter.unusedSimpArgs false
set_option linter.unnecessarySimpa false

section
namespace Go.Proofs.YtfgfjicelfagcabGreatDoor
open Go Go.Ab
set_option maxRecDepth 100000
def nus:List (Nat×Nat):=[(10,33),(13,34),(23,142),(25,115),(27,116),(34,120),(36,82),(37,114),(38,137),(40,139),(41,79),(44,98),(46,56),(55,112),(56,163),(57,164),(60,143),(62,162),(68,121),(70,113),(71,117),(72,80),(73,181),(74,77),(75,78),(76,89),(85,186),(86,99),(87,73),(88,187),(89,165),(90,147),(91,118),(93,184),(94,185),(101,148),(103,149),(106,145),(107,110),(108,111),(115,197),(116,198),(117,188),(118,166),(119,194),(120,195),(121,196),(125,167),(126,168),(127,169),(128,170),(129,144),(172,71),(177,95),(178,96),(179,97),(183,87),(185,132),(186,133),(187,134),(188,135),(198,182),(199,160),(200,161),(201,136),(202,100),(203,81),(204,138),(205,57),(207,74),(208,174),(209,140),(210,83),(211,59),(212,27),(213,103),(215,105),(216,106),(217,107),(218,108),(219,141),(220,104),(223,60),(247,43),(248,54),(251,86),(265,32),(274,62),(286,44),(287,55),(356,84),(380,20),(381,29),(383,25),(384,61),(389,31),(405,51),(406,52),(407,85),(409,65),(411,76),(420,58),(421,90),(422,119),(426,109),(430,127),(431,146),(433,152),(434,153),(435,154),(437,173),(438,175),(439,176),(441,223),(442,224),(443,225),(444,226),(445,227),(446,228),(447,229),(448,230),(466,6),(467,24),(468,8),(473,53),(477,22),(483,70),(484,75),(485,46),(486,47),(487,48),(488,49),(489,101),(490,102),(491,21),(492,72),(493,45),(644,30),(647,63),(648,64),(649,88),(650,125),(651,126),(676,5),(2071,117),(2092,183),(2106,145)]
def nu(u:Nat):FuncId:=(nus.lookup u).getD 0
def row1000001:AFx:=⟨165,0,meths1,.bad,none,false⟩
def RowOk(P:Program)(ν:Nat→FuncId)(τ:Nat→Nat)(u:Nat)(af:AFx):Prop:=
 match af.body.isPrim with
 | some f=>∀xs r,f xs=some r→Zat P (ν u) xs (·=r)
 | none=>if af.body.isBad=true then (∀m∈Zfw af,Zdd P af.np m.1=some (ν m.2))∧(af.res.isEmpty=true→af.np=ν af.nt) else Zcm P (ν u)=some (erF ν τ af)
theorem ok_pr{P:Program}{ν:Nat→FuncId}{τ:Nat→Nat}{u:Nat}{af:AFx}{f:List AV→Option AV}(h0:af.body.isPrim=some f)(h:∀xs r,f xs=some r→Zat P (ν u) xs (·=r)):RowOk P ν τ u af:=by unfold RowOk;rw[h0];exact h
theorem ok_fn{P:Program}{ν:Nat→FuncId}{τ:Nat→Nat}{u:Nat}{af:AFx}(h0:af.body.isPrim=none)(h1:af.body.isBad=false)(h:Zcm P (ν u)=some (erF ν τ af)):RowOk P ν τ u af:=by unfold RowOk;rw[h0];simp only[h1];exact h
theorem ok_ty{P:Program}{ν:Nat→FuncId}{τ:Nat→Nat}{u:Nat}{af:AFx}(h0:af.body.isPrim=none)(h1:af.body.isBad=true)(h:((Zfw af).all fun m=>Zdd P af.np m.1 == some (ν m.2))=true)(h2:(!af.res.isEmpty || af.np == ν af.nt)=true):RowOk P ν τ u af:=by unfold RowOk;rw[h0];simp only[h1,if_true];exact⟨fun m hm=>eq_of_beq (List.all_eq_true.1 h m hm),fun he=>by rw[he]at h2;exact eq_of_beq (by simpa using h2)⟩
theorem ok_cons{P:Program}{ν:Nat→FuncId}{τ:Nat→Nat}{u:Nat}{af:AFx}{l:List (Nat×AFx)}(h:RowOk P ν τ u af)(hl:∀p∈l,RowOk P ν τ p.1 p.2) :
  ∀p∈(u,af)::l,RowOk P ν τ p.1 p.2:=by
 intro p hp;rcases List.mem_cons.1 hp with rfl | hp
 ·exact h
 ·exact hl p hp
theorem ok_lookup{P:Program}{ν:Nat→FuncId}{l:List (Nat×AFx)}(hl:∀p∈l,RowOk P ν (Ze fun u=>l.lookup u) p.1 p.2):TOk P ν (fun u=>l.lookup u):=fun _ _ h=>hl _ (zdk h)
theorem sub_cons{l l2:List (Nat×AFx)}{u:Nat}{af:AFx}(h:l.lookup u=some af)(h2:∀p∈l2,l.lookup p.1=some p.2):∀p∈(u,af)::l2,l.lookup p.1=some p.2:=by
 intro p hp;rcases List.mem_cons.1 hp with rfl | hp
 ·exact h
 ·exact h2 p hp
def pT(i:Nat):List (Nat×AFx):=match i with
 | 0=>[(115,row115),(116,row116),(117,row117),(118,row118),(91,row91),(86,row86),(106,row106),(71,row71),(72,row72),(73,row73),(70,row70),(87,row87),(85,row85),(56,row56),(88,row88),(57,row57),(2106,row2106),(89,row89),(60,row60),(94,row94),(90,row90),(119,row119),(120,row120),(121,row121),(93,row93)]
 | 1=>[(2071,row2071),(2092,row2092),(62,row62),(129,row129),(76,row76),(74,row74),(44,row44),(108,row108),(107,row107),(75,row75),(46,row46),(483,row483),(493,row493),(491,row491),(492,row492),(10,row10),(13,row13),(485,row485),(486,row486),(487,row487),(488,row488),(477,row477),(185,row185),(186,row186),(177,row177)]
 | 2=>[(188,row188),(179,row179),(178,row178),(172,row172),(466,row466),(468,row468),(55,row55),(38,row38),(40,row40),(23,row23),(25,row25),(27,row27),(37,row37),(41,row41),(36,row36),(34,row34),(198,row198),(199,row199),(200,row200),(201,row201),(202,row202),(203,row203),(205,row205),(207,row207),(209,row209)]
 | 3=>[(210,row210),(211,row211),(212,row212),(213,row213),(215,row215),(216,row216),(217,row217),(218,row218),(204,row204),(208,row208),(219,row219),(220,row220),(223,row223),(356,row356),(247,row247),(286,row286),(248,row248),(287,row287),(421,row421),(430,row430),(433,row433),(434,row434),(435,row435),(437,row437),(438,row438)]
 | 4=>[(439,row439),(406,row406),(411,row411),(426,row426),(405,row405),(420,row420),(490,row490),(489,row489),(484,row484),(473,row473),(467,row467),(380,row380),(383,row383),(251,row251),(265,row265),(274,row274),(644,row644),(647,row647),(648,row648),(649,row649),(650,row650),(651,row651),(384,row384),(389,row389),(407,row407)]
 | 5=>[(409,row409),(422,row422),(431,row431),(441,row441),(442,row442),(443,row443),(444,row444),(445,row445),(446,row446),(447,row447),(448,row448),(381,row381),(676,row676)]
 | _=>[]
def Zn7:List (Nat×AFx):=[(68,row68),(187,row187),(183,row183),(1000001,row1000001)]
def lTab:List (Nat×AFx):=pT 0++pT 1++pT 2++pT 3++pT 4++pT 5++Zn7
def gTab:List (Nat×AFx):=lTab++[(92,row92),(101,row101),(103,row103),(125,row125)]
def tab:Tbl:=fun u=>gTab.lookup u
def tau_l:Nat→Nat:=Ze fun u=>lTab.lookup u
theorem resl_1000001:((Zfw row1000001).all fun m=>Zdd Tryz.prog row1000001.np m.1 == some (nu m.2))=true:=by kernel_rfl
def Zct(l:List (Nat×AFx)):Prop:=(l.map fun p=>Zcm Tryz.prog (nu p.1))=l.map fun p=>some (erF nu tau_l p.2)
theorem res_mem{l:List (Nat×AFx)}(h:Zct l)(h2:(l.all fun p=>p.2.body.isPrim.isNone&&!p.2.body.isBad)=true):∀p∈l,RowOk Tryz.prog nu tau_l p.1 p.2:=by
 intro p hp;have h3:=List.all_eq_true.1 h2 p hp;simp only[Bool.and_eq_true,Option.isNone_iff_eq_none,Bool.not_eq_true']at h3;exact ok_fn h3.1 h3.2 (List.map_inj_left.1 h p hp)
theorem ok_app{l r:List (Nat×AFx)}(h1:∀p∈l,RowOk Tryz.prog nu tau_l p.1 p.2)(h2:∀p∈r,RowOk Tryz.prog nu tau_l p.1 p.2):∀p∈l++r,RowOk Tryz.prog nu tau_l p.1 p.2:=fun p hp=>(List.mem_append.1 hp).elim (h1 p) (h2 p)
theorem res0:Zct (pT 0):=by unfold Zct;kernel_rfl
theorem res1:Zct (pT 1):=by unfold Zct;kernel_rfl
theorem res2:Zct (pT 2):=by unfold Zct;kernel_rfl
theorem res3:Zct (pT 3):=by unfold Zct;kernel_rfl
theorem res4:Zct (pT 4):=by unfold Zct;kernel_rfl
theorem res5:Zct (pT 5):=by unfold Zct;kernel_rfl
theorem lTab_ok(hp68:∀xs r,prim68 xs=some r→Zat Tryz.prog (nu 68) xs (·=r))(hp187:∀xs r,prim187 xs=some r→Zat Tryz.prog (nu 187) xs (·=r))(hp183:∀xs r,prim183 xs=some r→Zat Tryz.prog (nu 183) xs (·=r)):TOk Tryz.prog nu (fun u=>lTab.lookup u):=ok_lookup (ok_app (ok_app (ok_app (ok_app (ok_app (ok_app (res_mem res0 (by kernel_rfl)) (res_mem res1 (by kernel_rfl))) (res_mem res2 (by kernel_rfl))) (res_mem res3 (by kernel_rfl))) (res_mem res4 (by kernel_rfl))) (res_mem res5 (by kernel_rfl))) (ok_cons (ok_pr rfl hp68) (ok_cons (ok_pr rfl hp187) (ok_cons (ok_pr rfl hp183) (ok_cons (ok_ty rfl rfl resl_1000001 rfl) (fun p hp=>by cases hp))))))
def Zk8:List Nat→Bool
 | []=>true
 | a::l=>!l.contains a&&Zk8 l
theorem sub_app{l r:List (Nat×AFx)}(h:Zk8 (l.map (·.1))=true):∀p∈l,(l++r).lookup p.1=some p.2:=by
 induction l with
 | nil=>intro p hp;cases hp
 | cons a l ih=>
  intro p hp;obtain⟨k,v⟩:=a;simp only[List.map_cons,Zk8,Bool.and_eq_true,Bool.not_eq_true']at h;rcases List.mem_cons.1 hp with rfl | hq
  ·simp
  ·have hne:(p.1 == k)=false:=by
    cases hb:p.1 == k with
    | false=>rfl
    | true=>
     have:=eq_of_beq hb;subst this;have h5:(l.map (·.1)).contains p.1=true:=List.contains_iff_mem.2 (List.mem_map.2 ⟨p,hq,rfl⟩);rw[h5]at h;cases h.1
   rw[List.cons_append,List.lookup_cons,hne];exact ih h.2 p hq
theorem lTab_part:Part gTab lTab:=⟨sub_app (by kernel_rfl),by kernel_rfl⟩
def sTab:List (Nat×AFx):=[(118,row118),(86,row86),(106,row106),(71,row71),(70,row70),(90,row90),(101,row101),(103,row103),(125,row125)]
def tau_s:Nat→Nat:=Ze fun u=>sTab.lookup u
theorem ress_118:Zcm Tryz.prog (nu 118)=some (erF nu tau_s row118):=by kernel_rfl
theorem ress_86:Zcm Tryz.prog (nu 86)=some (erF nu tau_s row86):=by kernel_rfl
theorem ress_106:Zcm Tryz.prog (nu 106)=some (erF nu tau_s row106):=by kernel_rfl
theorem ress_71:Zcm Tryz.prog (nu 71)=some (erF nu tau_s row71):=by kernel_rfl
theorem ress_70:Zcm Tryz.prog (nu 70)=some (erF nu tau_s row70):=by kernel_rfl
theorem ress_90:Zcm Tryz.prog (nu 90)=some (erF nu tau_s row90):=by kernel_rfl
theorem ress_101:Zcm Tryz.prog (nu 101)=some (erF nu tau_s row101):=by kernel_rfl
theorem ress_103:Zcm Tryz.prog (nu 103)=some (erF nu tau_s row103):=by kernel_rfl
theorem ress_125:Zcm Tryz.prog (nu 125)=some (erF nu tau_s row125):=by kernel_rfl
theorem sTab_ok:TOk Tryz.prog nu (fun u=>sTab.lookup u):=ok_lookup (ok_cons (ok_fn rfl rfl ress_118) (ok_cons (ok_fn rfl rfl ress_86) (ok_cons (ok_fn rfl rfl ress_106) (ok_cons (ok_fn rfl rfl ress_71) (ok_cons (ok_fn rfl rfl ress_70) (ok_cons (ok_fn rfl rfl ress_90) (ok_cons (ok_fn rfl rfl ress_101) (ok_cons (ok_fn rfl rfl ress_103) (ok_cons (ok_fn rfl rfl ress_125) (fun p hp=>by cases hp))))))))))
theorem sTab_part:Part gTab sTab:=⟨sub_cons (by kernel_rfl) (sub_cons (by kernel_rfl) (sub_cons (by kernel_rfl) (sub_cons (by kernel_rfl) (sub_cons (by kernel_rfl) (sub_cons (by kernel_rfl) (sub_cons (by kernel_rfl) (sub_cons (by kernel_rfl) (sub_cons (by kernel_rfl) (fun p hp=>by cases hp))))))))),by kernel_rfl⟩
instance:Z5 tab:=⟨by kernel_rfl,by kernel_rfl,by kernel_rfl,by kernel_rfl,by kernel_rfl⟩
instance:Zo tab where
 h115:=by kernel_rfl
 h116:=by kernel_rfl
 h117:=by kernel_rfl
 h118:=by kernel_rfl
 h91:=by kernel_rfl
 h86:=by kernel_rfl
 h106:=by kernel_rfl
 h71:=by kernel_rfl
 h72:=by kernel_rfl
 h73:=by kernel_rfl
 h70:=by kernel_rfl
 h87:=by kernel_rfl
 h85:=by kernel_rfl
 h56:=by kernel_rfl
 h88:=by kernel_rfl
 h57:=by kernel_rfl
 h2106:=by kernel_rfl
instance:Zy tab where
 h115:=by kernel_rfl
 h116:=by kernel_rfl
 h117:=by kernel_rfl
 h118:=by kernel_rfl
 h91:=by kernel_rfl
 h86:=by kernel_rfl
 h106:=by kernel_rfl
 h71:=by kernel_rfl
 h72:=by kernel_rfl
 h73:=by kernel_rfl
 h70:=by kernel_rfl
 h87:=by kernel_rfl
 h85:=by kernel_rfl
 h56:=by kernel_rfl
 h88:=by kernel_rfl
 h57:=by kernel_rfl
 h2106:=by kernel_rfl
 h89:=by kernel_rfl
 h60:=by kernel_rfl
instance:Zz tab:=⟨by kernel_rfl,by kernel_rfl⟩
instance:Zq tab:=⟨by kernel_rfl,by kernel_rfl,by kernel_rfl,by kernel_rfl,by kernel_rfl⟩
instance:Zu tab:=⟨by kernel_rfl,by kernel_rfl,by kernel_rfl⟩
instance:Zb3 tab:=⟨by kernel_rfl⟩
instance:Zai tab:=⟨by kernel_rfl⟩
instance:Zia tab:=⟨by kernel_rfl,by kernel_rfl⟩
instance:Zb6 tab where
instance:Zb7 tab where
instance:Zbo tab where
instance:Zb8 tab where
instance:Zb5 tab:=⟨by kernel_rfl⟩
instance:Zaj tab:=⟨by kernel_rfl,by kernel_rfl,by kernel_rfl,by kernel_rfl,by kernel_rfl,by kernel_rfl,by kernel_rfl⟩
instance:Zbp tab:=⟨by kernel_rfl,by kernel_rfl,by kernel_rfl,by kernel_rfl⟩
instance:Ze4 tab:=⟨by kernel_rfl⟩
instance:Ze3 tab:=⟨by kernel_rfl⟩
instance:Zbi tab:=⟨by kernel_rfl,by kernel_rfl,by kernel_rfl,by kernel_rfl,by kernel_rfl⟩
instance:Zc2 tab:=⟨by kernel_rfl,by kernel_rfl,by kernel_rfl,by kernel_rfl,by kernel_rfl,by kernel_rfl,by kernel_rfl,by kernel_rfl⟩
instance:Zbz tab:=⟨by kernel_rfl⟩
instance:Zl5 tab where
instance:Ze5 tab:=⟨by kernel_rfl⟩
instance:Zgl tab:=⟨by kernel_rfl⟩
instance:Zj tab:=⟨by kernel_rfl,by kernel_rfl,by kernel_rfl,by kernel_rfl,by kernel_rfl,by kernel_rfl,by kernel_rfl,by kernel_rfl,by kernel_rfl,by kernel_rfl⟩
instance:Zn tab:=⟨by kernel_rfl,by kernel_rfl,by kernel_rfl,by kernel_rfl⟩
instance:Zs tab:=⟨by kernel_rfl,by kernel_rfl,by kernel_rfl,by kernel_rfl,by kernel_rfl,by kernel_rfl,by kernel_rfl,by kernel_rfl,by kernel_rfl,by kernel_rfl,by kernel_rfl,by kernel_rfl,by kernel_rfl⟩
instance:Za5 tab:=⟨by kernel_rfl⟩
instance:Z6 tab:=⟨by kernel_rfl,by kernel_rfl,by kernel_rfl⟩
instance:Zan tab:=⟨by kernel_rfl⟩
instance:Zcl tab:=⟨by kernel_rfl⟩
instance:Zc3 tab where
instance:Zdf tab where
instance:Zcg tab:=⟨by kernel_rfl⟩
instance:Zch tab:=⟨by kernel_rfl⟩
instance:Zds tab:=⟨by kernel_rfl⟩
instance:Zdt tab:=⟨by kernel_rfl⟩
instance:Zaa tab:=⟨by kernel_rfl,by kernel_rfl,by kernel_rfl,by kernel_rfl,by kernel_rfl,by kernel_rfl,by kernel_rfl,by kernel_rfl⟩
instance:Zaf tab:=⟨by kernel_rfl,by kernel_rfl,by kernel_rfl⟩
instance:Zbc tab:=⟨by kernel_rfl,by kernel_rfl⟩
instance:Z4 tab:=⟨by kernel_rfl,by kernel_rfl,by kernel_rfl,by kernel_rfl,by kernel_rfl⟩
instance:Zej tab:=⟨by kernel_rfl,by kernel_rfl⟩
instance:Zdu tab:=⟨by kernel_rfl,by kernel_rfl,by kernel_rfl⟩
instance:Zlp tab where
instance:Zav tab:=⟨by kernel_rfl,by kernel_rfl,by kernel_rfl,by kernel_rfl,by kernel_rfl,by kernel_rfl⟩
instance:Za2 tab:=⟨by kernel_rfl,by kernel_rfl,by kernel_rfl,by kernel_rfl,by kernel_rfl,by kernel_rfl,by kernel_rfl,by kernel_rfl,by kernel_rfl,by kernel_rfl,by kernel_rfl,by kernel_rfl,by kernel_rfl,by kernel_rfl⟩
instance:Zix tab where
 h1:=⟨165,by kernel_rfl⟩
instance:Zgm tab:=⟨by kernel_rfl⟩
instance:Zcv tab:=⟨by kernel_rfl⟩
end Go.Proofs.YtfgfjicelfagcabGreatDoor
end
section
namespace Go.Proofs
open Go.RowKit
theorem Tryz.sizeBuilder:(Tryz.prog.info? 204).map (·.size)=some 2:=by kernel_rfl
theorem Tryz.liesBuilder:liesAt Tryz.prog Tryz.prog.depth 204 (2/Tryz.prog.cellsOf 204) 0 204 1=true:=by kernel_rfl
theorem Tryz.infoByte:(Tryz.prog.info? 5).map (fun i=>(i.zero,i.size,i.bytes))=some (some (.int .u8 0),1,1):=by kernel_rfl
theorem Tryz.cellsByte:Tryz.prog.cellsOf 5=1:=by kernel_rfl
set_option maxHeartbeats 1000000 in
set_option maxRecDepth 100000 in
theorem Tryz.bString(B b:Nat)(l:List UInt8)(w:World)(h:Lib.IsBuilder 204 5 B b (Lib.byteCells l) w)(h0:l≠[]) :
  Calls Tryz.prog 124 #[.pointer (some ⟨b,0,none⟩)] w fun e w'=>e=.returned (.string ⟨l.toArray⟩)∧Below B w w':=by
 obtain⟨p,hB,v,hbk,hown,hne⟩:∃p,Lib.BuilderAt 204 5 B b p (Lib.byteCells l) w:=by
  rcases h with h | h
  ·exact⟨_,h⟩
  ·exact⟨_,h⟩
 have hl0:l.length≠0:=by simpa using h0
 rw[Lib.byteCells_length]at hown;obtain⟨g,cap,cur,rfl,hbg,hg,hnc,hcm,hcs,htake⟩:∃g cap cur,v=.slice (some ⟨g,0,none⟩) l.length cap∧B≤g∧w.heap[g]? = some (.cells cur 5 (0,0))∧l.length≤cap∧cap≤maxLen∧cur.size=cap*1∧cur.toList.take (l.length*1)=Lib.byteCells l:=by
  rcases hown.2 with ⟨_,hz⟩ | ⟨g,cap,cur,hv,r⟩
  ·exact absurd hz hl0
  ·exact⟨g,cap,cur,hv,r⟩
 have c1:w.drew.cell? ⟨b,1,none⟩=some (.slice (some ⟨g,0,none⟩) l.length cap):=by
  have:w.drew.heap[b]? = some (.cells #[p,.slice (some ⟨g,0,none⟩) l.length cap] 204 (0,0)):=hbk;rw[Lib.cell_of_heap this];rfl
 have hSD:(Builtin.unsafeSliceData_ #[202] 232 #[.slice (some ⟨g,0,none⟩) l.length cap]).run Tryz.prog w.drew=.ok (.pointer (some ⟨g,0,none⟩)) w.drew:=
  Lib.run_unsafeSliceData_row _ _ _ _ _ _ (by omega)
 have hUS:(Builtin.unsafeString_ #[232,3] 9 #[.pointer (some ⟨g,0,none⟩),.int .i64 l.length]).run Tryz.prog w.drew=.ok (.string ⟨l.toArray⟩) (w.drew.freeze ⟨g,0,none⟩ l.length):=by
  refine Lib.run_unsafeString_row w.drew 232 3 9 5 Tryz.underlying232 Tryz.cellsByte g cur.size (by have hg':w.drew.heap[g]? = some (.cells cur 5 (0,0)):=hg;simp[World.shape?,hg']) l h0 (by omega) (by unfold maxLen at hcm;omega) ?_;intro j x hx;have:=hown.cells (g:=g) rfl j (.int .u8 x.toNat) (by simp[Lib.byteCells,hx]);exact this
 go_enter Tryz.func124,Tryz.ntmps124
 go_wp2
 go_region
 all_goals (go_wp2;go_ret;exact⟨rfl,Lib.below_freeze (Below.drew (Below.refl B w)) (p:=⟨g,0,none⟩) hbg _⟩)
set_option maxHeartbeats 1000000 in
set_option maxRecDepth 100000 in
theorem Tryz.bCheck_used(b:Nat)(w:World)(h0:w.cell? ⟨b,0,none⟩=some (.pointer (some ⟨b,0,none⟩))) :
  Calls Tryz.prog 150 #[.pointer (some ⟨b,0,none⟩)] w fun e w'=>e=.returned (.tuple #[])∧w'=w:=by
 obtain⟨j,hj,_⟩:=Option.map_eq_some_iff.1 Tryz.sizeBuilder
 go_enter Tryz.func150,Tryz.ntmps150
 go_wp2
 rw[Lib.run_neq_ptr_same w _ Tryz.underlying201 hj]
 go_wp2
 go_end0
 exact⟨rfl,rfl⟩
set_option maxHeartbeats 1000000 in
set_option maxRecDepth 100000 in
theorem Tryz.bCheck_fresh(b:Nat)(w:World)(h0:w.cell? ⟨b,0,none⟩=some (.pointer none))(hsh:w.shape? b=some (204,2))(hfz:w.frozen? ⟨b,0,none⟩=false) :
  Calls Tryz.prog 150 #[.pointer (some ⟨b,0,none⟩)] w fun e w'=>e=.returned (.tuple #[])∧w'=w.setCell ⟨b,0,none⟩ (.pointer (some ⟨b,0,none⟩)):=by
 obtain⟨j,hj,hjs⟩:=Option.map_eq_some_iff.1 Tryz.sizeBuilder
 go_enter Tryz.func150,Tryz.ntmps150
 go_wp2
 rw[Lib.run_to_unsafe w ⟨b,0,none⟩ Tryz.underlying201 Tryz.underlying257 hj (by rw[hjs];decide) hsh (Nat.zero_lt_succ 1)];simp only[Result.andThen];rw[Oper.upon_value]
 go_wp2
 rw[run_callFunc_extern Tryz.func171 (by kernel_rfl) (by kernel_rfl) (by kernel_rfl) (e:=Extern.AbiNoEscape.same) (by kernel_rfl)];rw[Lib.run_noEscape];simp only[Result.andThen];rw[Oper.upon_value]
 go_wp2
 rw[Lib.run_from_unsafe w ⟨b,0,none⟩ Tryz.underlying257 Tryz.underlying201 hj hsh Tryz.liesBuilder];simp only[Result.andThen];rw[Oper.upon_value]
 go_wp2
 go_end0
 exact⟨rfl,rfl⟩
theorem Tryz.bCheck(B b:Nat)(bs:List Value)(w:World)(h:Lib.IsBuilder 204 5 B b bs w) :
  Calls Tryz.prog 150 #[.pointer (some ⟨b,0,none⟩)] w fun e w'=>e=.returned (.tuple #[])∧(Lib.BuilderAt 204 5 B b (.pointer (some ⟨b,0,none⟩)) bs w'∧Below B w w'):=by
 rcases h with h | h
 ·refine(Tryz.bCheck_fresh b w h.cell0 h.shape h.frozen0).mono ?_
  rintro e w' ⟨rfl,rfl⟩
  exact⟨rfl,h.used _,(Below.refl B w).setCell (p:=⟨b,0,none⟩) h.1 _⟩
 ·refine(Tryz.bCheck_used b w h.cell0).mono ?_
  rintro e w' ⟨rfl,rfl⟩
  exact⟨rfl,h,Below.refl B _⟩
set_option maxHeartbeats 2000000 in
set_option maxRecDepth 100000 in
theorem Tryz.bWrite(B b:Nat)(bs:List Value)(s:ByteArray)(w:World)(h:Lib.IsBuilder 204 5 B b bs w)(hlen:bs.length+s.size≤140737488355328)(hBw:B≤w.heap.size) :
  Calls Tryz.prog 123 #[.pointer (some ⟨b,0,none⟩),.string s] w fun e w'=>e=.returned (.tuple #[.int .i64 s.size,.nilIface])∧(Lib.BuilderAt 204 5 B b (.pointer (some ⟨b,0,none⟩)) (bs++Lib.strCells s) w'∧Below B w w'):=by
 obtain⟨i0,hi,hz0,hz1,hz2⟩:=info_parts Tryz.infoByte
 go_enter Tryz.func123,Tryz.ntmps123
 go_wp2_with (go_at_call 150;refine(Tryz.bCheck B b bs _ h).mono ?_)
 rintro e w1 ⟨rfl,h1,hb1⟩
 obtain⟨hB,v,hbk,hown,hne⟩:=h1;have c0:w1.cell? ⟨b,0,none⟩=some (.pointer (some ⟨b,0,none⟩)):=by rw[Lib.cell_of_heap hbk];rfl
 have c1:w1.cell? ⟨b,1,none⟩=some v:=by rw[Lib.cell_of_heap hbk];rfl
 go_wp2_with (at_builtin;refine Lib.wpList_append_own_string _ rfl _ _ 202 9 rfl B 5 i0 Tryz.underlying202 Tryz.underlying9 hi hz0 hz1 hz2 _ _ _ rfl hown s rfl ?c3 ?c4 ?c5 ?_)
 case c3=>unfold maxLen;omega
 case c4=>omega
 case c5=>have:=hb1.size;omega
 intro v' w2 hown' hgrow _;have hlt:b<w1.heap.size:=by
  rcases Nat.lt_or_ge b w1.heap.size with h' | h'
  ·exact h'
  ·simp[Array.getElem?_eq_none h']at hbk
 have hb2:w2.heap[b]? = some (.cells #[.pointer (some ⟨b,0,none⟩),v] 204 (0,0)):=by
  rw[hgrow.block b hlt (fun e=>hne e.symm)];exact hbk
 have d0:w2.cell? ⟨b,0,none⟩=some (.pointer (some ⟨b,0,none⟩)):=by rw[Lib.cell_of_heap hb2];rfl
 have d1:w2.cell? ⟨b,1,none⟩=some v:=by rw[Lib.cell_of_heap hb2];rfl
 have f1:w2.frozen? ⟨b,1,none⟩=false:=Lib.frozen_of_heap hb2 1;obtain⟨ao,n',cap,rfl⟩:∃ao n' cap,v'=.slice ao n' cap:=by
  rcases hown'.2 with ⟨hv,_⟩ | ⟨g,cap,cur,hv,_⟩
  ·exact⟨_,_,_,hv⟩
  ·exact⟨_,_,_,hv⟩
 go_wp2
 go_ret2
 refine⟨rfl,?_,?_⟩
 ·exact Lib.BuilderAt.put (T:=204) (e:=5) hB hb2 (bs':=bs++Lib.strCells s) (by simpa[Lib.strCells_length]using hown') (by decide)
 ·exact(hb1.grown hgrow (by have:=hb1.size;omega) (fun k hk=>(hown.lt k hk).1)).setCell (p:=⟨b,1,none⟩) hB _
end Go.Proofs
end
namespace Go.Ab
def pieces(n:Nat):List (List UInt8):=if h:n=0 then [] else Zdk 9 (n%1000000000)::pieces (n/1000000000)
termination_by n
decreasing_by exact Ycq (Yal h) (by decide)
theorem zcd:pieces 0=[]:=by unfold pieces;simp
theorem zcs{n:Nat}(h:n≠0):pieces n=Zdk 9 (n%1000000000)::pieces (n/1000000000):=by
 conv=>lhs;unfold pieces
 rw[dif_neg h]
def Zc8(l:List (List UInt8)):List (List AV):=l.map fun s=>[.s s]
@[simp] theorem z1u(l:List (List UInt8)):(Zc8 l).length=l.length:=by simp[Zc8]
@[simp] theorem z0s(l:List (List UInt8)):wkL (Zc8 l)=Zc8 l:=by
 induction l with
 | nil=>rfl
 | cons x l ih=>simpa[Zc8,wkL,wkR]using ih
theorem zx8(l:List (List UInt8))(s:List UInt8):Zc8 l++[[.s s]]=Zc8 (l++[s]):=by simp[Zc8]
def txL:AX:=
 (.note
 (.seq
 (.seq
  (.reg [⟨(some 11),none,.mov (.t 0)⟩,
   ⟨(some 12),none,.call 70 [(.t 11)]⟩,
   ⟨(some 13),none,.un .not (.t 12)⟩])
  (.cond (.t 13)
  .skip
  (.exit 0)))
 (.block 1
  (.seq
  (.reg [⟨(some 15),none,.mov (.t 0)⟩,
   ⟨(some 16),none,.call 90 [(.t 15),(.c (u32 1000000000))]⟩,
   ⟨(some 14),none,.mov (.t 16)⟩,
   ⟨(some 17),none,.ext (.t 14) 0⟩,
   ⟨(some 18),none,.ext (.t 14) 1⟩,
   ⟨(some 19),none,.ext (.t 14) 2⟩,
   ⟨(some 4),none,.mov (.t 17)⟩,
   ⟨(some 5),none,.mov (.t 18)⟩,
   ⟨(some 6),none,.mov (.t 19)⟩])
  (.seq
   (.reg [⟨(some 20),none,.mov (.t 3)⟩,
    ⟨(some 21),none,.mov (.t 5)⟩,
    ⟨(some 22),none,.call 101 [(.t 21)]⟩,
    ⟨(some 23),none,.bsl 1 [(.s [])] 1 [(0,(.t 22))]⟩,
    ⟨(some 24),none,.app 1 (.t 20) (.t 23)⟩,
    ⟨(some 3),none,.mov (.t 24)⟩])
   (.reg [⟨(some 25),none,.mov (.t 4)⟩,
    ⟨(some 0),none,.mov (.t 25)⟩])))))
 (.norm false [0,3]))
def tx0:AX:=(.reg [⟨(some 2),none,.mov (.c (.s []))⟩])
def txA:AX:=
  (.seq
  (.reg [⟨(some 9),none,.mov (.t 0)⟩,
   ⟨(some 10),none,.call 70 [(.t 9)]⟩])
  (.cond (.t 10)
   (.seq
   (.reg [⟨(some 2),none,.mov (.c (.s [48]))⟩])
   (.pre (.norm false [2]) .ret))
   .skip))
def tx3:AX:=(.note (.reg [⟨(some 3),none,.mov (.c (.sl [] .nl))⟩]) (.nil 3 1))
def txP:AX:=(.lp 0 (.norm false [0,3]) txL (.norm false [3]))
section
variable{T:Tbl}
theorem zaio(x:AV):evX (orc T) T 0 tx0 ⟨Zc1 [x],[],1⟩=some (.n,⟨[(2,.s []),(0,x)],[],1⟩):=by
 simp -implicitDefEqProofs[tx0]
end
section
variable{T:Tbl}[Zo T]
theorem zaaa(a:List UInt32)(hl:a.length≤1000)(h0:val a=0):evX (orc T) T 0 txA ⟨[(2,.s []),(0,.sl (Zb a) .an)],[],1⟩=some (.r,⟨[(2,.s [48])],[],2⟩):=by
 have hz:=zee (T:=T) a (by omega);simp -implicitDefEqProofs[txA,hz,h0]
end
section
variable{T:Tbl}[Zo T]
theorem zaab(a:List UInt32)(hl:a.length≤1000)(h0:val a≠0):evX (orc T) T 0 txA ⟨[(2,.s []),(0,.sl (Zb a) .an)],[],1⟩ =
  some (.n,⟨[(10,.b false),(9,.sl (Zb a) .an),(2,.s []),(0,.sl (Zb a) .an)],[],1⟩):=by
 have hz:=zee (T:=T) a (by omega);simp -implicitDefEqProofs[txA,hz,h0]
end
section
variable{T:Tbl}[Zo T][Zy T][Zz T][Zq T][Zb3 T]
def Zk7(a:List UInt32)(l:List (List UInt8)):St:=⟨[(0,.sl (Zb a) .an),(3,.bs (.loc 3) 1 1 0 l.length)],[((.loc 3),⟨1,.own,1,Zc8 l⟩)],3⟩
theorem ztn(l:List (List UInt8))(s:List UInt8):wkL (List.take l.length (Zc8 l)++[[AV.s s]])=Zc8 (l++[s]):=by
 rw[Yb (by simp),zx8,z0s]
end
section
variable{T:Tbl}[Zo T][Zq T][Zb3 T]
theorem z0t(N:Nat)(hN:N≤4294967295)(L:List (List UInt8)):∀y:List UInt32×List (List UInt8),(y.1.length≤1000∧y.2++pieces (val y.1)=L∧L.length=N) →
  Zp T 0 0 (Gh.norm false [3]) txL (Zk7 y.1 y.2)=some (.n,⟨[(3,.bs (.loc 3) 1 1 0 L.length)],[((.loc 3),⟨1,.own,1,Zc8 L⟩)],3⟩):=by
 refine zbm (fun y:List UInt32×List (List UInt8)=>Zk7 y.1 y.2) _ (fun y=>val y.1) _ ?_
 rintro⟨a,l⟩ ⟨ha,hL,hn⟩
 simp only at ha hL hn;have hz:=zee (T:=T) a (by omega);by_cases h0:val a=0
 ·right;rw[h0,zcd,Ya5]at hL;subst hL;constructor<;>simp -implicitDefEqProofs[txL,Zk7,hz,h0]
 ·left;have hq:=zm7 (T:=T) a 1000000000 (by omega) (by omega) (by omega);have hn9:=zot (T:=T) (val a%1000000000) (by omega);have hlen:(ofN (val a/1000000000)).length≤a.length:=Yc (zbb (Ydb _ _)) (zad a);rw[zcs h0]at hL;have hll:l.length≤4294967295:=by have:=congrArg List.length hL;simp at this;omega
  refine⟨(ofN (val a/1000000000),l++[Zdk 9 (val a%1000000000)]),⟨by simp only;omega,by simp only[zae,Y5,List.singleton_append];exact hL,hn⟩,?_,?_,rfl⟩
  ·simp only[zae];exact Ycq (Yal h0) (by decide)
  ·simp -implicitDefEqProofs[txL,Zk7,hz,hq,hn9,h0,hll,ztn]
end
section
variable{T:Tbl}[Zo T][Zy T][Zz T][Zq T][Zb3 T]
theorem zfu:∀k n,n<1000000000^k→(pieces n).length≤k
 | 0,n,h=>by
  have:n=0:=by omega
  subst this;simp[zcd]
 | k+1,n,h=>by
  by_cases h0:n=0
  ·subst h0;simp[zcd]
  ·rw[zcs h0];have:=zfu k (n/1000000000) (Ybc (by rw[Yam,←Yai];exact h));simp only[Yi];omega
theorem znx(a:List UInt32):(pieces (val a)).length≤2*a.length:=by
 refine zfu _ _ (Yl (za2 a) ?_);rw[Ycs];exact Ydf (by decide) _
theorem zpl:∀n,∀s∈pieces n,s.length=9:=by
 intro n
 induction n using Nat.strongRecOn with
 | _ n ih=>
  intro s hs;by_cases h0:n=0
  ·subst h0;simp[zcd]at hs
  ·rw[zcs h0]at hs;rcases Y6.1 hs with rfl | hs
   ·exact zeu 9 _
   ·exact ih _ (Ycq (Yal h0) (by decide)) s hs
theorem zj6:∀(k n:Nat),n≠0→n<10^k→(Zdk k n).dropWhile (· == 48)=Z8 n
 | 0,n,h0,h=>by omega
 | k+1,n,h0,h=>by
  rw[zd6];by_cases h1:n<10
  ·have e:n/10=0:=by omega
   have e2:n%10=n:=by omega
   have hz:∀j,(Zdk j 0).dropWhile (· == 48)=[]:=by
    intro j
    induction j with
    | zero=>rfl
    | succ j ih=>rw[zd6,Ycz,Nat.zero_div,ih];rfl
   rw[e,e2,Ycz,hz,zdp h1];have:∀d,d<10→d≠0→List.dropWhile (fun x=>x == 48) [UInt8.ofNat (48+d)]=[UInt8.ofNat (48+d)]:=by decide
   simpa using this n h1 h0
  ·have ih:=zj6 k (n/10) (by omega) (Ybc (by rw[Yam,←Yai];exact h));have hne:Z8 (n/10)≠[]:=by
    unfold Z8;by_cases h2:n/10<10
    ·rw[zj0 h2];simp
    ·rw[zq2 h2];simp
   rw[Ycz,ih,zie h1];rw[if_neg (by simpa using hne)]
theorem zre(j:Nat):∀(k n:Nat),Zdk (j+k) n=Zdk j (n/10^k)++Zdk k (n%10^k)
 | 0,n=>by simp[zif]
 | k+1,n=>by
  rw[←Yaq,zd6,zre j k (n/10),zd6,Y5];have e1:n/10/10^k=n/10^(k+1):=by rw[Yb7,Yai,Yam]
  have e2:n/10%10^k=n%10^(k+1)/10:=by rw[Yai,Yam,Nat.mod_mul_right_div_self]
  have e3:n%10^(k+1)%10=n%10:=by rw[Yai,Nat.mod_mul_left_mod]
  rw[e1,e2,e3]
theorem zpm:∀n,(pieces n).reverse.flatten=Zdk (9*(pieces n).length) n:=by
 intro n
 induction n using Nat.strongRecOn with
 | _ n ih=>
  by_cases h0:n=0
  ·subst h0;simp[zcd,zif]
  ·rw[zcs h0,Ydq,List.flatten_append,ih _ (Ycq (Yal h0) (by decide))];simp only[Yi,List.flatten_cons,List.flatten_nil,Ya5];rw[show 9*((pieces (n/1000000000)).length+1)=9*(pieces (n/1000000000)).length+9 by omega,zre]
theorem zx9:∀n,n<10^(9*(pieces n).length):=by
 intro n
 induction n using Nat.strongRecOn with
 | _ n ih=>
  by_cases h0:n=0
  ·subst h0;simp[zcd]
  ·have h:=ih _ (Ycq (Yal h0) (by decide:1<1000000000));rw[zcs h0,Yi,Yao,Yce];exact(Ya7 (by decide:0<10^(9*1))).1 h
theorem zpn(n:Nat)(h:n≠0):((pieces n).reverse.flatten).dropWhile (· == 48)=Z8 n:=by
 rw[zpm];exact zj6 _ n h (zx9 n)
theorem zc8:∀(l:List (List UInt8)),(∀s∈l,s.length=9)→l.flatten.length=9*l.length
 | [],_=>rfl
 | s::l,h=>by
  rw[List.flatten_cons,Yq,h s Yp,zc8 l fun s hs=>h s (Yj _ hs),Yi];omega
def Zlj(a:List UInt32):St:=⟨[(3,.bs (.loc 3) 1 1 0 0),(3,.sl [] .nl),(10,.b false),(9,.sl (Zb a) .an),(2,.s []),(0,.sl (Zb a) .an)],[(.loc 3,⟨1,.own,1,[]⟩)],2⟩
end
section
variable{T:Tbl}
theorem zaip(a:List UInt32):evX (orc T) T 0 tx3 ⟨[(10,.b false),(9,.sl (Zb a) .an),(2,.s []),(0,.sl (Zb a) .an)],[],1⟩=some (.n,Zlj a):=by
 simp -implicitDefEqProofs[tx3,Zlj]
end
section
variable{T:Tbl}[Zo T][Zq T][Zb3 T]
theorem zaiq(a:List UInt32)(hl:a.length≤1000):evX (orc T) T 0 txP (Zlj a) =
  some (.n,⟨[(3,.bs (.loc 3) 1 1 0 (pieces (val a)).length)],[((.loc 3),⟨1,.own,1,Zc8 (pieces (val a))⟩)],3⟩):=by
 have hp:=znx a;have h:=z0t (T:=T) (pieces (val a)).length (by omega) (pieces (val a)) (a,[]) ⟨by simpa using hl,rfl,rfl⟩;unfold Zk7 at h;simp[Zc8]at h;simp -implicitDefEqProofs[Zlj,txP,h,Zc8]
end
section
variable{T:Tbl}
theorem ztc(res:List UInt8):∀l:List UInt8,(l.length≤1000000∧l.dropWhile (· == 48)=res) →
  Zp T 0 0 (.norm false [0]) l125_0 ⟨[(0,.s l),(1,u8 48)],[],2⟩=some (.n,⟨[(0,.s res)],[],2⟩):=by
 refine zbm (fun l:List UInt8=>⟨[(0,.s l),(1,u8 48)],[],2⟩) _ (fun l=>l.length) _ ?_
 rintro l ⟨hl,hr⟩
 cases l with
 | nil=>
  right;simp at hr;subst hr;constructor<;>simp -implicitDefEqProofs[l125_0]
 | cons c r=>
  simp only[Yi]at hl;have h2:(0:Int)<(r.length:Int)+1:=by omega
  have h3:(1:Int)≤(r.length:Int)+1:=by omega
  by_cases hc:c=48
  ·left;subst hc;rw[List.dropWhile_cons_of_pos (by decide)]at hr;exact⟨r,⟨by omega,hr⟩,Yv _,by simp -implicitDefEqProofs[l125_0,h2,h3],rfl⟩
  ·right;rw[List.dropWhile_cons_of_neg (by simpa using hc)]at hr;subst hr;have hc':¬ c.toNat=48:=fun h=>hc (UInt8.toNat_inj.1 h);constructor<;>simp -implicitDefEqProofs[l125_0,h2,hc']
end
section
variable{T:Tbl}[Zia T]
theorem zxb(l:List UInt8)(hl:l.length≤1000000):Za T 103 [.s l,.s [48]]=some (.s (l.dropWhile (· == 48))):=by
 have h:=ztc (T:=T) _ l ⟨hl,rfl⟩;have h1:Za T 125 [.s l,u8 48]=some (.s (l.dropWhile (· == 48))):=by
  rw[zab Zia.h125 rfl,b125];simp -implicitDefEqProofs[h]
 obtain⟨Z,hZ⟩:∃Z,b103=(.seq
 (.reg [⟨(some 4),none,.mov (.c (.s []))⟩])
 (.seq
  (.seq
  (.reg [⟨(some 7),none,.mov (.t 0)⟩,
   ⟨(some 8),none,.bin .eql (.t 7) (.c (.s []))⟩,
   ⟨(some 9),none,.mov (.t 8)⟩,
   ⟨(some 10),(some (9,false)),.mov (.t 1)⟩,
   ⟨(some 11),(some (9,false)),.bin .eql (.t 10) (.c (.s []))⟩,
   ⟨(some 12),none,.pick (.t 9) (.c (.b true)) (.t 11)⟩])
  (.cond (.t 12)
   (.seq
   (.reg [⟨(some 13),none,.mov (.t 0)⟩,
    ⟨(some 4),none,.mov (.t 13)⟩])
   (.pre (.norm false [4]) .ret))
   .skip))
  (.seq
  (.seq
   (.reg [⟨(some 14),none,.mov (.t 1)⟩,
    ⟨(some 15),none,.lens (.t 14)⟩,
    ⟨(some 16),none,.bin .eql (.t 15) (.c (.i .i64 1))⟩,
    ⟨(some 17),none,.mov (.t 16)⟩,
    ⟨(some 18),(some (17,true)),.mov (.t 1)⟩,
    ⟨(some 19),(some (17,true)),.ixs (.t 18) (.c (.i .i64 0))⟩,
    ⟨(some 20),(some (17,true)),.bin .lss (.t 19) (.c (u8 128))⟩,
    ⟨(some 21),none,.pick (.t 17) (.t 20) (.c (.b false))⟩])
   (.cond (.t 21)
   (.seq
    (.reg [⟨(some 22),none,.mov (.t 0)⟩,
     ⟨(some 23),none,.mov (.t 1)⟩,
     ⟨(some 24),none,.ixs (.t 23) (.c (.i .i64 0))⟩,
     ⟨(some 25),none,.call 125 [(.t 22),(.t 24)]⟩,
     ⟨(some 4),none,.mov (.t 25)⟩])
    (.pre (.norm false [4]) .ret))
   .skip)) Z)):AX):=⟨_,rfl⟩
 rw[zab Zia.h103 rfl,hZ];by_cases h0:l=[]
 ·subst h0;simp -implicitDefEqProofs
 ·simp -implicitDefEqProofs[h0,h1]
end
section
variable{P:Program}{ν:Nat→FuncId}{T:Tbl}
theorem zvp(hT:TOk P ν T)(hm:P.follows .mixedOrders=true){cx:Cx}(hP:cx.P=P)(hk:cx.clk0=1)(c:AX){code:Code}{nt:Nat}(hnt:cx.nt=nt)(hres:Zm P nt code=some (er ν (Ze T) c)){st:St}{e:Ex}{st':St}
  (h:evX (orc T) T 0 c st=some (e,st')) {a:Act} {w:World} (hr:Rel cx st a w) {K:Exit→Act→World→Prop} (hK:∀a' w',Rel cx st' a' w'→K e.out a' w'):code.wp P K a w:=by
 obtain⟨L,h1,h2⟩:=zb9 T 0 c st _ _ h;obtain⟨n,hn⟩:=zop T h1;have hev:=za1 (GoodO.orcN hT hm n) (k:=0) (cx:=cx) hP hk c st e st' (h2 _ hn);subst hP hnt;refine wp_mono (hev code hres hm a w hr) ?_
 rintro ex a' w' ⟨s,⟨rfl,rfl⟩,hr'⟩
 exact hK a' w' hr'
theorem zvq{nt:Nat}{w:World}{S:Nat→Nat→Prop}{cargs:Array Value}{args:List AV}(hl:cargs.size=args.length)(hn:args.length≤nt)
  (hC:∀(j:Nat) (v:Value) (c:AV),cargs[j]? = some v→args[j]? = some c→CP w S v c) (hS:∀k o,S k o→k<w.heap.size) :
  Rel ⟨P,nt,w,S,fun _=>none,1⟩ ⟨Zc1 args,[],1⟩ { tmps:=cargs++Array.replicate (nt-cargs.size) undef,defers:=[] } w:=by
 refine⟨S,fun _=>none,by simp;omega,rfl,fun t=>?_,⟨⟨fun b bx hb=>(by simp at hb),fun g m hm=>(by cases hm),fun b bx b' bx' h1=>(by simp at h1),fun g g' k h1=>(by cases h1)⟩,
  Ext.refl _ _ _ _,⟨rfl,rfl,rfl,Yd _,fun _ _ _=>rfl⟩,fun k o hs=>.inl hs,hS,fun g k hm=>(by cases hm)⟩⟩
 rw[zi7];cases ha:args[t]? with
 | none=>exact .p (.dead _)
 | some x=>
  have htl:=zbw ha;have hv:cargs[t]? = some (cargs[t]'(by omega)):=Yu _;have e1:(cargs++Array.replicate (nt-cargs.size) undef).getD t undef=cargs[t]'(by omega):=by
   simp only[Yc9];rw[Ybu (by omega),hv]
   rfl
  rw[e1];exact .p (hC t _ x hv ha)
theorem Rel.below{nt:Nat}{w0:World}{S:Nat→Nat→Prop}{st:St}{a:Act}{w:World}(h:Rel ⟨P,nt,w0,S,fun _=>none,1⟩ st a w):RowKit.Below w0.heap.size w0 w:=by
 obtain⟨S',M',hr⟩:=h;exact⟨hr.wr.fr.os,hr.wr.fr.tape,hr.wr.fr.output,hr.wr.fr.size,fun k hk=>hr.wr.fr.block k hk fun⟨g,hg⟩=>(by cases hg)⟩
theorem Rel.strAt{cx:Cx}{st:St}{a:Act}{w:World}(h:Rel cx st a w){t:Nat}{l:List UInt8}(he:st.env.get t=.s l):a.tmps.getD t undef=.string ⟨l.toArray⟩:=by
 obtain⟨S',M',hr⟩:=h;have:=hr.env t;rw[he]at this;generalize a.tmps.getD t undef=v at *
 cases this with
 | p h=>cases h;rfl
theorem Rel.strs{cx:Cx}{st:St}{a:Act}{w:World}(h:Rel cx st a w){t:Nat}{b:BId}{g n:Nat}{ls:List (List UInt8)}(hne:ls≠[])(he:st.env.get t=.bs b g 1 0 n)
  (hb:st.heap.lookup b=some ⟨g,.own,1,ls.map fun s=>[.s s]⟩):∃k arr e cap,a.tmps.getD t undef=.slice (some ⟨k,0,none⟩) n cap∧w.heap[k]? = some (.cells arr e (0,0))∧n≤cap∧cap≤maxLen∧cap≤arr.size ∧
   ∀(i:Nat) (s:List UInt8),ls[i]? = some s→arr[i]? = some (Value.string ⟨s.toArray⟩):=by
 obtain⟨S',M',hr⟩:=h;have h1:=hr.env t;rw[he]at h1;obtain⟨_,_,m,hm,h2⟩:=hr.wr.heap.box b _ hb;simp only at hm h2;generalize a.tmps.getD t undef=v at *
 cases h1 with
 | p h=>cases h
 | bs _ _ _ _ _ _ hg hB h1=>
  unfold Zf2 at hB;rw[hm]at hB;cases m with
  | none=>exact absurd (by simpa using h2.1) hne
  | some k=>
   obtain⟨arr,e,cap,hk,hv,c1,c2,c3⟩:=hB;obtain⟨arr',e',hk',_,hcells,_⟩:=h2;rw[hk]at hk';cases hk';refine⟨k,arr,e,cap,by rw[hv],hk,c1,c2,by omega,fun i s hi=>?_⟩;obtain⟨u,hu,_,_,hc⟩:=hcells i [.s s] 0 (.s s) (by simp[hi]) rfl;have:=hc (by simp);rw[Yda,Yab]at hu;cases this;exact hu
end
end Go.Ab
section
namespace Go.Proofs.YtfgfjicelfagcabGreatDoor
open Go Go.Ab Go.RowKit
theorem list_cons{α:Type}{n:Nat}{l:List α}(h:l.length=n+1):∃x t,l=x::t∧t.length=n:=by
 cases l with
 | nil=>simp at h
 | cons x t=>exact⟨x,t,rfl,by simpa using h⟩
set_option maxHeartbeats 2000000 in
set_option maxRecDepth 100000 in
theorem text_calls(hm:Tryz.prog.follows .mixedOrders=true)(a:List UInt32)(hl:a.length≤1000){w0:World}{S:Nat→Nat→Prop}{cargs:Array Value}(hsz:cargs.size=1)
  (hC:∀(j:Nat) (v:Value) (c:AV),cargs[j]? = some v→[AV.sl (Zb a) .an][j]? = some c→CP w0 S v c) (hS:∀k o,S k o→k<w0.heap.size) :
  Calls Tryz.prog 121 cargs w0 fun e w'=>e=.returned (.string ⟨(Z8 (val a)).toArray⟩)∧Below w0.heap.size w0 w':=by
 refine calls_of_wp Tryz.func121 rfl ?_;have h0:=zvq (P:=Tryz.prog) (nt:=40) (w:=w0) (S:=S) (cargs:=cargs) (args:=[AV.sl (Zb a) .an]) (by simpa using hsz) (by simp) hC hS;refine wp_seq (zvp sTab_ok hm (cx:=⟨Tryz.prog,40,w0,S,fun _=>none,1⟩) rfl rfl tx0 (nt:=40) rfl (by kernel_rfl) (sTab_part.ev (by kernel_rfl) (zaio (T:=tab) _)) h0 fun a1 w1 h1=>?_);refine wp_seq ?_;by_cases hz:val a=0
 ·refine zvp sTab_ok hm (cx:=⟨Tryz.prog,40,w0,S,fun _=>none,1⟩) rfl rfl txA (nt:=40) rfl (by kernel_rfl) (sTab_part.ev (by kernel_rfl) (zaaa (T:=tab) a hl hz)) h1 fun a2 w2 h2=>?_;have hv:=h2.strAt (t:=2) (l:=[48]) rfl;have hb:=h2.below;have ht:Z8 (val a)=[48]:=by rw[hz];exact zdp (by decide)
  obtain⟨_,_,hr2⟩:=h2;refine(show bodyPost Tryz.prog Tryz.f121 (fun e w'=>e=.returned (.string ⟨(Z8 (val a)).toArray⟩)∧Below w0.heap.size w0 w') .ret a2 w2 from ?_);refine⟨hr2.defers,.string ⟨[48].toArray⟩,?_,by rw[ht],hb⟩;rw[←hv];exact results_tmp rfl _ _ _
 ·refine zvp sTab_ok hm (cx:=⟨Tryz.prog,40,w0,S,fun _=>none,1⟩) rfl rfl txA (nt:=40) rfl (by kernel_rfl) (sTab_part.ev (by kernel_rfl) (zaab (T:=tab) a hl hz)) h1 fun a2 w2 h2=>?_;refine wp_seq (zvp sTab_ok hm (cx:=⟨Tryz.prog,40,w0,S,fun _=>none,1⟩) rfl rfl tx3 (nt:=40) rfl (by kernel_rfl) (sTab_part.ev (by kernel_rfl) (zaip (T:=tab) a)) h2 fun a3 w3 h3=>?_);refine wp_seq (zvp sTab_ok hm (cx:=⟨Tryz.prog,40,w0,S,fun _=>none,1⟩) rfl rfl txP (nt:=40) rfl (by kernel_rfl) (sTab_part.ev (by kernel_rfl) (zaiq (T:=tab) a hl)) h3 fun a4 w4 h4=>?_);have hb4:=h4.below;have hne:pieces (val a)≠[]:=by rw[zcs hz];simp
  obtain⟨k,arr,e,cap,hv,hk,hc1,hc2,hc3,hcells⟩:=h4.strs (t:=3) (ls:=pieces (val a)) hne rfl (by simp[Zc8]);obtain⟨_,_,hr4⟩:=h4;have hdf:=hr4.defers;have hsz:=hr4.size;have hpl:=znx a;clear hr4 h0 h1 h2 h3
  change Code.wp _ _ _ a4 w4
  obtain⟨tm,df⟩:=a4;obtain⟨l,rfl⟩:∃l:List Value,tm=l.toArray:=⟨tm.toList,by simp⟩;simp only[List.size_toArray]at hsz;simp only at hdf;subst hdf;obtain⟨x0,l0,rfl,s0⟩:=list_cons hsz;obtain⟨x1,l1,rfl,s1⟩:=list_cons s0;obtain⟨x2,l2,rfl,s2⟩:=list_cons s1;obtain⟨x3,l3,rfl,s3⟩:=list_cons s2;obtain⟨x4,l4,rfl,s4⟩:=list_cons s3;obtain⟨x5,l5,rfl,s5⟩:=list_cons s4;obtain⟨x6,l6,rfl,s6⟩:=list_cons s5;obtain⟨x7,l7,rfl,s7⟩:=list_cons s6;obtain⟨x8,l8,rfl,s8⟩:=list_cons s7;obtain⟨x9,l9,rfl,s9⟩:=list_cons s8;obtain⟨x10,l10,rfl,s10⟩:=list_cons s9;obtain⟨x11,l11,rfl,s11⟩:=list_cons s10;obtain⟨x12,l12,rfl,s12⟩:=list_cons s11;obtain⟨x13,l13,rfl,s13⟩:=list_cons s12;obtain⟨x14,l14,rfl,s14⟩:=list_cons s13;obtain⟨x15,l15,rfl,s15⟩:=list_cons s14;obtain⟨x16,l16,rfl,s16⟩:=list_cons s15;obtain⟨x17,l17,rfl,s17⟩:=list_cons s16;obtain⟨x18,l18,rfl,s18⟩:=list_cons s17;obtain⟨x19,l19,rfl,s19⟩:=list_cons s18;obtain⟨x20,l20,rfl,s20⟩:=list_cons s19;obtain⟨x21,l21,rfl,s21⟩:=list_cons s20;obtain⟨x22,l22,rfl,s22⟩:=list_cons s21;obtain⟨x23,l23,rfl,s23⟩:=list_cons s22;obtain⟨x24,l24,rfl,s24⟩:=list_cons s23;obtain⟨x25,l25,rfl,s25⟩:=list_cons s24;obtain⟨x26,l26,rfl,s26⟩:=list_cons s25;obtain⟨x27,l27,rfl,s27⟩:=list_cons s26;obtain⟨x28,l28,rfl,s28⟩:=list_cons s27;obtain⟨x29,l29,rfl,s29⟩:=list_cons s28;obtain⟨x30,l30,rfl,s30⟩:=list_cons s29;obtain⟨x31,l31,rfl,s31⟩:=list_cons s30;obtain⟨x32,l32,rfl,s32⟩:=list_cons s31;obtain⟨x33,l33,rfl,s33⟩:=list_cons s32;obtain⟨x34,l34,rfl,s34⟩:=list_cons s33;obtain⟨x35,l35,rfl,s35⟩:=list_cons s34;obtain⟨x36,l36,rfl,s36⟩:=list_cons s35;obtain⟨x37,l37,rfl,s37⟩:=list_cons s36;obtain⟨x38,l38,rfl,s38⟩:=list_cons s37;obtain⟨x39,l39,rfl,s39⟩:=list_cons s38;cases Yah s39;have hx3:x3=.slice (some ⟨k,0,none⟩) (pieces (val a)).length cap:=hv;subst hx3;have hjoin:=zpn (val a) hz;have hall:=zpl (val a);generalize pieces (val a)=ps at *
  have HC:Aside (∀(i:Nat) (s:List UInt8),ps[i]? = some s→arr[i]? = some (Value.string ⟨s.toArray⟩)):=hcells;have HJ:Aside (List.dropWhile (fun x=>x == 48) ps.reverse.flatten=Z8 (val a)):=hjoin;have HN:Aside (∀s∈ps,s.length=9):=hall;have HB:Aside (Below w0.heap.size w0 w4):=hb4;have HK:Aside (w4.heap[k]? = some (.cells arr e (0,0))):=hk;have hk4:k<w4.heap.size:=by
   rcases Yt k w4.heap.size with h' | h'
   ·exact h'
   ·simp[Array.getElem?_eq_none h']at hk
  clear hcells hjoin hall hb4 hk
  go_wp2
  go_loopg [8] ps.length (fun g s8 wx=>s8=.int .i64 ((g:Int)-1)∧g≤ps.length∧Aside (Lib.IsBuilder 204 5 w4.heap.size w4.heap.size (Lib.byteCells (ps.drop g).reverse.flatten) wx∧Below w4.heap.size w4 wx))
  case atStart=>exact⟨rfl,Yd _,by rw[Y2];exact Lib.fresh_isBuilder 204 5 w4,(Below.refl _ _).alloc (Yd _) _⟩
  case round=>
   obtain⟨rfl,hg,HW⟩:=hrel;cases gk with
   | zero=>
    obtain⟨hBld,hBel⟩:=HW.out;rw[Ybp]at hBld;have hne':ps.reverse.flatten≠[]:=by
     intro h;have:=zc8 ps.reverse (fun s hs=>HN.out s (Yc5.1 hs));rw[h]at this;simp at this;exact hne (Yah (by omega))
    have HT:Aside (ps.reverse.flatten≠[]):=hne';clear hne';have hlenF:ps.reverse.flatten.length≤1000000:=by
     rw[zc8 ps.reverse (fun s hs=>HN.out s (Yc5.1 hs)),List.length_reverse];omega
    have hT:∀W:World,Calls Tryz.prog 149 #[.string ⟨ps.reverse.flatten.toArray⟩,.string ⟨#[48]⟩] W fun e w'=>e=.returned (.string ⟨(Z8 (val a)).toArray⟩)∧Below W.heap.size W w':=by
     intro W;have h1:=zhv sTab_ok hm (u:=103) rfl rfl (sTab_part.call (by kernel_rfl) (zxb (T:=tab) ps.reverse.flatten hlenF));rw[HJ.out]at h1;refine(h1.2 W (fun _ _=>False) #[.string ⟨ps.reverse.flatten.toArray⟩,.string ⟨#[48]⟩] rfl (fun j v c hv hc=>?_) (fun _ _ h=>h.elim)).mono ?_
     ·match j,hv,hc with
      | 0,hv,hc=>cases hv;cases hc;exact .s _
      | 1,hv,hc=>cases hv;cases hc;exact .s _
     ·rintro e w' ⟨v,r,rfl,rfl,hb,hc⟩
      cases hc;exact⟨rfl,hb⟩
    have HTT:=hT;clear hT
    go_wp2_with (go_at_call 124;refine(Tryz.bString w4.heap.size w4.heap.size ps.reverse.flatten wr hBld HT.out).mono ?_)
    rintro e1 w5 ⟨rfl,hb5⟩
    go_wp2_with (go_at_call 149;refine(HTT w5).mono ?_)
    rintro e2 w6 ⟨rfl,hb6⟩
    go_wp2
    go_ret
    refine⟨rfl,?_⟩;have hs1:=HB.out.size;have hs5:=(hBel.trans hb5).size;exact HB.out.trans (((hBel.trans hb5).mono hs1).trans (hb6.mono (by omega)))
   | succ j=>
    obtain⟨hBld,hBel⟩:=HW.out;obtain⟨s,hs⟩:∃s,ps[j]? = some s:=⟨_,Ya (by omega)⟩;have hcell:wr.cell? ⟨k,j,none⟩=some (.string ⟨s.toArray⟩):=by
     rw[hBel.cell (p:=⟨k,j,none⟩) hk4,Lib.cell_of_heap HK.out];exact HC.out j s hs
    have hs9:s.length=9:=HN.out s (Yg hs);have hflen:=zc8 (ps.drop (j+1)).reverse (fun s hs=>HN.out s (Yc6 (Yc5.1 hs)));have HS:Aside (ps[j]? = some s):=hs;clear hs;rw[List.length_reverse,Yc0]at hflen;have hbound:(Lib.byteCells (ps.drop (j+1)).reverse.flatten).length+(⟨s.toArray⟩:ByteArray).size≤140737488355328:=by
     rw[Lib.byteCells_length,hflen];show _+s.toArray.size≤_;simp only[List.size_toArray];omega
    have HF:Aside ((Lib.byteCells (ps.drop (j+1)).reverse.flatten).length+(⟨s.toArray⟩:ByteArray).size≤140737488355328):=hbound;clear hflen hbound
    go_wp2_with (go_at_call 123;refine(Tryz.bWrite w4.heap.size w4.heap.size _ ⟨s.toArray⟩ wr hBld HF.out hBel.size).mono ?_)
    rintro e1 w5 ⟨rfl,h5,hb5⟩
    go_wp2
    go_roundg j
    case measure=>omega
    case rel=>
     refine⟨by congr 1,by omega,?_,hBel.trans hb5⟩;have e1:(ps.drop j).reverse.flatten=(ps.drop (j+1)).reverse.flatten++s:=by
      obtain⟨hj,he⟩:=Ye.1 HS.out;rw[Ym hj,he];simp
     rw[e1,Lib.byteCells_append];exact .inr h5
theorem word_rows:∀(els:List (List AV)) (l:List UInt32),els.mapM Zf1=some l→els=Zb l
 | [],l,h=>by cases h;rfl
 | r::els,l,h=>by
  rw[Ybh]at h;obtain⟨x,hx,h1⟩:=bind_some h;obtain⟨y,hy,h2⟩:=bind_some h1;cases h2;rw[word_rows els y hy];unfold Zf1 at hx;split at hx
  ·split at hx
   ·cases hx;rename_i n hn;have:(w32 n.toNat).toNat=n.toNat:=zag (by omega);simp only[Zb,Y3,this,u32];rw[Int.toNat_of_nonneg hn.1]
   ·cases hx
  ·cases hx
theorem text_ok(hm:Tryz.prog.follows .mixedOrders=true):∀xs r,prim68 xs=some r→Zat Tryz.prog (nu 68) xs (·=r):=by
 intro xs r h;unfold prim68 at h;split at h
 ·split at h
  ·rename_i els hl;cases hw:els.mapM Zf1 with
   | none=>rw[hw]at h;cases h
   | some l=>
    rw[hw]at h;cases h;have he:=word_rows els l hw;subst he;rw[zhw]at hl;refine⟨enters_of Tryz.func121 (by kernel_rfl) rfl,fun w S cargs hsz hC hS=>?_⟩;refine(text_calls hm l hl (by simpa using hsz) hC hS).mono ?_
    rintro e w' ⟨rfl,hb⟩
    exact⟨_,_,rfl,rfl,hb,.s _⟩
  ·cases h
 ·cases h
#print axioms text_ok
end Go.Proofs.YtfgfjicelfagcabGreatDoor
end
section
set_option linter.unusedVariables false
namespace Go.Proofs
open Go.Shelf Go.RowKit
variable{P:Program}{ρ:Ren}
structure JL (P:Program) (ρ:Ren):Prop extends Lays.n169 P ρ,Lays.n241 P ρ,Builder.Extra P ρ where
 f156:P.funcs[ρ.f 156]? = some (Body.n156 ρ)
 f165:P.funcs[ρ.f 165]? = some (Body.n165 ρ)
 f166:P.funcs[ρ.f 166]? = some (Body.n166 ρ)
 t4:P.underlying (ρ.t 4)=some (TypeDesc.bool)
 a4:∀w,(isAgg (ρ.t 4)).run P w=.ok false w
 z4:∀w,(Go.sizeOf (ρ.t 4)).run P w=.ok 1 w
 v4:∀w,(zeroValue (ρ.t 4)).run P w=.ok (Value.bool false) w
 t20:P.underlying (ρ.t 20)=some (TypeDesc.interface #[])
 a20:∀w,(isAgg (ρ.t 20)).run P w=.ok false w
 z20:∀w,(Go.sizeOf (ρ.t 20)).run P w=.ok 1 w
 v20:∀w,(zeroValue (ρ.t 20)).run P w=.ok (Value.nilIface) w
 t31:P.underlying (ρ.t 31)=some (TypeDesc.slice (ρ.t 9))
 a31:∀w,(isAgg (ρ.t 31)).run P w=.ok false w
 z31:∀w,(Go.sizeOf (ρ.t 31)).run P w=.ok 1 w
 v31:∀w,(zeroValue (ρ.t 31)).run P w=.ok (Value.slice none 0 0) w
 t75:P.underlying (ρ.t 75)=some (TypeDesc.interface #[("Error",ρ.t 80)])
 a75:∀w,(isAgg (ρ.t 75)).run P w=.ok false w
 z75:∀w,(Go.sizeOf (ρ.t 75)).run P w=.ok 1 w
 v75:∀w,(zeroValue (ρ.t 75)).run P w=.ok (Value.nilIface) w
 t76:P.underlying (ρ.t 76)=some (TypeDesc.tuple #[ρ.t 3,ρ.t 75])
 a76:∀w,(isAgg (ρ.t 76)).run P w=.ok false w
 z76:∀w,(Go.sizeOf (ρ.t 76)).run P w=.ok 1 w
 v76:∀w,(zeroValue (ρ.t 76)).run P w=.ok (Value.tuple #[Value.int IntKind.i64 0,Value.nilIface]) w
 t164:P.underlying (ρ.t 164)=some (TypeDesc.unsafePointer)
 a164:∀w,(isAgg (ρ.t 164)).run P w=.ok false w
 z164:∀w,(Go.sizeOf (ρ.t 164)).run P w=.ok 1 w
 v164:∀w,(zeroValue (ρ.t 164)).run P w=.ok (Value.pointer none) w
 e240:∀args w,(callFunc (ρ.f 240) args).run P w=.ok (.enter (ρ.f 240) args) w
 c240:∀(B b:Nat) (bs:List Value) (w:World),Lib.IsBuilder (ρ.t 72) (ρ.t 5) B b bs w →
  Calls P (ρ.f 240) #[.pointer (some ⟨b,0,none⟩)] w fun e w'=>e=.returned (.tuple #[])∧(Lib.BuilderAt (ρ.t 72) (ρ.t 5) B b (.pointer (some ⟨b,0,none⟩)) bs w'∧Below B w w')
 c240f:∀(b:Nat) (w:World),w.cell? ⟨b,0,none⟩=some (.pointer none)→w.shape? b=some ((ρ.t 72),2)→w.frozen? ⟨b,0,none⟩=false →
  Calls P (ρ.f 240) #[.pointer (some ⟨b,0,none⟩)] w fun e w'=>e=.returned (.tuple #[])∧w'=w.setCell ⟨b,0,none⟩ (.pointer (some ⟨b,0,none⟩))
theorem Jl.hid{p:Prop}(h:p):Hid p:=h
set_option maxHeartbeats 2000000 in
set_option maxRecDepth 100000 in
theorem Jl.Builder_WriteString(L:JL P ρ)(B b:Nat)(bs:List Value)(s:ByteArray)(w:World)(h:Lib.IsBuilder (ρ.t 72) (ρ.t 5) B b bs w)(hlen:bs.length+s.size≤140737488355328)(hBw:B≤w.heap.size) :
  Calls P (ρ.f 166) #[.pointer (some ⟨b,0,none⟩),.string s] w fun e w'=>e=.returned (.tuple #[.int .i64 s.size,.nilIface])∧(Lib.BuilderAt (ρ.t 72) (ρ.t 5) B b (.pointer (some ⟨b,0,none⟩)) (bs++Lib.strCells s) w'∧Below B w w'):=by
 obtain⟨i0,hi,hz0,hz1,hz2⟩:=info_parts L.infoByte;have mixed:=L.mixed;have t72:=L.t72;have a72:=L.a72;have z72:=L.z72;have v72:=L.v72;have u72:=run_underlying L.t72;have t70:=L.t70;have a70:=L.a70;have z70:=L.z70;have v70:=L.v70;have u70:=run_underlying L.t70;have t37:=L.t37;have a37:=L.a37;have z37:=L.z37;have v37:=L.v37;have u37:=run_underlying L.t37;have t3:=L.t3;have a3:=L.a3;have z3:=L.z3;have v3:=L.v3;have u3:=run_underlying L.t3;have t9:=L.t9;have a9:=L.a9;have z9:=L.z9;have v9:=L.v9;have u9:=run_underlying L.t9;have t4:=L.t4;have a4:=L.a4;have z4:=L.z4;have v4:=L.v4;have u4:=run_underlying L.t4;have t164:=L.t164;have a164:=L.a164;have z164:=L.z164;have v164:=L.v164;have u164:=run_underlying L.t164;have t5:=L.t5;have a5:=L.a5;have z5:=L.z5;have v5:=L.v5;have u5:=run_underlying L.t5;have e240:∀args w,(callFunc (ρ.f 240) args).run P w=.ok (.enter (ρ.f 240) args) w:=L.e240
 go_enter L.f166,Body.n166_ntmps ρ
 go_wp2_with (go_at_fn (ρ.f 240);refine(L.c240 B b bs _ h).mono ?_)
 rintro e w1 ⟨rfl,h1,hb1⟩
 obtain⟨hB,v,hbk,hown,hne⟩:=h1;have c0:w1.cell? ⟨b,0,none⟩=some (.pointer (some ⟨b,0,none⟩)):=by rw[Lib.cell_of_heap hbk];rfl
 have c1:w1.cell? ⟨b,1,none⟩=some v:=by rw[Lib.cell_of_heap hbk];rfl
 go_wp2_with (at_builtin;refine Lib.wpList_append_own_string _ rfl _ _ (ρ.t 37) (ρ.t 9) rfl B (ρ.t 5) i0 L.t37 L.t9 hi hz0 hz1 hz2 _ _ _ rfl hown s rfl ?c3 ?c4 ?c5 ?_)
 case c3=>unfold maxLen;omega
 case c4=>omega
 case c5=>have:=hb1.size;omega
 intro v' w2 hown' hgrow _;have hlt:b<w1.heap.size:=by
  rcases Nat.lt_or_ge b w1.heap.size with h' | h'
  ·exact h'
  ·simp[Array.getElem?_eq_none h']at hbk
 have hb2:w2.heap[b]? = some (.cells #[.pointer (some ⟨b,0,none⟩),v] (ρ.t 72) (0,0)):=by
  rw[hgrow.block b hlt (fun e=>hne e.symm)];exact hbk
 have d0:w2.cell? ⟨b,0,none⟩=some (.pointer (some ⟨b,0,none⟩)):=by rw[Lib.cell_of_heap hb2];rfl
 have d1:w2.cell? ⟨b,1,none⟩=some v:=by rw[Lib.cell_of_heap hb2];rfl
 have f1:w2.frozen? ⟨b,1,none⟩=false:=Lib.frozen_of_heap hb2 1;obtain⟨ao,n',cap,rfl⟩:∃ao n' cap,v'=.slice ao n' cap:=by
  rcases hown'.2 with ⟨hv,_⟩ | ⟨g,cap,cur,hv,_⟩
  ·exact⟨_,_,_,hv⟩
  ·exact⟨_,_,_,hv⟩
 go_wp2
 go_ret2
 refine⟨rfl,?_,?_⟩
 ·exact Lib.BuilderAt.put (T:=(ρ.t 72)) (e:=(ρ.t 5)) hB hb2 (bs':=bs++Lib.strCells s) (by simpa[Lib.strCells_length]using hown') L.neB5
 ·exact(hb1.grown hgrow (by have:=hb1.size;omega) (fun k hk=>(hown.lt k hk).1)).setCell (p:=⟨b,1,none⟩) hB _
set_option maxHeartbeats 2000000 in
set_option maxRecDepth 1000000 in
theorem Jl.Builder_Grow_fresh(L:JL P ρ)(B b n:Nat)(w:World)(hB:B≤b)(hbk:w.heap[b]? = some (.cells #[.pointer none,.slice none 0 0] (ρ.t 72) (0,0)))(hBw:B≤w.heap.size)(hn:n≤281474976710656) :
  Calls P (ρ.f 165) #[.pointer (some ⟨b,0,none⟩),.int .i64 n] w fun e w'=>e=.returned (.tuple #[])∧(Lib.BuilderAt (ρ.t 72) (ρ.t 5) B b (.pointer (some ⟨b,0,none⟩)) [] w'∧Below B w w'):=by
 have hbk1:(w.setCell ⟨b,0,none⟩ (.pointer (some ⟨b,0,none⟩))).heap[b]? = some (.cells #[.pointer (some ⟨b,0,none⟩),.slice none 0 0] (ρ.t 72) (0,0)):=by
  simp[World.setCell,Array.getElem?_modify,hbk]
 have c1:(w.setCell ⟨b,0,none⟩ (.pointer (some ⟨b,0,none⟩))).cell? ⟨b,1,none⟩=some (.slice none 0 0):=by rw[Lib.cell_of_heap hbk1];rfl
 have hb1:Below B w (w.setCell ⟨b,0,none⟩ (.pointer (some ⟨b,0,none⟩))):=(Below.refl B w).setCell (p:=⟨b,0,none⟩) hB _;have mixed:=L.mixed;have t72:=L.t72;have a72:=L.a72;have z72:=L.z72;have v72:=L.v72;have u72:=run_underlying L.t72;have t70:=L.t70;have a70:=L.a70;have z70:=L.z70;have v70:=L.v70;have u70:=run_underlying L.t70;have t37:=L.t37;have a37:=L.a37;have z37:=L.z37;have v37:=L.v37;have u37:=run_underlying L.t37;have t3:=L.t3;have a3:=L.a3;have z3:=L.z3;have v3:=L.v3;have u3:=run_underlying L.t3;have t9:=L.t9;have a9:=L.a9;have z9:=L.z9;have v9:=L.v9;have u9:=run_underlying L.t9;have t4:=L.t4;have a4:=L.a4;have z4:=L.z4;have v4:=L.v4;have u4:=run_underlying L.t4;have t164:=L.t164;have a164:=L.a164;have z164:=L.z164;have v164:=L.v164;have u164:=run_underlying L.t164;have t5:=L.t5;have a5:=L.a5;have z5:=L.z5;have v5:=L.v5;have u5:=run_underlying L.t5;have e240:∀args w,(callFunc (ρ.f 240) args).run P w=.ok (.enter (ρ.f 240) args) w:=L.e240;have e241:∀args w,(callFunc (ρ.f 241) args).run P w=.ok (.enter (ρ.f 241) args) w:=enters_of L.f241 (by kernel_rfl) rfl
 go_enter L.f165,Body.n165_ntmps ρ
 have hU:Lib.BuilderAt (ρ.t 72) (ρ.t 5) B b (.pointer (some ⟨b,0,none⟩)) [] (w.setCell ⟨b,0,none⟩ (.pointer (some ⟨b,0,none⟩))):=⟨hB,.slice none 0 0,hbk1,World.ownsRow_nil _ _ _ _,by simp[Value.ownBlock]⟩;have c1':(w.setCell ⟨b,0,none⟩ (.pointer (some ⟨b,0,none⟩))).drew.cell? ⟨b,1,none⟩=some (.slice none 0 0):=c1
 go_wp2_with (go_at_fn (ρ.f 240);refine(L.c240f b w (by rw[Lib.cell_of_heap hbk];rfl) (by simp[World.shape?,hbk]) (Lib.frozen_of_heap hbk 0)).mono ?_;rintro e w' ⟨rfl,rfl⟩)
 go_region_o
 all_goals go_wp2_with (go_at_fn (ρ.f 241);refine(Any.Builder_grow_fresh L.ton241 L.toExtra B b n (w.setCell ⟨b,0,none⟩ (.pointer (some ⟨b,0,none⟩))).drew hB hbk1 (by simpa[World.setCell,World.drew,-World.drew_eq]using hBw) hn).mono ?_;rintro e w' ⟨rfl,h1,h2⟩)
 all_goals first
  | (go_end0;exact⟨rfl,h1,hb1.drew.trans h2⟩)
  | (go_end0;exact⟨rfl,hU.drew,hb1.drew⟩)
theorem Jl.strings_Join_none(L:JL P ρ)(a:Option Addr)(c:Nat)(sep:ByteArray)(w:World) :
  Calls P (ρ.f 156) #[.slice a 0 c,.string sep] w fun e w'=>e=.returned (.string ⟨#[]⟩)∧w'=w:=by
 have u72:=run_underlying L.t72;have u70:=run_underlying L.t70;have u37:=run_underlying L.t37;have u127:=run_underlying L.t127;have u3:=run_underlying L.t3;have u9:=run_underlying L.t9;have u4:=run_underlying L.t4;have u164:=run_underlying L.t164;have t31:=L.t31;have u31:=run_underlying L.t31;have u5:=run_underlying L.t5
 go_enter L.f156,Body.n156_ntmps ρ
 go_wp2
 go_ret
 simp_all
theorem Jl.strings_Join_one(L:JL P ρ)(bk o c:Nat)(x sep:ByteArray)(w:World)(hc:w.cell? ⟨bk,o,none⟩=some (.string x)) :
  Calls P (ρ.f 156) #[.slice (some ⟨bk,o,none⟩) 1 c,.string sep] w fun e w'=>e=.returned (.string x)∧w'=w:=by
 have u72:=run_underlying L.t72;have u70:=run_underlying L.t70;have u37:=run_underlying L.t37;have u127:=run_underlying L.t127;have u3:=run_underlying L.t3;have a9:=L.a9;have z9:=L.z9;have u9:=run_underlying L.t9;have u4:=run_underlying L.t4;have u164:=run_underlying L.t164;have t31:=L.t31;have u31:=run_underlying L.t31;have u5:=run_underlying L.t5
 go_enter L.f156,Body.n156_ntmps ρ
 go_wp2
 go_ret
 simp_all
set_option maxHeartbeats 4000000 in
set_option maxRecDepth 100000 in
theorem Jl.strings_Join_many(L:JL P ρ)(bk o c:Nat)(xs:List ByteArray)(sep:ByteArray)(w:World)
  (hcells:∀(j:Nat) x,xs[j]? = some x→w.cell? ⟨bk,o+j,none⟩=some (.string x))
  (hbk:bk<w.heap.size) (h2:2≤xs.length) (hN:xs.length≤140737488355328) (hcap:xs.length≤c)
  (hlen:(Lib.join (xs.map (·.data.toList)) sep.data.toList).length≤140737488355328) :
  Calls P (ρ.f 156) #[.slice (some ⟨bk,o,none⟩) xs.length c,.string sep] w fun e w'=>e=.returned (.string ⟨(Lib.join (xs.map (·.data.toList)) sep.data.toList).toArray⟩)∧Below w.heap.size w w':=by
 have HC:=Jl.hid hcells;clear hcells
 -- the lengths
 obtain⟨x0,r,hxs⟩:∃x0 r,xs=x0::r:=by
  cases xs with
  | nil=>simp at h2
  | cons a t=>exact⟨a,t,rfl⟩
 have hjl:sep.size*(xs.length-1)+Lib.lens (xs.map (·.data.toList))≤140737488355328:=by
  have:=Lib.join_length x0.data.toList (r.map (·.data.toList)) sep.data.toList;rw[hxs]at hlen ⊢;simp only[List.map_cons]at hlen ⊢;rw[this,List.length_map]at hlen;rw[Lib.size_eq,List.length_cons,Nat.add_sub_cancel];exact hlen
 have hmul:sep.size*(xs.length-1)≤140737488355328:=by omega
 generalize hM:sep.size*(xs.length-1)=M at hjl hmul;have hcast:((xs.length:Int)-1)=((xs.length-1:Nat):Int):=by omega
 have hlt:sep.size<9223372036854775807/(xs.length-1):=by
  have:sep.size+1≤9223372036854775807/(xs.length-1):=by
   rw[Nat.le_div_iff_mul_le (by omega),Nat.add_mul,hM];omega
  omega
 have hdv:¬ (9223372036854775807/((xs.length:Int)-1)≤(sep.size:Int)):=by
  have e:(9223372036854775807:Int)/((xs.length-1:Nat):Int)=((9223372036854775807/(xs.length-1):Nat):Int):=IntWalk.up_div (x:=9223372036854775807) rfl rfl;rw[hcast,e];generalize 9223372036854775807/(xs.length-1)=q at hlt;omega
 have hprod:wrap64 ((sep.size:Int)*((xs.length:Int)-1))=(M:Int):=by
  have e:(sep.size:Int)*((xs.length-1:Nat):Int)=((sep.size*(xs.length-1):Nat):Int):=IntWalk.up_mul rfl rfl;rw[hcast,e,hM];exact IntWalk.wrap64_in _ ⟨by omega,by omega⟩
 have hM0:sep.size=0→M=0:=fun h=>by rw[←hM,h,Nat.zero_mul]
 clear hlt hcast;have hne0:((xs.length:Int) == 0)=false:=beq_eq_false_iff_ne.2 (by omega);have hne1:((xs.length:Int) == 1)=false:=beq_eq_false_iff_ne.2 (by omega);have Hxs:=Jl.hid hxs;have Hlen:=Jl.hid hlen;clear hxs hlen;have mixed:=L.mixed;have t72:=L.t72;have a72:=L.a72;have z72:=L.z72;have v72:=L.v72;have u72:=run_underlying L.t72;have t70:=L.t70;have a70:=L.a70;have z70:=L.z70;have v70:=L.v70;have u70:=run_underlying L.t70;have t37:=L.t37;have a37:=L.a37;have z37:=L.z37;have v37:=L.v37;have u37:=run_underlying L.t37;have t127:=L.t127;have a127:=L.a127;have z127:=L.z127;have v127:=L.v127;have u127:=run_underlying L.t127;have t3:=L.t3;have a3:=L.a3;have z3:=L.z3;have v3:=L.v3;have u3:=run_underlying L.t3;have t9:=L.t9;have a9:=L.a9;have z9:=L.z9;have v9:=L.v9;have u9:=run_underlying L.t9;have t4:=L.t4;have a4:=L.a4;have z4:=L.z4;have v4:=L.v4;have u4:=run_underlying L.t4;have t164:=L.t164;have a164:=L.a164;have z164:=L.z164;have v164:=L.v164;have u164:=run_underlying L.t164;have t31:=L.t31;have a31:=L.a31;have z31:=L.z31;have v31:=L.v31;have u31:=run_underlying L.t31;have t5:=L.t5;have a5:=L.a5;have z5:=L.z5;have v5:=L.v5;have u5:=run_underlying L.t5;have e240:∀args w,(callFunc (ρ.f 240) args).run P w=.ok (.enter (ρ.f 240) args) w:=L.e240;have e241:∀args w,(callFunc (ρ.f 241) args).run P w=.ok (.enter (ρ.f 241) args) w:=enters_of L.f241 (by kernel_rfl) rfl;have e165:∀args w,(callFunc (ρ.f 165) args).run P w=.ok (.enter (ρ.f 165) args) w:=enters_of L.f165 (by kernel_rfl) rfl;have e166:∀args w,(callFunc (ρ.f 166) args).run P w=.ok (.enter (ρ.f 166) args) w:=enters_of L.f166 (by kernel_rfl) rfl;have e169:∀args w,(callFunc (ρ.f 169) args).run P w=.ok (.enter (ρ.f 169) args) w:=enters_of L.f169 (by kernel_rfl) rfl
 go_enter L.f156,Body.n156_ntmps ρ
 go_wp2_with fail
 all_goals (
  go_loop [5,41] (fun n i=>∃k:Nat,k≤xs.length∧i=.int .i64 k∧n=.int .i64 ((M+Lib.lens ((xs.map (·.data.toList)).take k):Nat):Int)) (fun _ i=>xs.length-(intOf i).toNat)
  case atStart=>exact⟨0,Nat.zero_le _,rfl,by first | (simp[Lib.lens];done) | (have:=hM0 (by omega);simp[Lib.lens,this])⟩
  case round=>
   obtain⟨k,hk,rfl,rfl⟩:=hrel;by_cases hkn:k<xs.length
   ·obtain⟨x,hx⟩:∃x,xs[k]? = some x:=⟨xs[k],List.getElem?_eq_getElem hkn⟩;have hc:=HC.out k x hx;have hstep:=Lib.lens_take_succ (xs.map (·.data.toList)) k x.data.toList (by simp[hx]);have hbound:Lib.lens ((xs.map (·.data.toList)).take (k+1))≤Lib.lens (xs.map (·.data.toList)):=Lib.lens_take_le _ _;rw[←Lib.size_eq]at hstep;generalize hA1:Lib.lens ((xs.map (·.data.toList)).take (k+1))=A1 at hstep hbound;generalize Lib.lens ((xs.map (·.data.toList)).take k)=A0 at hstep;have HA1:=Jl.hid hA1;clear hA1
    go_wp2
    exact⟨⟨k+1,by omega,by go_num,by rw[HA1.out];refine congrArg _ ?_;omega⟩,by simp[intOf];omega⟩
   ·have hke:k=xs.length:=by omega
    subst hke;have hall:(xs.map (·.data.toList)).take xs.length=xs.map (·.data.toList):=List.take_of_length_le (by simp);rw[hall];generalize hT:Lib.lens (xs.map (·.data.toList))=T at hjl;have HT:=Jl.hid hT;clear hT hall
    go_wp2_with fail
    have hMT:((M:Int)+(T:Int))=((M+T:Nat):Int):=by omega
    rw[hMT];refine(Jl.Builder_Grow_fresh L w.heap.size w.heap.size (M+T) _ (Nat.le_refl _) (heap_alloc_new w _) (by simp) (by omega)).mono ?_
    rintro e w1 ⟨rfl,h1,hb1⟩
    have hb1':Below w.heap.size w w1:=((Below.refl w.heap.size w).alloc (Nat.le_refl _) _).trans hb1
    -- the first element
    have hx0:xs[0]? = some x0:=by rw[Hxs.out];rfl
    have hc0:w1.cell? ⟨bk,o,none⟩=some (.string x0):=by
     rw[hb1'.cell (p:=⟨bk,o,none⟩) hbk];exact HC.out 0 x0 hx0
    have H1:=Jl.hid (Or.inr h1:Lib.IsBuilder (ρ.t 72) (ρ.t 5) w.heap.size w.heap.size [] w1);have Hb1:=Jl.hid hb1';have hBw1:w.heap.size≤w1.heap.size:=hb1'.size;clear h1 hb1 hb1' hMT
    -- what the builder holds behind k rounds of the second loop;and that it is never longer than the whole
    have hwhole:Lib.join (xs.map (·.data.toList)) sep.data.toList=x0.data.toList++Lib.joinTail sep.data.toList (r.map (·.data.toList)):=by
     rw[Hxs.out,List.map_cons,Lib.join_cons]
    have hCle:∀k,(x0.data.toList++Lib.joinTail sep.data.toList ((r.map (·.data.toList)).take k)).length≤140737488355328:=fun k=>by
     have h1:=Hlen.out;rw[hwhole,List.length_append]at h1;have h2:=Lib.joinTail_take_le sep.data.toList (r.map (·.data.toList)) k;rw[List.length_append];omega
    have HCle:=Jl.hid hCle;have Hwhole:=Jl.hid hwhole;clear hCle hwhole
    go_wp2_with fail
    refine(Jl.Builder_WriteString L w.heap.size w.heap.size [] x0 w1 H1.out (by have:=HCle.out 0;simp[Lib.joinTail]at this ⊢;omega) hBw1).mono ?_
    rintro e w2 ⟨rfl,h2',hb2⟩
    have hstart:([]:List Value)++Lib.strCells x0=Lib.byteCells (x0.data.toList++Lib.joinTail sep.data.toList ((r.map (·.data.toList)).take 0)):=by
     simp[Lib.joinTail,Lib.strCells_eq]
    rw[hstart]at h2';have H2:=Jl.hid (Or.inr h2':Lib.IsBuilder (ρ.t 72) (ρ.t 5) w.heap.size w.heap.size _ w2);have Hb2:=Jl.hid (Hb1.out.trans hb2);clear h2' hb2 hstart;have hrl:r.length=xs.length-1:=by rw[Hxs.out];simp
    go_wp2_with fail
    go_loopw [65] (fun i wr=>∃k:Nat,k≤r.length∧i=.int .i64 k∧Hid (Lib.IsBuilder (ρ.t 72) (ρ.t 5) w.heap.size w.heap.size (Lib.byteCells (x0.data.toList++Lib.joinTail sep.data.toList ((r.map (·.data.toList)).take k))) wr)∧Hid (Below w.heap.size w wr)) (fun i _=>r.length-(intOf i).toNat)
    case atStart=>exact⟨0,Nat.zero_le _,rfl,H2,Hb2⟩
    case round=>
     obtain⟨k,hk',rfl,HB,HW⟩:=hrel;by_cases hkr:k<r.length
     ·obtain⟨y,hy⟩:∃y,r[k]? = some y:=⟨r[k],List.getElem?_eq_getElem hkr⟩;have hxy:xs[k+1]? = some y:=by rw[Hxs.out];simpa using hy
      have hcy:wr.cell? ⟨bk,o+1+k,none⟩=some (.string y):=by
       rw[HW.out.cell (p:=⟨bk,o+1+k,none⟩) hbk,show o+1+k=o+(k+1) by omega];exact HC.out (k+1) y hxy
      have hBw:w.heap.size≤wr.heap.size:=HW.out.size;have hnext:Lib.byteCells (x0.data.toList++Lib.joinTail sep.data.toList ((r.map (·.data.toList)).take k))++Lib.strCells sep++Lib.strCells y=Lib.byteCells (x0.data.toList++Lib.joinTail sep.data.toList ((r.map (·.data.toList)).take (k+1))):=by
       rw[Lib.joinTail_take_succ sep.data.toList (r.map (·.data.toList)) k y.data.toList (by simp[hy]),Lib.strCells_eq,Lib.strCells_eq,←Lib.byteCells_append,←Lib.byteCells_append,List.append_assoc,List.append_assoc,List.append_assoc]
      have hl1:=HCle.out (k+1);rw[Lib.joinTail_take_succ sep.data.toList (r.map (·.data.toList)) k y.data.toList (by simp[hy])]at hl1;simp only[List.length_append,←Lib.size_eq]at hl1;have hl0:(Lib.byteCells (x0.data.toList++Lib.joinTail sep.data.toList ((r.map (·.data.toList)).take k))).length=x0.size+(Lib.joinTail sep.data.toList ((r.map (·.data.toList)).take k)).length:=by
       rw[Lib.byteCells_length,List.length_append,←Lib.size_eq]
      generalize (Lib.joinTail sep.data.toList ((r.map (·.data.toList)).take k)).length=J at hl0 hl1;have Hn:=Jl.hid hnext;clear hnext hy hxy
      go_wp2_with fail
      refine(Jl.Builder_WriteString L w.heap.size w.heap.size _ sep wr HB.out (by rw[hl0];omega) hBw).mono ?_
      rintro e w3 ⟨rfl,h3,hb3⟩
      have hBw3:w.heap.size≤w3.heap.size:=Nat.le_trans hBw hb3.size;have H3:=Jl.hid h3;have Hb3:=Jl.hid hb3;clear h3 hb3
      go_wp2_with fail
      refine(Jl.Builder_WriteString L w.heap.size w.heap.size _ y w3 (Or.inr H3.out) (by rw[List.length_append,hl0,Lib.strCells_length];omega) hBw3).mono ?_
      rintro e w4 ⟨rfl,h4,hb4⟩
      rw[Hn.out]at h4;have H4:=Jl.hid (Or.inr h4:Lib.IsBuilder (ρ.t 72) (ρ.t 5) w.heap.size w.heap.size _ w4);have Hb4:=Jl.hid ((HW.out.trans Hb3.out).trans hb4);clear h4 hb4
      go_wp2
      exact⟨⟨k+1,by omega,by go_num,H4,Hb4⟩,by simp[intOf];omega⟩
     ·have hke:k=r.length:=by omega
      subst hke;have hfull:(r.map (·.data.toList)).take r.length=r.map (·.data.toList):=List.take_of_length_le (by simp);have hB':=HB.out;rw[hfull,←Hwhole.out]at hB';have hBw:w.heap.size≤wr.heap.size:=HW.out.size
      go_wp2_with fail
      refine(Any.Builder_String_any L.ton169 L.toExtra w.heap.size w.heap.size _ wr hB' hBw).mono ?_
      rintro e w5 ⟨rfl,hb5⟩
      have Hb5:=Jl.hid (HW.out.trans hb5);clear hb5 hB'
      go_wp2
      go_ret
      exact⟨rfl,Hb5.out⟩)
theorem Jl.strings_Join(L:JL P ρ)(bk o c:Nat)(xs:List ByteArray)(sep:ByteArray)(w:World)
  (hcells:∀(j:Nat) x,xs[j]? = some x→w.cell? ⟨bk,o+j,none⟩=some (.string x))
  (hbk:bk<w.heap.size) (hN:xs.length≤140737488355328) (hcap:xs.length≤c)
  (hlen:(Lib.join (xs.map (·.data.toList)) sep.data.toList).length≤140737488355328) :
  Calls P (ρ.f 156) #[.slice (some ⟨bk,o,none⟩) xs.length c,.string sep] w fun e w'=>e=.returned (.string ⟨(Lib.join (xs.map (·.data.toList)) sep.data.toList).toArray⟩)∧Below w.heap.size w w':=by
 match xs,hcells,hN,hcap,hlen with
 | [],_,_,_,_=>exact(Jl.strings_Join_none L _ c sep w).mono fun e w' ⟨he,hw⟩=>⟨he,hw▸Below.refl _ _⟩
 | [x],hcells,_,_,_=>
  refine(Jl.strings_Join_one L bk o c x sep w (hcells 0 x rfl)).mono fun e w' ⟨he,hw⟩=>⟨?_,hw▸Below.refl _ _⟩;rw[he,List.map_cons,List.map_nil,Lib.join_one,Lib.mk_data]
 | x::y::r,hcells,hN,hcap,hlen=>grind[Jl.strings_Join_many]
end Go.Proofs
end
section
namespace Go.Proofs
open Go.Shelf Go.RowKit Go.Ab
variable{P:Program}{ρ:Ren}
theorem sl_inv{w:World}{S:Nat→Nat→Prop}{v:Value}{els:List (List AV)}{f:Fl}(h:CP w S v (.sl els f)) :
  (els=[]∧∃a,v=.slice a 0 0)∨∃(blk off z cap:Nat) (u:Nat→Nat→Value),v=.slice (some ⟨blk,off,none⟩) els.length cap∧els.length≤cap∧cap≤maxLen ∧
   (∀(i:Nat) (r:List AV),els[i]? = some r→r.length=z) ∧
   (∀i j,i<els.length→j<z→S blk (off+i*z+j)∧w.cell? ⟨blk,off+i*z+j,none⟩=some (u i j)) ∧
   (∀(i:Nat) (r:List AV) (j:Nat) (c:AV),els[i]? = some r→r[j]? = some c→CP w S (u i j) c):=by
 cases h with
 | slnil f hf=>exact .inl ⟨rfl,_,rfl⟩
 | slz a f hf=>exact .inl ⟨rfl,_,rfl⟩
 | sl blk off z cap els f u hf hfull hcap hmax hz hS hc=>exact .inr ⟨blk,off,z,cap,u,rfl,hcap,hmax,hz,fun i j hi hj=>⟨(hS i j hi hj).1,(hS i j hi hj).2.1⟩,hc⟩
theorem s_inv{w:World}{S:Nat→Nat→Prop}{v:Value}{l:List UInt8}(h:CP w S v (.s l)):v=.string ⟨l.toArray⟩:=by
 cases h with
 | s=>rfl
theorem two_args{cargs:Array Value}(h:cargs.size=2):∃a b,cargs=#[a,b]:=by
 obtain⟨l⟩:=cargs
 match l,h with
 | [a,b],_=>exact⟨a,b,rfl⟩
theorem one_arg{cargs:Array Value}(h:cargs.size=1):∃a,cargs=#[a]:=by
 obtain⟨l⟩:=cargs
 match l,h with
 | [a],_=>exact⟨a,rfl⟩
theorem inter_len(sep:List UInt8)(hs:sep.length≤100):∀ts:List (List UInt8),(∀t∈ts,t.length≤10000)→(Lib.join ts sep).length≤20000*ts.length
 | [],_=>by simp[Lib.join,List.intercalate]
 | x::r,h=>by
  have key:∀r:List (List UInt8),(∀t∈r,t.length≤10000)→Lib.lens r≤10000*r.length:=by
   intro r
   induction r with
   | nil=>intro _;simp[Lib.lens]
   | cons y r ih=>
    intro h;have h1:=ih fun t ht=>h t (List.mem_cons_of_mem _ ht);have h2:=h y List.mem_cons_self;simp only[Lib.lens,List.map_cons,List.sum_cons,List.length_cons]at h1 ⊢;omega
  rw[Lib.join_length];have h1:=key (x::r) h;have h2:=Nat.mul_le_mul_right r.length hs;simp only[List.length_cons]at h1 ⊢;omega
theorem join_pcall(L:JL P ρ):∀xs r,prim183 xs=some r→Zat P (ρ.f 156) xs (·=r):=by
 intro xs r h;unfold prim183 at h;split at h
 ·split at h
  ·rename_i els sep hl;cases ht:els.mapM textOf with
   | none=>rw[ht]at h;cases h
   | some ts=>
    rw[ht]at h;cases h;obtain⟨he,hb⟩:=zj1 ht;refine⟨enters_of L.f156 (by kernel_rfl) rfl,fun w S cargs hsz hC hS=>?_⟩;obtain⟨v0,v1,rfl⟩:=two_args hsz;have c0:=hC 0 _ _ rfl rfl;have c1:=s_inv (hC 1 _ _ rfl rfl);subst c1;have htl:ts.length≤1000:=by rw[he,zc7]at hl;exact hl.1
    have done:∀{Q:World→Prop},(∀w',Q w'→Below w.heap.size w w')→Calls P (ρ.f 156) #[v0,.string ⟨sep.toArray⟩] w (fun e w'=>e=.returned (.string ⟨(List.intercalate sep ts).toArray⟩)∧Q w') →
      Calls P (ρ.f 156) #[v0,.string ⟨sep.toArray⟩] w fun e w'=>∃v r,e=.returned v∧r=AV.s (List.intercalate sep ts)∧Below w.heap.size w w'∧CP w' (fun k o=>S k o∨(w.heap.size≤k∧k<w'.heap.size)) v r:=by
     intro Q hQ hc;refine hc.mono ?_
     rintro e w' ⟨rfl,hb⟩
     exact⟨_,_,rfl,rfl,hQ _ hb,.s _⟩
    rcases sl_inv c0 with ⟨h0,a,rfl⟩ | ⟨blk,off,z,cap,u,rfl,hcap,hmax,hz,hcell,hcp⟩
    ·have h1:ts=[]:=by
      rw[he]at h0;exact List.eq_nil_of_length_eq_zero (by rw[←zc7 ts,h0];rfl)
     subst h1;refine done (Q:=fun w'=>w'=w) (fun w' h=>h▸Below.refl _ _) ?_;exact Jl.strings_Join_none L a 0 ⟨sep.toArray⟩ w
    ·have hel:els.length=ts.length:=by rw[he,zc7]
     have hcells:∀(j:Nat) x,(ts.map fun t=>(⟨t.toArray⟩:ByteArray))[j]? = some x→S blk (off+j)∧w.cell? ⟨blk,off+j,none⟩=some (.string x):=by
      intro j x hx;rw[List.getElem?_map]at hx;cases ht2:ts[j]? with
      | none=>rw[ht2]at hx;cases hx
      | some t=>
       rw[ht2]at hx;cases hx;have hj:els[j]? = some [.s t]:=by rw[he];simp[Zbu,ht2]
       have hz1:1=z:=hz j _ hj;subst hz1;have hjl:j<els.length:=(List.getElem?_eq_some_iff.1 hj).1;obtain⟨h1,h2⟩:=hcell j 0 hjl Nat.one_pos;have h3:=s_inv (hcp j _ 0 (.s t) hj rfl);rw[h3]at h2;simp only[Nat.mul_one,Nat.add_zero]at h1 h2;exact⟨h1,h2⟩
     cases hts:ts with
     | nil=>
      subst hts;rw[show els.length=0 from hel]at done ⊢;refine done (Q:=fun w'=>w'=w) (fun w' h=>h▸Below.refl _ _) ?_;exact Jl.strings_Join_none L _ cap ⟨sep.toArray⟩ w
     | cons t0 tr=>
      rw[←hts];have hblk:blk<w.heap.size:=hS _ _ (hcells 0 ⟨t0.toArray⟩ (by rw[hts];rfl)).1;have hm:(ts.map fun t=>(⟨t.toArray⟩:ByteArray)).map (·.data.toList)=ts:=by rw[List.map_map];simp[Function.comp_def]
      have hj:=Jl.strings_Join L blk off cap (ts.map fun t=>(⟨t.toArray⟩:ByteArray)) ⟨sep.toArray⟩ w (fun j x hx=>(hcells j x hx).2) hblk (by rw[List.length_map];omega) (by rw[List.length_map];omega)
       (by rw[hm];have:=inter_len sep hl.2 ts hb;show (Lib.join ts sep).length≤_;omega)
      rw[hm,List.length_map,←hel]at hj;exact done (fun _ h=>h) hj
  ·cases h
 ·cases h
end Go.Proofs
end
section
namespace Go.Proofs
open Go.Shelf Go.RowKit
set_option maxRecDepth 100000
def Tryz.jren:Ren:=⟨fun | 156=>87 | 165=>122 | 166=>123 | 169=>124 | 240=>150 | 241=>151 | 277=>172 | n=>n,fun | 0=>0 | 1=>1 | 2=>2 | 3=>3 | 4=>4 | 5=>5 | 6=>6 | 7=>7 | 8=>8 | 9=>9 | 10=>10 | 11=>11 | 12=>12 | 13=>13 | 14=>14 | 15=>15 | 16=>16 | 17=>17 | 18=>18 | 19=>19 | 20=>20 | 21=>21 | 23=>231 | 27=>287 | 28=>39 | 31=>170 | 34=>43 | 37=>202 | 40=>286 | 41=>218 | 46=>194 | 48=>180 | 51=>89 | 52=>197 | 53=>158 | 55=>285 | 63=>275 | 64=>280 | 67=>172 | 70=>201 | 71=>203 | 72=>204 | 73=>190 | 74=>205 | 75=>206 | 76=>207 | 77=>208 | 80=>209 | 81=>293 | 104=>108 | 105=>273 | 106=>274 | 112=>192 | 114=>174 | 115=>251 | 116=>252 | 117=>253 | 118=>254 | 119=>281 | 122=>250 | 123=>255 | 124=>256 | 127=>232 | 131=>235 | 137=>282 | 138=>283 | 139=>284 | 146=>271 | 164=>257 | 165=>258 | 166=>259 | n=>n,fun n=>n⟩
theorem Tryz.joinLaid:JL Tryz.prog Tryz.jren:={
 mixed:=by kernel_rfl,
 f169:=Tryz.func124.trans (congrArg some (by kernel_rfl)),
 t0:=Tryz.underlying0,
 a0:=Tryz.isAgg0,
 z0:=Tryz.sizeOf0,
 v0:=Tryz.zeroValue0,
 t3:=Tryz.underlying3,
 a3:=Tryz.isAgg3,
 z3:=Tryz.sizeOf3,
 v3:=Tryz.zeroValue3,
 t9:=Tryz.underlying9,
 a9:=Tryz.isAgg9,
 z9:=Tryz.sizeOf9,
 v9:=Tryz.zeroValue9,
 t37:=Tryz.underlying202,
 a37:=Tryz.isAgg202,
 z37:=Tryz.sizeOf202,
 v37:=Tryz.zeroValue202,
 t70:=Tryz.underlying201,
 a70:=Tryz.isAgg201,
 z70:=Tryz.sizeOf201,
 v70:=Tryz.zeroValue201,
 t72:=Tryz.underlying204,
 a72:=Tryz.isAgg204,
 z72:=Tryz.sizeOf204,
 v72:=Tryz.zeroValue204,
 t127:=Tryz.underlying232,
 a127:=Tryz.isAgg232,
 z127:=Tryz.sizeOf232,
 v127:=Tryz.zeroValue232,
 f241:=Tryz.func151.trans (congrArg some (by kernel_rfl)),
 f277:=Tryz.func172.trans (congrArg some (by kernel_rfl)),
 sizeBuilder:=by kernel_rfl,
 liesBuilder:=by kernel_rfl,
 t5:=Tryz.underlying5,
 a5:=Tryz.isAgg5,
 z5:=Tryz.sizeOf5,
 v5:=Tryz.zeroValue5,
 infoByte:=by kernel_rfl,
 cellsByte:=by kernel_rfl,
 sizeByte:=by kernel_rfl,
 neB5:=by decide,
 f156:=Tryz.func87.trans (congrArg some (by kernel_rfl)),
 f165:=Tryz.func122.trans (congrArg some (by kernel_rfl)),
 f166:=Tryz.func123.trans (congrArg some (by kernel_rfl)),
 t4:=Tryz.underlying4,
 a4:=Tryz.isAgg4,
 z4:=Tryz.sizeOf4,
 v4:=Tryz.zeroValue4,
 t20:=Tryz.underlying20,
 a20:=Tryz.isAgg20,
 z20:=Tryz.sizeOf20,
 v20:=Tryz.zeroValue20,
 t31:=Tryz.underlying170,
 a31:=Tryz.isAgg170,
 z31:=Tryz.sizeOf170,
 v31:=Tryz.zeroValue170,
 t75:=Tryz.underlying206,
 a75:=Tryz.isAgg206,
 z75:=Tryz.sizeOf206,
 v75:=Tryz.zeroValue206,
 t76:=Tryz.underlying207,
 a76:=Tryz.isAgg207,
 z76:=Tryz.sizeOf207,
 v76:=Tryz.zeroValue207,
 t164:=Tryz.underlying257,
 a164:=Tryz.isAgg257,
 z164:=Tryz.sizeOf257,
 v164:=Tryz.zeroValue257,
 e240:=enters_of Tryz.func150 (by kernel_rfl) rfl,
 c240:=fun B b bs w h=>Tryz.bCheck B b bs w h,
 c240f:=fun b w h0 h1 h2=>Tryz.bCheck_fresh b w h0 h1 h2 }
end Go.Proofs
namespace Go.Proofs.YtfgfjicelfagcabGreatDoor
open Go.Ab
theorem join_ok:∀xs r,prim183 xs=some r→Zat Tryz.prog (nu 183) xs (·=r):=by
 have e:nu 183=Tryz.jren.f 156:=by kernel_rfl
 rw[e];exact join_pcall Tryz.joinLaid
end Go.Proofs.YtfgfjicelfagcabGreatDoor
end
namespace Go.Ab
section
open Go.ChangeShapes Go.WideShapes Go.ChangeAt Go.RowKit
theorem zkb{H:Type}{enc:TypeId×Value→H}{P:Program}{f:Func}{s:ChangeSpec}{apart fresh handsOn again:Bool}{W W':World}{args:Array Value}{v:Value}{ds gs:List (DataW H)}{before pa pv:List MemPlace}
  (hW:DataW.Whole enc P f.params.toList s.vars apart W args.toList ds gs before)
  (hres:∀(b:Nat) (sp:Nat→Bool) (hd:Bool),DataW.TrodAll enc P W' b sp hd f.resultTypes.toList (v.resultList f.resultTypes.size) (s.fn H (ds++gs)).results [])
  (hargs:∀sp:Nat→Bool,(∀p∈before,sp p.block=true)→DataW.TrodAll enc P W' 0 sp true f.params.toList args.toList (s.fn H (ds++gs)).args pa)
  (hvars:∀sp:Nat→Bool,(∀p∈before,sp p.block=true)→DataW.TrodVars enc P W' sp s.vars (s.fn H (ds++gs)).vars pv)
  (hps:before=pa++pv) (hw:Below W.heap.size W W')
  (hok:∀(j:Nat) (t:TypeId) (r:Value),f.resultTypes[j]? = some t→(v.resultList f.resultTypes.size)[j]? = some r→Value.okWide P W' .any 0 t r) :
  s.post enc P f apart fresh handsOn again W args v W':=by
 have hold:∀p∈before,(fun b=>decide (b<W.heap.size)) p.block=true:=fun p hp=>by simpa using hW.lt p hp
 have hlt:∀p∈before,p.block<W.heap.size:=fun p hp=>hW.lt p hp;refine⟨ds,gs,before,[],pa,pv,hW,hres _ _ _,hargs _ hold,hvars _ hold,World.keptBut_mono (fun p hp=>⟨hp,?_⟩) (hw.frame (·∈before)),fun _=>?_⟩
 ·grind
 ·obtain⟨_,_,_,_,_,hz,hn⟩:=hW;refine⟨hok,_,_,([]++pa)++pv,⟨[]++pa,pv,trodAll_append (hargs _ (fun _ _=>rfl)) (hres _ _ _),hvars _ (fun _ _=>rfl),rfl,?_,?_⟩,?_⟩
  ·intro b off hp;have hp':MemPlace.cell b off∈before:=by grind
   rw[hw.frozen (p:=⟨b,off,none⟩) (hlt _ hp')];exact hz b off hp'
  all_goals grind
end
section
open Go.ChangeShapes Go.WideShapes Go.ChangeAt Go.RowKit
inductive Ty where
 | int (k:IntKind)
 | bool
 | str
 | sl (r:Ty)
 | nil
 | cons (a:Ty) (r:Ty)
def Ty.z:Ty→Nat
 | .nil=>0
 | .cons a r=>a.z+r.z
 | _=>1
def Ok:Ty→List AV→Prop
 | .int k,cs=>∃n,cs=[.i k n]∧(Lit.int k n).wf=true
 | .bool,cs=>∃b,cs=[.b b]
 | .str,cs=>∃l,cs=[.s l]∧l.length≤maxLen
 | .sl r,cs=>∃els f,cs=[.sl els f]∧els.length≤maxLen∧(f=.nl∧els=[]∨f=.so)∧∀row∈els,Ok r row
 | .nil,cs=>cs=[]
 | .cons a r,cs=>∃c1 c2,cs=c1++c2∧Ok a c1∧Ok r c2
theorem Ok.len:∀{ty:Ty} {cs:List AV},Ok ty cs→cs.length=ty.z
 | .int _,_,⟨_,h,_⟩=>by rw[h];rfl
 | .bool,_,⟨_,h⟩=>by rw[h];rfl
 | .str,_,⟨_,h,_⟩=>by rw[h];rfl
 | .sl _,_,⟨_,_,h,_⟩=>by rw[h];rfl
 | .nil,_,h=>by rw[show _=[] from h];rfl
 | .cons _ _,_,⟨_,_,h,h1,h2⟩=>by rw[h,Yq,h1.len,h2.len];rfl
def Zdj(w:World)(S:Nat→Nat→Prop)(cs:List Value)(xs:List AV):Prop:=
 xs.length=cs.length∧∀(j:Nat) (v:Value) (c:AV),cs[j]? = some v→xs[j]? = some c→CP w S v c∧v.oneCell'=true
section
variable{H:Type}{enc:TypeId×Value→H}{P:Program}{w:World}{base:Nat}{held:Bool}{S:Nat→Nat→Prop}
theorem Zdj.nil:Zdj w S [] []:=⟨rfl,fun j v c h=>by grind⟩
theorem Zdj.one{v:Value}{c:AV}(h:CP w S v c)(h1:v.oneCell'=true):Zdj w S [v] [c]:=by
 refine⟨rfl,fun j v' c' hv hc=>?_⟩
 grind
theorem Zdj.append{cs cs':List Value}{xs xs':List AV}(h:Zdj w S cs xs)(h':Zdj w S cs' xs'):Zdj w S (cs++cs') (xs++xs'):=by
 refine⟨by rw[Yq,Yq,h.1,h'.1],fun j v c hv hc=>?_⟩;by_cases hj:j<cs.length
 ·rw[Yo hj]at hv;rw[Yo (by rw[h.1];omega)]at hc;exact h.2 j v c hv hc
 ·rw[Yh (by omega)]at hv;rw[Yh (by rw[h.1];omega),h.1]at hc;exact h'.2 _ v c hv hc
def Zf7(P:Program)(g:TypeId→Option Ty)(tot:Nat):Nat→List Field→Option Ty
 | off,[]=>if off=tot then some .nil else none
 | off,f::fs=>(g f.type).bind fun a=>if f.offset=off∧a.z=P.cellsOf f.type then (Zf7 P g tot (off+a.z) fs).map (.cons a) else none
def Zkc:Nat→Ty→Ty
 | 0,_=>.nil
 | n+1,a=>.cons a (Zkc n a)
def Zg1(P:Program):Nat→TypeId→Option Ty
 | 0,_=>none
 | n+1,t=>
  match P.underlying t with
  | some .bool=>some .bool
  | some (.int k)=>some (.int k)
  | some .string=>some .str
  | some (.slice e)=>(Zg1 P n e).bind fun r=>if r.z=P.cellsOf e∧0<r.z then some (.sl r) else none
  | some (.struct fs)=>Zf7 P (Zg1 P n) (P.cellsOf t) 0 fs.toList
  | some (.array k e)=>(Zg1 P n e).bind fun a=>if a.z=P.cellsOf e∧k*a.z=P.cellsOf t then some (Zkc k a) else none
  | _=>none
theorem zue{α:Type}{Q:Nat→α→Prop}:∀(n:Nat),(∀i,i<n→∃x,Q i x)→∃l:List α,l.length=n∧∀i x,l[i]? = some x→Q i x
 | 0,_=>⟨[],rfl,fun i x h=>by grind⟩
 | n+1,h=>by
  obtain⟨l,hl,hq⟩:=zue n fun i hi=>h i (by omega);obtain⟨x,hx⟩:=h n (by omega);refine⟨l++[x],by grind,fun i y hy=>?_⟩
  grind
def Zfv(S:Nat→Nat→Prop)(ps:List MemPlace):Prop:=∀k o,MemPlace.cell k o∈ps→S k o
theorem zg7{n:Nat}{g:TypeId→Option Ty}{cs:List Value}
  (ih:∀t cs x ty,DataW.trod enc P w base (fun _=>true) held n t cs=some x→g t=some ty→Zfv S x.2→∃xs,Ok ty xs∧Zdj w S cs xs) :
  ∀(fs:List Field) (off:Nat) (ty:Ty) (ys:List (DataW H×List MemPlace)),
   ys.length=fs.length→(∀(i:Nat) (f:Field),fs[i]? = some f→DataW.trod enc P w base (fun _=>true) held n f.type ((cs.drop f.offset).take (P.cellsOf f.type))=ys[i]?) →
   Zf7 P g cs.length off fs=some ty→Zfv S (ys.flatMap (·.2))→∃xs,Ok ty xs∧Zdj w S (cs.drop off) xs
 | [],off,ty,ys,hl,hm,ht,hp=>by
  simp only[Zf7]at ht;split at ht<;>cases ht;rename_i ho;exact⟨[],rfl,by rw[ho,Y2];exact Zdj.nil⟩
 | f::fs,off,ty,[],hl,hm,ht,hp=>by grind
 | f::fs,off,ty,y::ys1,hl,hm,ht,hp=>by
  obtain⟨a,ha,ht1⟩:=bind_some ht;split at ht1
  ·rename_i hc;obtain⟨ho,hz⟩:=hc;obtain⟨r,hr,rfl⟩:=map_some ht1;have hy:=hm 0 f rfl;rw[ho,←hz]at hy;obtain⟨xs1,ho1,hr1⟩:=ih _ _ _ _ hy ha fun k o h=>hp k o (by grind);obtain⟨xs2,ho2,hr2⟩:=zg7 ih fs _ r ys1 (by grind) (fun i f' hf=>by simpa using hm (i+1) f' (by grind)) hr fun k o h=>hp k o (by
    grind)
   refine⟨xs1++xs2,⟨xs1,xs2,rfl,ho1,ho2⟩,?_⟩;have e:cs.drop off=(cs.drop off).take a.z++cs.drop (off+a.z):=by rw[←Ydn,Yaw]
   rw[e];exact hr1.append hr2
  grind
theorem zi8{n:Nat}{e:TypeId}{r:Ty}(ih:∀cs x,DataW.trod enc P w base (fun _=>true) held n e cs=some x→Zfv S x.2→∃xs,Ok r xs∧Zdj w S cs xs) :
  ∀(k:Nat) (cs:List Value) (ys:List (DataW H×List MemPlace)),ys.length=k→cs.length=k*r.z →
   (∀(i:Nat),i<k→DataW.trod enc P w base (fun _=>true) held n e ((cs.drop (i*r.z)).take r.z)=ys[i]?)→Zfv S (ys.flatMap (·.2))→∃xs,Ok (Zkc k r) xs∧Zdj w S cs xs
 | 0,cs,ys,hl,hc,hm,hp=>by
  rw[Ycu,List.length_eq_zero_iff]at hc;subst hc;exact⟨[],rfl,Zdj.nil⟩
 | k+1,cs,[],hl,hc,hm,hp=>by grind
 | k+1,cs,y::ys,hl,hc,hm,hp=>by
  have hy:=hm 0 (by omega);rw[Ycu,Ybp]at hy;obtain⟨xs1,ho1,hr1⟩:=ih _ _ hy fun k o h=>hp k o (by grind);obtain⟨xs2,ho2,hr2⟩:=zi8 ih k (cs.drop r.z) ys (by grind) (by grind) (fun i hi=>by
   grind[List.drop_drop]) fun k o h=>hp k o (by
    grind)
  refine⟨xs1++xs2,⟨xs1,xs2,rfl,ho1,ho2⟩,?_⟩;have e:cs=cs.take r.z++cs.drop r.z:=(Yaw ..).symm;rw[e];exact hr1.append hr2
theorem zp4{a:Addr}{m z:Nat}{cs:List Value}(h:w.cells? base (a.add m) z=some cs)(j:Nat)(hj:j<z):w.cell? ((a.add m).add j)=cs[j]? := (World.cells?_some h).2.2 j hj
theorem zuf{a:Addr}{v:Value}(h:w.cell? a=some v):a.spot=none:=by
 unfold World.cell? at h;split at h
 all_goals simp_all
theorem ze6:∀(n m:Nat) (t:TypeId) (cs:List Value) (x:DataW H×List MemPlace) (ty:Ty),
  DataW.trod enc P w base (fun _=>true) held n t cs=some x→Zg1 P m t=some ty→Zfv S x.2→∃xs,Ok ty xs∧Zdj w S cs xs
 | 0,_,_,_,_,_,h,_,_=>by simp[DataW.trod]at h
 | n+1,0,_,_,_,_,_,ht,_=>by simp[Zg1]at ht
 | n+1,m+1,t,cs,x,ty,h,ht,hp=>by
  simp only[Zg1]at ht;split at ht
  ·rename_i hu;cases ht;obtain⟨b,rfl,rfl⟩:=DataW.trod_bool hu h;exact⟨[.b b],⟨b,rfl⟩,Zdj.one (.b b) rfl⟩
  ·rename_i k hu;cases ht;obtain⟨z,rfl,rfl,hw⟩:=DataW.trod_int hu h;exact⟨[.i k z],⟨z,rfl,hw⟩,Zdj.one (.i k z) rfl⟩
  ·rename_i hu;cases ht;obtain⟨s,rfl,rfl,hs⟩:=DataW.trod_string hu h;exact⟨[.s s.data.toList],⟨_,rfl,by simp_all⟩,Zdj.one (.s s.data.toList) rfl⟩
  ·rename_i e hu;obtain⟨r,hr,ht1⟩:=bind_some ht;split at ht1
   ·rename_i hz;cases ht1;obtain⟨hz,hzp⟩:=hz;rcases DataW.trod_slice hu h with ⟨rfl,rfl⟩ | ⟨a,len,cap,elems,rest,n',hn',rfl,rfl,hb,hl,hmx,hlen,hel,hsp,hns⟩
    ·exact⟨[.sl [] .nl],⟨[],.nl,rfl,Y1 _,.inl ⟨rfl,rfl⟩,fun row h=>by grind⟩,Zdj.one (.slnil _ (.inl rfl)) rfl⟩
    ·obtain⟨hrl,hrest⟩:=hsp rfl;have hall:∀i,i<cap→∃y cs',y∈elems++rest∧w.cells? base (a.add (i*P.cellsOf e)) (P.cellsOf e)=some cs'∧DataW.trod enc P w base (fun _=>true) held n e cs'=some y:=by
      intro i hi;by_cases hil:i<len
      ·have h1:=hel i hil;rw[Ya (by omega)]at h1;obtain⟨cs',h2,h3⟩:=bind_some h1
       grind
      ·have h1:=hrest (i-len) (by omega);rw[Ya (by omega),show len+(i-len)=i by omega]at h1;obtain⟨cs',h2,h3⟩:=bind_some h1
       grind
     by_cases hcap:cap=0
     ·have hl0:len=0:=by omega
      subst hcap;subst hl0;exact⟨[.sl [] .so],⟨[],.so,rfl,Y1 _,.inr rfl,fun row h=>by grind⟩,Zdj.one (.slz a _ (.inl rfl)) rfl⟩
     ·have hspot:a.spot=none:=by
       obtain⟨y,cs',_,h2,_⟩:=hall 0 (by omega);have h3:=zp4 h2 0 (by omega)
       grind[World.cells?_some,zuf,Addr.add]
      obtain⟨blk,off,sp⟩:=a;have hrows:∀i,i<len→∃xs,Ok r xs∧∃cs',w.cells? base ((⟨blk,off,none⟩:Addr).add (i*P.cellsOf e)) (P.cellsOf e)=some cs'∧Zdj w S cs' xs:=by
       intro i hi;obtain⟨y,cs',hy,h2,h3⟩:=hall i (by omega);obtain⟨xs,ho,hrc⟩:=ze6 n m e cs' y r h3 hr fun k o hk=>hp k o (by
        grind)
       grind
      obtain⟨els,hels,hq⟩:=zue len hrows;refine⟨[.sl els .so],⟨els,.so,rfl,by omega,.inr rfl,fun row hrow=>?_⟩,Zdj.one ?_ rfl⟩
      ·grind[List.getElem?_of_mem]
      ·have hcell:∀i j,i<els.length→j<r.z→∃v,w.cell? ⟨blk,off+i*r.z+j,none⟩=some v∧v.oneCell'=true∧∀row c,els[i]? = some row→row[j]? = some c→CP w S v c:=by
        intro i j hi hj;obtain⟨ho,cs',h2,hrc⟩:=hq i _ (Ya hi);have h3:=zp4 h2 j (by omega);have h4:=(World.cells?_some h2).2.1;rw[zbc,zbc,←hz,Ya (by omega)]at h3;have hlr:=ho.len;have h5:=hrc.2 j _ _ (Ya (by omega)) (Ya (by omega))
        grind
       have hS:∀i j,i<els.length→j<r.z→S blk (off+i*r.z+j):=by
        intro i j hi hj;refine hp _ _ ?_;rw[Yr];left;unfold MemPlace.row;rw[Yz];refine⟨i*r.z+j,?_,by rw[Yaq]⟩;have h1:(i+1)*r.z≤(elems.length+rest.length)*r.z:=Yae _ (by omega)
        grind
       have:=CP.sl (w:=w) (S:=S) blk off r.z cap els .so (fun i j=>(w.cell? ⟨blk,off+i*r.z+j,none⟩).getD undef) (by simp) (by simp) (by omega) hmx
        (fun i row hrow=>(hq i row hrow).1.len) (fun i j hi hj=>?_) (fun i row j c hrow hc=>?_)
       ·grind
       ·grind
       ·have hi:=(Ye.1 hrow).1;have hj:=(Ye.1 hc).1;rw[(hq i row hrow).1.len]at hj
        grind
   grind
  ·rename_i fs hu;obtain⟨xs,n',hn',rfl,hcl,hxl,hx⟩:=DataW.trod_struct hu h;cases hn';rw[←hcl]at ht;have:=zg7 (S:=S) (g:=Zg1 P m) (cs:=cs) (n:=n) (fun t cs x ty h1 h2 h3=>ze6 n m t cs x ty h1 h2 h3) fs.toList 0 ty xs (by omega) (fun i f hf=>hx i f (by grind)) ht hp
   grind
  ·rename_i k e hu;obtain⟨r,hr,ht1⟩:=bind_some ht;split at ht1
   ·rename_i hz;cases ht1;obtain⟨hz,hzt⟩:=hz;obtain⟨xs,n',hn',rfl,hcl,hxl,hx⟩:=DataW.trod_array hu h;cases hn';rw[←hz]at hx;exact zi8 (S:=S) (n:=n) (e:=e) (r:=r) (fun cs x h1 h3=>ze6 n m e cs x r h1 hr h3) k cs xs hxl (by omega) hx hp
   grind
  grind
end
end
section
open Go.ChangeShapes Go.WideShapes Go.ChangeAt Go.RowKit
def isAgg(P:Program)(t:TypeId):Bool:=match P.underlying t with | some (.struct _)=>true | some (.array _ _)=>true | _=>false
def Zkd(P:Program)(m:Nat):List TypeId→Option (List (Bool×Ty))
 | []=>some []
 | t::ts=>(Zg1 P m t).bind fun a=>(Zkd P m ts).map fun r=>(isAgg P t,a)::r
def Zh8:Bool×Ty→AV→Prop
 | (true,ty),x=>∃cs,x=.agg cs∧Ok ty cs
 | (false,ty),x=>Ok ty [x]
def Zif:List (Bool×Ty)→List AV→Prop
 | [],xs=>xs=[]
 | a::r,xs=>∃x ys,xs=x::ys∧Zh8 a x∧Zif r ys
section
variable{H:Type}{enc:TypeId×Value→H}{P:Program}{w:World}{S:Nat→Nat→Prop}
theorem zyr{m:Nat}{t:TypeId}{v:Value}{d:DataW H}{p:List MemPlace}{ty:Ty}{base:Nat}(hA:DataW.Trod enc P w 0 (fun _=>true) true t v d p)(hT:Zg1 P m t=some ty)
  (hval:Value.okWide P w .any base t v) (hp:Zfv S p):∃x,Zh8 (isAgg P t,ty) x∧CP w S v x:=by
 obtain⟨fuel,hf⟩:=hA;obtain⟨xs,ho,hrc⟩:=ze6 (S:=S) fuel m t _ _ ty hf hT hp;have hlen:=ho.len;cases hu:P.underlying t with
 | none=>cases m<;>simp[Zg1,hu]at hT
 | some desc=>
  have one:∀(hag:isAgg P t=false) (hz:ty.z=1) (hv:v.cells=#[v]),∃x,Zh8 (isAgg P t,ty) x∧CP w S v x:=by
   intro hag hz hv;rw[hag]
   match xs,hlen with
   | [x],_=>
    refine⟨x,ho,?_⟩;have:=hrc.2 0 v x (by grind) rfl
    grind
   | [],h=>grind
   | _::_::_,h=>grind
  cases m with
  | zero=>simp[Zg1]at hT
  | succ m=>
  cases desc<;>simp only[Zg1,hu]at hT<;>try (cases hT;done)
  case struct fs=>
   have hag:isAgg P t=true:=by simp[isAgg,hu]
   rw[hag];unfold Value.okWide at hval;rw[hu]at hval;obtain⟨cs,rfl,hcs,_⟩:=hval;refine⟨.agg xs,⟨xs,rfl,ho⟩,.agg cs xs ?_ ?_ ?_⟩
   ·have:=hrc.1;simpa[Value.cells]using this.symm
   ·intro j u hu;have hl:=hrc.1;have hj:j<cs.size:=(Ybv.1 hu).1;have hj':j<xs.length:=by rw[hl];simpa[Value.cells]using hj
    exact(hrc.2 j u _ (by simpa[Value.cells]using hu) (Ya hj')).2
   ·intro j u c hu hc;exact(hrc.2 j u c (by simpa[Value.cells]using hu) hc).1
  case array k e=>
   have hag:isAgg P t=true:=by simp[isAgg,hu]
   rw[hag];unfold Value.okWide at hval;rw[hu]at hval;obtain⟨cs,rfl,hcs,_⟩:=hval;refine⟨.agg xs,⟨xs,rfl,ho⟩,.agg cs xs ?_ ?_ ?_⟩
   ·have:=hrc.1;simpa[Value.cells]using this.symm
   ·intro j u hu;have hl:=hrc.1;have hj:j<cs.size:=(Ybv.1 hu).1;have hj':j<xs.length:=by rw[hl];simpa[Value.cells]using hj
    exact(hrc.2 j u _ (by simpa[Value.cells]using hu) (Ya hj')).2
   ·intro j u c hu hc;exact(hrc.2 j u c (by simpa[Value.cells]using hu) hc).1
  case bool=>
   cases hT;unfold Value.okWide Cell.okWide Cell.ok at hval;refine one (by simp[isAgg,hu]) rfl ?_;cases v<;>first | rfl | grind
  case int k=>
   cases hT;unfold Value.okWide Cell.okWide Cell.ok at hval;rw[hu]at hval;refine one (by simp[isAgg,hu]) rfl ?_;cases v<;>first | rfl | grind
  case string=>
   cases hT;unfold Value.okWide Cell.okWide Cell.ok at hval;rw[hu]at hval;refine one (by simp[isAgg,hu]) rfl ?_;cases v<;>first | rfl | grind
  case slice e=>
   obtain⟨r,hr,ht1⟩:=bind_some hT;split at ht1<;>cases ht1;unfold Value.okWide Cell.okWide Cell.ok at hval;rw[hu]at hval;refine one (by simp[isAgg,hu]) rfl ?_;cases v<;>first | rfl | grind
theorem zlt{m base:Nat}:∀(ts:List TypeId) (vs:List Value) (ds:List (DataW H)) (p:List MemPlace) (tys:List (Bool×Ty)),DataW.TrodAll enc P w 0 (fun _=>true) true ts vs ds p→Zkd P m ts=some tys →
  (∀(j:Nat) t v,ts[j]? = some t→vs[j]? = some v→Value.okWide P w .any base t v)→Zfv S p →
  ∃xs,Zif tys xs∧vs.length=xs.length∧∀(j:Nat) (v:Value) (c:AV),vs[j]? = some v→xs[j]? = some c→CP w S v c
 | [],vs,ds,p,tys,hA,hT,hval,hp=>by
  obtain⟨rfl,_,_⟩:=trodAll_nil hA;cases hT;exact⟨[],rfl,rfl,fun j v c h=>by grind⟩
 | t::ts,vs,ds,p,tys,hA,hT,hval,hp=>by
  obtain⟨v,vs1,d,ds1,a,b,rfl,rfl,rfl,h1,h2⟩:=trodAll_cons hA;obtain⟨ty,hty,hT1⟩:=bind_some hT;obtain⟨r,hr,rfl⟩:=map_some hT1;obtain⟨x,hx,hC⟩:=zyr (S:=S) h1 hty (hval 0 t v rfl rfl) fun k o h=>hp k o (Y4 _ h);obtain⟨xs,ho,hl,hc⟩:=zlt (m:=m) (base:=base) ts vs1 ds1 b r h2 hr (fun j t v ht hv=>hval (j+1) t v (by grind) (by grind)) fun k o h=>hp k o (Yw _ h);refine⟨x::xs,⟨x,xs,rfl,hx,ho⟩,by grind,fun j u c hu hcc=>?_⟩
  grind
theorem zp5(hl:laidOutB P=true){W W':World}(hb:Below W.heap.size W W'){sp:Nat→Bool}:∀(ts:List TypeId) (vs:List Value) (ds:List (DataW H)) (p:List MemPlace),
  (ts.all fun t=>P.readableRec t&&decide (t<P.types.size))=true→DataW.TrodAll enc P W 0 (fun _=>true) true ts vs ds p→(∀x∈p,x.block<W.heap.size)→(∀x∈p,sp x.block=true)→DataW.TrodAll enc P W' 0 sp true ts vs ds p
 | [],_,_,_,_,hA,_,_=>by
  obtain⟨rfl,rfl,rfl⟩:=trodAll_nil hA;exact rfl
 | t::ts,vs,ds,p,hr,hA,hlt,hsp=>by
  obtain⟨v,vs1,d,ds1,a,b,rfl,rfl,rfl,h1,h2⟩:=trodAll_cons hA;rw[Ybx,Yk,Yk,decide_eq_true_eq]at hr;exact⟨a,b,WideElems.Trod_stays hl hr.1.1 hr.1.2 h1 (fun x hx=>hb.same (hlt x (Y4 _ hx))) (fun x hx=>hsp x (Y4 _ hx)),
   zp5 hl hb ts vs1 ds1 b hr.2 h2 (fun x hx=>hlt x (Yw _ hx)) (fun x hx=>hsp x (Yw _ hx)),rfl⟩
theorem zug:∀(ts:List TypeId) (vs:List Value) (ds:List (DataW H)) (p:List MemPlace),DataW.TrodAll enc P w 0 (fun _=>true) true ts vs ds p→ds.length=ts.length
 | [],_,_,_,hA=>by
  obtain⟨rfl,rfl,rfl⟩:=trodAll_nil hA
  rfl
 | t::ts,vs,ds,p,hA=>by
  obtain⟨v,vs1,d,ds1,a,b,rfl,rfl,rfl,h1,h2⟩:=trodAll_cons hA;simp[zug ts vs1 ds1 b h2]
theorem zys{f:FuncId}{fn:Func}{s:ChangeSpec}{m tb:Nat}{tys:List (Bool×Ty)}{fresh handsOn again:Bool}(hvars:s.vars=[])(hT:Zkd P m fn.params.toList=some tys)(hl:laidOutB P=true)
  (hread:(fn.params.toList.all fun t=>P.readableRec t&&decide (t<P.types.size))=true) (hr:fn.resultTypes=#[tb]) (hb:P.underlying tb=some .bool)
  (hfn:∀ds:List (DataW H),ds.length=fn.params.toList.length→s.fn H ds={ results:=[.lit (.bool true)],args:=ds })
  (hcall:∀xs,Zif tys xs→Zat P f xs (·=.b true)) {W:World} {args:Array Value} {ds gs:List (DataW H)} {before:List MemPlace} {base:Nat}
  (hval:∀(j:Nat) t v,fn.params[j]? = some t→args[j]? = some v→Value.okWide P W .any base t v) (hW:DataW.Whole enc P fn.params.toList s.vars false W args.toList ds gs before) :
  Calls P f args W fun e W'=>∃v,e=.returned v∧s.post enc P fn false fresh handsOn again W args v W':=by
 have hW':=hW;obtain⟨p,q,hA,hV,rfl,hfz,hnd⟩:=hW;rw[hvars]at hV;obtain⟨rfl,rfl⟩:=trodVars_none hV;have hlt:∀x∈p,x.block<W.heap.size:=fun x hx=>hW'.lt x (Y4 _ hx);obtain⟨xs,ho,hlen,hC⟩:=zlt (S:=fun k o=>MemPlace.cell k o∈p) _ _ _ _ _ hA hT (fun j t v ht hv=>hval j t v (by grind) (by grind)) (fun k o h=>h);have hc:=(hcall xs ho).2 W (fun k o=>MemPlace.cell k o∈p) args (by omega) (fun j v c hv hc=>hC j v c (by grind) hc) (fun k o h=>hlt _ h);refine hc.mono fun e W' ⟨v,r,he,hrr,hbel,hCr⟩=>?_;subst he hrr;have hv:v=.bool true:=by cases hCr;rfl
 subst hv;have hlf:=hfn ds (zug _ _ _ _ hA);refine⟨_,rfl,zkb (pa:=p) (pv:=[]) hW' (fun b sp hd=>?_) (fun sp hsp=>?_) (fun sp _=>?_) rfl hbel (ok_one hr rfl (okWide_bool_mk hb _))⟩
 ·rw[Ya5,hlf,hr];exact trodAll_mk1 (shut_bool hb _)
 ·grind[zp5]
 ·rw[Ya5,hlf,hvars];exact rfl
end
end
theorem zgp:∀(els:List (List AV)),(∀row∈els,Ok (.int .u32) row)→∃l:List UInt32,els=Zb l
 | [],_=>⟨[],rfl⟩
 | r::els,h=>by
  obtain⟨l,rfl⟩:=zgp els fun row hr=>h row (Yj _ hr);obtain⟨n,rfl,hw⟩:=h r Yp;have h1:0≤n∧n<4294967296:=by
   simp[Lit.wf,IntKind.min,IntKind.max,IntKind.signed,IntKind.bits]at hw;omega
  refine⟨w32 n.toNat::l,?_⟩;have:(w32 n.toNat).toNat=n.toNat:=zag (by omega);simp only[Zb,Y3,this,u32];rw[Int.toNat_of_nonneg h1.1]
theorem zy1{P:Program}{ν:Nat→FuncId}{T:Tbl}(hT:TOk P ν T)(hm:P.follows .mixedOrders=true){u:Nat}{af:AFx}{xs ys:List AV}{r:AV}(hu:T u=some af)(hl:af.lent=none)(h:Za T u ys=some r)(hx:xs.map wkA=ys):Zat P (ν u) xs (·=r):=by
 subst hx;have h1:=zhv hT hm hu hl h;exact Zat.wk (ex:=false) h1
abbrev Fz:=Bool×List UInt32×List UInt32
abbrev Zem(x:Fz):List AV:=[.b x.1,.sl (Zb x.2.1) .an,.sl (Zb x.2.2) .an]
abbrev efz(x:Fz):AV:=.agg (Zem x)
def fv(x:Fz):Rat:=mkRat (wv x.1 x.2.1) (val x.2.2)
def fz(q:Rat):Fz:=(decide (q.num<0),ofN q.num.natAbs,ofN q.den)
@[simp] theorem zpg(q:Rat):fv (fz q)=q:=by
 unfold fv fz;rw[zig,zae,Rat.mkRat_self]
def fsz(x:Fz):Nat:=max x.2.1.length x.2.2.length
theorem zei(x:Fz):x.2.1.length≤fsz x:=Yeb ..
theorem zew(x:Fz):x.2.2.length≤fsz x:=Yd0 ..
def sz(q:Rat):Nat:=max (ofN q.num.natAbs).length (ofN q.den).length
theorem zfr(q:Rat):(ofN q.num.natAbs).length≤sz q:=Yeb ..
theorem zfs(q:Rat):(ofN q.den).length≤sz q:=Yd0 ..
theorem zij{n:Nat}(h:n≠0):1≤(ofN n).length:=by
 have:ofN n≠[]:=fun e=>h (zba.1 e);exact Yck.2 this
theorem z1l(q:Rat):1≤sz q:=Yc (zij q.den_nz) (zfs q)
theorem z1m{z:Int}{d:Nat}(h:d≠0):(mkRat z d).num.natAbs=z.natAbs/Nat.gcd z.natAbs d:=by
 rw[Rat.num_mkRat,if_neg h,Int.natAbs_ediv_of_dvd (Int.ofNat_dvd_left.2 (Nat.gcd_dvd_right ..)),Int.natAbs_natCast,Ycc]
theorem z1n{z:Int}{d:Nat}(h:d≠0):(mkRat z d).den=d/Nat.gcd z.natAbs d:=by
 rw[Rat.den_mkRat,if_neg h,Ycc]
theorem z1o{z:Int}{d:Nat}(h:d≠0):sgI (mkRat z d).num=sgI z:=by
 rw[Rat.num_mkRat,if_neg h];have hg:0<Nat.gcd d z.natAbs:=Nat.gcd_pos_of_pos_left _ (Yal h);obtain⟨k,hk⟩:((Nat.gcd d z.natAbs:Nat):Int) ∣ z:=Int.ofNat_dvd_left.2 (Nat.gcd_dvd_right ..);generalize Nat.gcd d z.natAbs=g at *
 have hg':(0:Int)<g:=by omega
 subst hk;rw[Int.mul_ediv_cancel_left _ (by omega)];unfold sgI;rcases Int.lt_trichotomy k 0 with h1 | h1 | h1
 ·have:=Int.mul_neg_of_pos_of_neg hg' h1;rw[if_pos h1,if_pos this]
 ·subst h1;simp
 ·have:=Int.mul_pos hg' h1;rw[if_neg (by omega),if_neg (by omega),if_neg (by omega),if_neg (by omega)]
theorem zxp(z:Int):decide (z<0)=decide (sgI z<0):=by
 unfold sgI;split
 ·simp[*]
 ·split<;>simp[*]
theorem z9z{z:Int}{d:Nat}(h:d≠0):decide ((mkRat z d).num<0)=decide (z<0):=by
 rw[zxp,zxp z,z1o h]
theorem zaik(n:Bool)(x:Nat){d:Nat}(h:d≠0):fz (mkRat (sg n x) d)=(n&&decide (x≠0),ofN (x/Nat.gcd x d),ofN (d/Nat.gcd x d)):=by
 unfold fz;rw[z9z h,z1m h,z1n h,zq3,zq4]
theorem zex:ofN 1=[1]:=by
 rw[zid (by decide),show 1/4294967296=0 from rfl,zk1]
 rfl
theorem zxq:sz 0=1:=by
 unfold sz;rw[Rat.zero_num,Rat.zero_den,zex];simp
theorem znp(q:Rat):fsz (fz q)=sz q:=rfl
theorem z4g{z:Int}{d L:Nat}(hz:(ofN z.natAbs).length≤L)(hd:(ofN d).length≤L)(h1:1≤L):sz (mkRat z d)≤L:=by
 unfold sz;by_cases h:d=0
 ·subst h;rw[Rat.mkRat_zero,Rat.zero_num,Rat.zero_den,zex];simp;omega
 ·rw[z1m h,z1n h];exact Ydo.2 ⟨Yc (zbb (Ydb _ _)) hz,Yc (zbb (Ydb _ _)) hd⟩
theorem zgk{x:Fz}{L:Nat}(h:fsz x≤L)(h1:1≤L):sz (fv x)≤L:=
 z4g (Yc (zbz _ _) (Yc (zei x) h)) (Yc (zad _) (Yc (zew x) h)) h1
theorem zbv{x y L M:Nat}(hx:(ofN x).length≤L)(hy:(ofN y).length≤M):(ofN (x*y)).length≤L+M:=by
 have:=zav (x:=(x:Int)) (y:=(y:Int)) (L:=L) (M:=M) (by simpa using hx) (by simpa using hy);simpa[Yee]using this
theorem zxr(p q:Rat):sz (p+q)≤sz p+sz q+1:=by
 rw[Rat.add_def'];have h1:=zfr p;have h2:=zfs p;have h3:=zfr q;have h4:=zfs q;have h5:=z1l p;refine z4g ?_ (Yc (zbv h2 h4) (by omega)) (by omega);refine zdq ?_ ?_
 ·exact zav h1 (by simpa using h4)
 ·rw[Ybi];exact zav h3 (by simpa using h2)
theorem zxs(p q:Rat):sz (p*q)≤sz p+sz q:=by
 rw[Rat.mul_def'];have h1:=zfr p;have h2:=zfs p;have h3:=zfr q;have h4:=zfs q;have h5:=z1l p;exact z4g (zav h1 h3) (zbv h2 h4) (by omega)
theorem zxt(p:Rat):sz (-p)=sz p:=by
 unfold sz;rw[Rat.neg_num,Rat.neg_den,Int.natAbs_neg]
theorem z1p(p q:Rat):sz (p-q)≤sz p+sz q+1:=by
 rw[Ydm];have:=zxr p (-q)
 rwa [zxt]at this
theorem z1q(p:Rat):sz p⁻¹≤sz p:=by
 unfold sz;rw[Rat.num_inv,Rat.den_inv];by_cases h:p.num=0
 ·simp[h,zex];have:=zij p.den_nz;omega
 ·rw[if_neg h,Yee,Int.natAbs_sign_of_ne_zero h,Ydd,Int.natAbs_natCast,Nat.max_comm];exact Yd _
theorem z1r(p q:Rat):sz (p/q)≤sz p+sz q:=by
 rw[Rat.div_def];exact Yc (zxs _ _) (Nat.add_le_add_left (z1q q) _)
def sgQ(q:Rat):Int:=sgI q.num
theorem z1s{z:Int}{d:Nat}(h:d≠0):sgQ (mkRat z d)=sgI z:=z1o h
theorem z0l{z:Int}:sgI z=0↔z=0:=by
 unfold sgI;split
 ·constructor<;>intro h<;>omega
 ·split<;>constructor<;>intro h<;>omega
theorem zk5{q:Rat}:sgQ q=0↔q=0:=by
 unfold sgQ;rw[z0l,Rat.num_eq_zero]
def Zf(l:List Fz):List (List AV):=l.map Zem
@[simp] theorem z4h(l:List Fz):(Zf l).length=l.length:=by simp[Zf]
@[simp] theorem zph(l:List Fz):wkL (Zf l)=Zf l:=by rw[zb4];simp[Zf,wkR,wkA]
@[simp] theorem zadg(l:List Fz)(i:Nat)(h:i<(Zf l).length):(Zf l)[i]=Zem (l[i]'(by simpa using h)):=by simp[Zf]
theorem zik(l:List Fz)(x:Fz):Zf l++[Zem x]=Zf (l++[x]):=by simp[Zf]
@[simp] theorem z90(l:List Fz)(n:Nat):(Zf l).take n=Zf (l.take n):=by simp[Zf]
@[simp] theorem zdr:Zf []=[]:=rfl
def Za8(m:List (List Fz)):List (List AV):=m.map fun r=>[.sl (Zf r) .an]
@[simp] theorem zadh:Za8 []=[]:=rfl
abbrev tyF:Ty:=.cons .bool (.cons (.sl (.int .u32)) (.cons (.sl (.int .u32)) .nil))
theorem z08{cs:List AV}(h:Ok tyF cs):∃x:Fz,wkR cs=Zem x:=by
 obtain⟨c1,c2,rfl,⟨b,rfl⟩,c3,c4,rfl,⟨els,f,rfl,_,_,he⟩,c5,c6,rfl,⟨els2,f2,rfl,_,_,he2⟩,rfl⟩:=h;obtain⟨l,rfl⟩:=zgp els he;obtain⟨l2,rfl⟩:=zgp els2 he2;refine⟨(b,l,l2),?_⟩;simp[wkA,wkR]
theorem zmo:∀(els:List (List AV)),(∀r∈els,Ok tyF r)→∃l:List Fz,wkL els=Zf l
 | [],_=>⟨[],rfl⟩
 | r::els,h=>by
  obtain⟨l,hl⟩:=zmo els fun r hr=>h r (Yj _ hr);obtain⟨x,hx⟩:=z08 (h r Yp);refine⟨x::l,?_⟩;simp only[wkL,hx,hl]
  rfl
theorem zmp{cs:List AV}(h:Ok (.sl tyF) cs):∃l:List Fz,wkR cs=[.sl (Zf l) .an]:=by
 obtain⟨els,f,rfl,_,_,he⟩:=h;obtain⟨l,hl⟩:=zmo els he;exact⟨l,by simp[wkR,wkA,hl]⟩
theorem z3b{x:AV}(h:Zh8 (false,.int .i64) x):∃n:Int,x=.i .i64 n∧-9223372036854775808≤n∧n<9223372036854775808:=by
 obtain⟨n,hx,wf⟩:=h;cases hx;refine⟨n,rfl,?_⟩;simp[Lit.wf,IntKind.min,IntKind.max,IntKind.signed,IntKind.bits]at wf;omega
theorem zr7{P:Program}{ν:Nat→FuncId}{l l':List (Nat×AFx)}(hT:TOk P ν fun u=>l'.lookup u)(hp:Part l l')(hm:P.follows .mixedOrders=true){u:Nat}{af:AFx}{xs ys:List AV}{r:AV}
  (hu:l'.lookup u=some af) (hl:af.lent=none) (h:Za (fun u=>l.lookup u) u ys=some r) (hx:xs.map wkA=ys):Zat P (ν u) xs (·=r):=
 zy1 hT hm hu hl (hp.call (by rw[hu];rfl) h) hx
end Go.Ab
section
namespace Go.Proofs.YtfgfjicelfagcabGreatDoor
open Go Go.Ab Go.RowKit
def signS:ByteArray:=⟨#[43,45,42,47,94,40,41,91,93,44,59,61]⟩
theorem signS_lt:∀(p:Nat) (h:p<signS.size),(signS[p]'h).toNat<128:=by decide
theorem sign_at(c:Nat)(hc:c<256):Zjv.contains (UInt8.ofNat c)=decide (∃p,∃h:p<signS.size,(signS[p]'h).toNat=c):=by
 rw[Ybs,decide_eq_true_iff];have:∀c,c<256→(Zjv.contains (UInt8.ofNat c)=true↔∃p,∃h:p<signS.size,(signS[p]'h).toNat=c):=by decide +kernel
 exact this c hc
set_option maxHeartbeats 1000000 in
set_option maxRecDepth 100000 in
theorem sign_calls(c:Nat)(hc:c<256)(w:World):Calls Tryz.prog 134 #[.int .u8 (c:Int)] w fun e w'=>e=.returned (.bool (Zjv.contains (UInt8.ofNat c)))∧Below w.heap.size w w':=by
 rw[sign_at c hc]
 go_enter Tryz.func134,Tryz.ntmps134
 go_wp2
 go_loopw [] (fun wr=>∃pos:Nat,wr.heap[w.heap.size]? = some (.stringIter signS pos)∧Below w.heap.size w wr∧∀j,j<pos→∀h:j<signS.size,(signS[j]'h).toNat≠c) (fun wr=>signS.size-wr.iterPos w.heap.size)
 case atStart=>
  refine⟨0,World.iter_heap w signS 0,?_,fun j hj=>absurd hj (Nat.not_lt_zero _)⟩;exact(Below.refl _ w).alloc (Yd _) _
 case round=>
  obtain⟨pos,hit,hbw,hne⟩:=hrel;by_cases hp:pos<signS.size
  ·have hnx:∀ty,(Instr.next (.pointer (some ⟨w.heap.size,0,none⟩)) true ty).run Tryz.prog wr=_:=fun ty=>Lib.run_next_ascii_at wr w.heap.size signS pos ty hit hp (signS_lt pos hp);have hit2:=Lib.iterAt_heap wr w.heap.size signS pos (pos+1) hit;have hbw2:=Lib.below_iterAt hbw (k:=w.heap.size) (Yd _) signS (pos+1);obtain⟨x,hx⟩:∃x:Nat,(signS[pos]'hp).toNat=x:=⟨_,rfl⟩;have hx1:=signS_lt pos hp;rw[hx]at hnx hx1;have hwr:IntKind.u8.wrap (x:Int)=(x:Int):=by rw[IntKind.wrap_u8];omega
   by_cases hxc:x=c
   ·subst hxc
    go_wp2
    go_ret
    exact⟨by rw[decide_eq_true ⟨pos,hp,hx⟩];rfl,hbw2⟩
   ·have hxc':¬ (x:Int)=(c:Int):=by omega
    go_wp2
    go_roundw
    case rel=>
     refine⟨pos+1,hit2,hbw2,fun j hj h=>?_⟩;rcases Yt j pos with h1 | h1
     ·exact hne j h1 h
     ·obtain rfl:j=pos:=by omega
      rw[hx];exact hxc
    case measure=>
     simp only[World.iterPos,hit2,hit];omega
  ·have hnx:∀ty,(Instr.next (.pointer (some ⟨w.heap.size,0,none⟩)) true ty).run Tryz.prog wr=_:=fun ty=>Lib.run_next_end_at wr w.heap.size signS pos ty hit hp
   go_wp2
   go_ret
   have hno:¬ ∃p,∃h:p<signS.size,(signS[p]'h).toNat=c:=by
    rintro⟨p,h,hpc⟩
    exact hne p (by omega) h hpc
   exact⟨by rw[decide_eq_false hno];rfl,hbw⟩
theorem sign_ok:∀xs r,prim187 xs=some r→Zat Tryz.prog (nu 187) xs (·=r):=by
 have e:nu 187=134:=by kernel_rfl
 rw[e];intro xs r h;unfold prim187 at h;split at h
 ·rename_i n;split at h
  ·rename_i hn;cases h;refine⟨enters_of Tryz.func134 (by kernel_rfl) rfl,fun w S cargs hsz hC hS=>?_⟩;obtain⟨v0,rfl⟩:=one_arg hsz;have c0:v0=.int .u8 n:=by
    have:=hC 0 _ _ rfl rfl;cases this
    rfl
   subst c0;obtain⟨c,rfl⟩:∃c:Nat,n=c:=⟨n.toNat,by omega⟩;refine(sign_calls c (by omega) w).mono ?_
   rintro e w' ⟨rfl,hb⟩
   refine⟨_,_,rfl,?_,hb,.b _⟩;rw[Ya8]
   rfl
  ·cases h
 ·cases h
abbrev tyW:Ty:=.cons (.int .i64) (.cons .str (.cons (.int .i64) .nil))
end Go.Proofs.YtfgfjicelfagcabGreatDoor
end
namespace Go.Ab
class Zmd (T:Tbl):Prop where
end Go.Ab
section
namespace Go.Ab
end Go.Ab
end
namespace Go.Ab
section
variable{T:Tbl}
theorem zit(G:Nat):∀y:Nat×Nat,(y.1<18446744073709551616∧y.2<18446744073709551616∧Nat.gcd y.1 y.2=G) →
  Zp T 0 0 (.norm false [0]) l198_0 ⟨[(0,u64 y.1),(1,u64 y.2)],[],2⟩=some (.n,⟨[(0,u64 G)],[],2⟩):=by
 refine zbm (fun y:Nat×Nat=>⟨[(0,u64 y.1),(1,u64 y.2)],[],2⟩) _ (fun y=>y.2) _ ?_
 rintro⟨x,y⟩ ⟨hx,hy,hG⟩
 simp only at hx hy hG ⊢;by_cases h:y=0
 ·right;subst h;rw[Nat.gcd_zero_right]at hG;subst hG;constructor<;>simp -implicitDefEqProofs[l198_0]
 ·left;have hm:=Ybf x (Yal h);refine⟨(y,x%y),⟨hy,by simp only;omega,by simp only;rw[←hG,Ycc y,←Nat.gcd_rec,Ycc]⟩,hm,?_,trivial⟩;simp -implicitDefEqProofs[l198_0,h]
end
section
variable{T:Tbl}[Zn T]
theorem zms(x y:Nat)(hx:x<18446744073709551616)(hy:y<18446744073709551616):Za T 198 [u64 x,u64 y]=some (u64 (Nat.gcd x y)):=by
 have h:=zit (T:=T) (Nat.gcd x y) (x,y) ⟨hx,hy,rfl⟩;simp only at h;rw[zab Zn.h198 rfl,b198];simp -implicitDefEqProofs[h]
theorem zsc(a:List UInt32):Za T 200 [.sl (Zb (ofN (val a))) .an]=some (.b (decide (val a=1))):=by
 rw[zab Zn.h200 rfl,b200];generalize val a=n;by_cases h0:n=0
 ·subst h0;simp -implicitDefEqProofs
 ·rw[zid h0];by_cases h1:n/4294967296=0
  ·have e:ofN (n/4294967296)=[]:=zba.2 h1;have e2:n%4294967296=n:=Yx (by omega);simp -implicitDefEqProofs[e,Zb,zdn,e2]
  ·have h2:¬ ofN (n/4294967296)=[]:=fun e=>h1 (zba.1 e);have h3:¬ n=1:=by rintro rfl;simp at h1
   have h4:¬ ((ofN (n/4294967296)).length:Int)+1=1:=by
    have:=Yck.2 h2;omega
   simp -implicitDefEqProofs[Zb,h3,h4]
end
section
variable{T:Tbl}[Zo T][Zy T][Zz T][Zq T][Zu T][Zn T]
theorem zy3(G:Nat):∀y:List UInt32×List UInt32,(y.1.length≤90000∧y.2.length≤90000∧(∃n,y.1=ofN n)∧(∃n,y.2=ofN n)∧Nat.gcd (val y.1) (val y.2)=G) →
  ∃r,(∃a b:List UInt32,r=(Ex.n,(⟨[(0,.sl (Zb a) .an),(1,.sl (Zb b) .an)],[],2⟩:St))∧a.length≤90000∧b.length≤2∧(∃n,a=ofN n)∧(∃n,b=ofN n)∧Nat.gcd (val a) (val b)=G) ∧
   Zp T 0 0 (.norm false [0,1]) l199_0 ⟨[(0,.sl (Zb y.1) .an),(1,.sl (Zb y.2) .an)],[],2⟩=some r:=by
 refine zaz (fun y:List UInt32×List UInt32=>⟨[(0,.sl (Zb y.1) .an),(1,.sl (Zb y.2) .an)],[],2⟩) _ (fun y=>val y.2) _ ?_
 rintro⟨a,b⟩ ⟨ha,hb,hk,hn,hG⟩
 simp only at ha hb hk hn hG ⊢;by_cases h:2<b.length
 ·left;have h':(2:Int)<b.length:=by omega
  have hv:val b≠0:=by
   obtain⟨n,rfl⟩:=hn;rw[zae]
   rintro rfl
   simp at h
  have hd:=zfn (T:=T) a b ha hb;rw[if_neg hv]at hd;have hm:=Ybf (val a) (Yal hv);refine⟨(b,ofN (val a%val b)),⟨hb,?_,hn,⟨_,rfl⟩,?_⟩,?_,?_⟩
  ·have:=zbb (Ydk hm);have:=zad b;simp only;omega
  ·simp only;rw[zae,←hG,Ycc (val b),←Nat.gcd_rec,Ycc]
  ·simp only[zae];exact hm
  ·clear hG hm hn hv hk;simp -implicitDefEqProofs[l199_0,h',hd]
 ·right;have h':¬ (2:Int)<b.length:=by omega
  refine⟨_,⟨a,b,rfl,ha,by omega,hk,hn,hG⟩,?_,?_⟩<;>clear hG<;>simp -implicitDefEqProofs[l199_0,h']
theorem zos(a b:List UInt32)(ha:a.length≤90000)(hb:b.length≤90000):Za T 199 [.sl (Zb a) .an,.sl (Zb b) .an]=some (.sl (Zb (ofN (Nat.gcd (val a) (val b)))) .an):=by
 have h1:=zbd (T:=T) a (by omega);have h2:=zbd (T:=T) b (by omega);have la:=zad a;have lb:=zad b;obtain⟨G,hG⟩:∃G,G=Nat.gcd (val a) (val b):=⟨_,rfl⟩;obtain⟨_,⟨x,y,rfl,hx,hy,⟨m,rfl⟩,⟨n,rfl⟩,hg⟩,hr⟩:=zy3 (T:=T) G (ofN (val a),ofN (val b)) ⟨by simp only;omega,by simp only;omega,⟨_,rfl⟩,⟨_,rfl⟩,by simp only[zae];exact hG.symm⟩;simp only at hr;rw[zae,zae]at hg;rw[zab Zn.h199 rfl,b199,←hG];clear hG;by_cases h0:n=0
 ·subst h0;rw[Nat.gcd_zero_right]at hg;subst hg;simp -implicitDefEqProofs[h1,h2,hr]
 ·have hv:val (ofN n)≠0:=by rw[zae];exact h0
  have hd:=zfn (T:=T) (ofN m) (ofN n) hx (by omega);rw[if_neg hv,zae,zae]at hd;have hn64:n<18446744073709551616:=by
   have:=za2 (ofN n);rw[zae]at this;exact Yl this (Y7 (by decide) hy)
  have hm:=Ybf m (Yal h0);have s1:=zm6 (T:=T) (ofN n) (by omega);rw[zae,if_pos hn64]at s1;have s2:=zm6 (T:=T) (ofN (m%n)) (by have:=zbb (Ydk hm);omega);rw[zae,if_pos (by omega)]at s2;have s3:=zms (T:=T) n (m%n) hn64 (by omega);have e:Nat.gcd n (m%n)=G:=by rw[←hg,Ycc n,←Nat.gcd_rec,Ycc]
  rw[e]at s3;have s4:=zgg (T:=T) G (by
   rw[←hg];exact Ydl (Nat.gcd_le_right _ (Yal h0)) hn64)
  have hl:¬ ofN n=[]:=fun e=>h0 (zba.1 e);simp -implicitDefEqProofs[h1,h2,hr,hd,s1,s2,s3,s4,hl,h0]
theorem ziu(a b:List UInt32)(ha:a.length≤90000)(hb:b.length≤90000):Za T 201 [.sl (Zb a) .an,.sl (Zb b) .an] =
  some (.tup [.sl (Zb (ofN (val a/Nat.gcd (val a) (val b)))) .an,.sl (Zb (ofN (val b/Nat.gcd (val a) (val b)))) .an]):=by
 have hg:=zos (T:=T) a b ha hb;have ho:=zsc (T:=T) (ofN (Nat.gcd (val a) (val b)));rw[zae]at ho;have ll:(ofN (Nat.gcd (val a) (val b))).length≤90000:=by
  by_cases h:val a=0
  ·rw[h,Nat.gcd_zero_left];have:=zad b;omega
  ·have:=zbb (Nat.gcd_le_left (val b) (Yal h));have:=zad a;omega
 have d1:=zfn (T:=T) a (ofN (Nat.gcd (val a) (val b))) ha ll;have d2:=zfn (T:=T) b (ofN (Nat.gcd (val a) (val b))) hb ll;have n1:=zbd (T:=T) a (by omega);have n2:=zbd (T:=T) b (by omega);rw[zae]at d1 d2;rw[zab Zn.h201 rfl,b201];by_cases h0:Nat.gcd (val a) (val b)=0
 ·rw[h0]at hg ⊢;simp only[zk1]at hg;simp -implicitDefEqProofs[hg]
 ·rw[if_neg h0]at d1 d2;have hl:¬ ofN (Nat.gcd (val a) (val b))=[]:=fun e=>h0 (zba.1 e);by_cases h1:Nat.gcd (val a) (val b)=1
  ·rw[h1]at hg ho hl ⊢;simp -implicitDefEqProofs[hg,ho,n1,n2,hl]
  ·generalize Nat.gcd (val a) (val b)=g at *
   simp -implicitDefEqProofs[hg,ho,d1,d2,hl,h0,h1]
end
section
variable{T:Tbl}[Zj T]
theorem za4(n:Bool)(k:Nat):Za T 55 [.b n,.sl (Zb (ofN k)) .an]=some (ez (sg n k)):=by
 rw[zab Zj.h55 rfl,b55,z0h];have h:(0<(ofN k).length)=(k≠0):=by
  rw[eq_iff_iff,Yck];exact not_congr zba
 cases n<;>simp -implicitDefEqProofs[h]
end
section
variable{T:Tbl}[Zo T][Zj T]
theorem zga(n:Bool)(a:List UInt32)(ha:a.length≤1000000):Za T 38 [wh n a]=some (ez (wv n a)):=by
 have h:=zbd (T:=T) a (by omega);have hs:=za4 (T:=T) n (val a);rw[zab Zj.h38 rfl,b38];simp -implicitDefEqProofs[h,hs,wv]
end
section
variable{T:Tbl}[Zo T][Zj T]
theorem zng(n:Bool)(a:List UInt32)(ha:a.length≤1000000):Za T 40 [wh n a]=some (ez (-wv n a)):=by
 have h:=zbd (T:=T) a (by omega);have hs:=za4 (T:=T) (!n) (val a);rw[z9u]at hs;rw[zab Zj.h40 rfl,b40];simp -implicitDefEqProofs[h,hs,wv]
end
section
variable{T:Tbl}[Zo T][Zj T]
theorem zjx(n m:Bool)(a b:List UInt32)(ha:a.length≤90000)(hb:b.length≤90000):Za T 23 [wh n a,wh m b]=some (ez (wv n a+wv m b)):=by
 rw[zab Zj.h23 rfl,b23];by_cases h:n=m
 ·subst h;have hn:=zzo (T:=T) [a,b] (by simp) (by simp;omega);have hs:=za4 (T:=T) n (val a+val b);rw[zpd]at hs;have e:lls [a,b]=[[.sl (Zb a) .an],[.sl (Zb b) .an]]:=rfl;have e2:Zfl [a,b]=val a+val b:=by simp[Zfl]
  rw[e,e2]at hn;simp -implicitDefEqProofs[hn,hs,wv]
 ·have hg:=z3p (T:=T) a b (by omega) (by omega);by_cases hlt:val a<val b
  ·have hs:=za4 (T:=T) m (val b-val a);rw[zxj h hlt]at hs;simp -implicitDefEqProofs[h,hg,hlt,zdm,hs,wv]
  ·have hs:=za4 (T:=T) n (val a-val b);rw[zxk h hlt]at hs;simp -implicitDefEqProofs[h,hg,hlt,zdm,hs,wv]
end
section
variable{T:Tbl}[Zo T][Zj T]
theorem zjy(n m:Bool)(a b:List UInt32)(ha:a.length≤90000)(hb:b.length≤90000):Za T 25 [wh n a,wh m b]=some (ez (wv n a-wv m b)):=by
 obtain⟨z,hz⟩:∃z,z=-wv m b:=⟨_,rfl⟩;have h1:=zng (T:=T) m b (by omega);have hl:=zbz m b;rw[←zih,←hz]at hl;have h2:=zjx (T:=T) n (decide (z<0)) a (ofN z.natAbs) (by omega) (by omega);have e:wv n a-wv m b=wv n a+z:=by omega
 rw[zig,←e]at h2;rw[←hz]at h1;rw[zab Zj.h25 rfl,b25];simp -implicitDefEqProofs[h1,h2]
end
section
variable{T:Tbl}[Zy T][Zj T]
theorem znh(n m:Bool)(a b:List UInt32)(ha:a.length≤100000)(hb:b.length≤100000):Za T 27 [wh n a,wh m b]=some (ez (wv n a*wv m b)):=by
 have h1:=zef (T:=T) a b ha hb;have hs:=za4 (T:=T) (n != m) (val a*val b);rw[z1h]at hs;rw[zab Zj.h27 rfl,b27];simp -implicitDefEqProofs[h1,hs,wv]
end
section
variable{T:Tbl}[Zo T][Zj T]
theorem zeh(n:Bool)(a:List UInt32)(ha:a.length≤1000000):Za T 37 [wh n a]=some (.i .i64 (sgI (wv n a))):=by
 have h1:=zee (T:=T) a (by omega);rw[zab Zj.h37 rfl,b37];unfold wv;rw[z1i];by_cases h:val a=0
 ·simp -implicitDefEqProofs[h1,h]
 ·cases n<;>simp -implicitDefEqProofs[h1,h]
end
section
variable{T:Tbl}[Zo T][Zj T]
theorem ztd(n m:Bool)(a b:List UInt32)(ha:a.length≤90000)(hb:b.length≤90000):Za T 36 [wh n a,wh m b]=some (.i .i64 (sgI (wv n a-wv m b))):=by
 have h1:=zjy (T:=T) n m a b ha hb;have hl:=zdq (x:=wv n a) (y:=-wv m b) (L:=90000) (by have:=zbz n a;omega) (by rw[zih];have:=zbz m b;omega);rw[←Int.sub_eq_add_neg]at hl;have h2:=zeh (T:=T) (decide (wv n a-wv m b<0)) (ofN (wv n a-wv m b).natAbs) (show (ofN (wv n a-wv m b).natAbs).length≤1000000 by omega);rw[zig]at h2;rw[zab Zj.h36 rfl,b36];simp -implicitDefEqProofs[h1,h2]
end
section
variable{T:Tbl}[Zo T][Zj T]
theorem z0c(k:Int)(h1:-9223372036854775808≤k)(h2:k<9223372036854775808):Za T 41 [.i .i64 k]=some (ez k):=by
 rw[zab Zj.h41 rfl,b41];by_cases h:k<0
 ·have hn:=zgg (T:=T) k.natAbs (by omega);have hs:=za4 (T:=T) true k.natAbs;have e:sg true k.natAbs=k:=by simp[sg];omega
  have e2:Zjs 0 (k%18446744073709551616).toNat=k.natAbs:=by unfold Zjs;omega
  rw[e]at hs;simp -implicitDefEqProofs[h,e2,hn,hs]
 ·have hn:=zgg (T:=T) k.natAbs (by omega);have hs:=za4 (T:=T) false k.natAbs;have e:sg false k.natAbs=k:=by simp[sg];omega
  have e2:(k%18446744073709551616).toNat=k.natAbs:=by omega
  rw[e]at hs;simp -implicitDefEqProofs[h,e2,hn,hs]
end
section
variable{T:Tbl}[Zo T][Zai T][Zj T]
theorem zte(n:Bool)(a:List UInt32)(ha:a.length≤1000):Za T 34 [wh n a]=some (.s (Zgz (wv n a))):=by
 have h1:Za T 68 [.sl (Zb a) .an]=some (.s (Z8 (val a))):=by rw[p68,zd5 a ha]
 have h2:=zeh (T:=T) n a (by omega);have h3:=zev ha;have h4:1+(Z8 (val a)).length≤9223372036854775807:=by omega
 rw[zab Zj.h34 rfl,b34];unfold Zgz;rw[z1g];by_cases h:wv n a<0
 ·have h5:sgI (wv n a)=-1:=by unfold sgI;rw[if_pos h]
  simp -implicitDefEqProofs[h1,h2,h,h5,h4]
 ·have h5:¬ sgI (wv n a)<0:=by unfold sgI;rw[if_neg h];split<;>omega
  simp -implicitDefEqProofs[h1,h2,h,h5]
end
section
variable{T:Tbl}[Zo T][Zy T][Zz T][Zq T][Zu T][Zj T][Zn T][Zs T]
theorem zov(p q:Int)(hp:(ofN p.natAbs).length≤90000)(hq:(ofN q.natAbs).length≤90000):Za T 23 [ez p,ez q]=some (ez (p+q)):=by
 grind[zjx,zig]
theorem zow(p q:Int)(hp:(ofN p.natAbs).length≤90000)(hq:(ofN q.natAbs).length≤90000):Za T 25 [ez p,ez q]=some (ez (p-q)):=by
 grind[zjy,zig]
theorem zox(p q:Int)(hp:(ofN p.natAbs).length≤90000)(hq:(ofN q.natAbs).length≤90000):Za T 36 [ez p,ez q]=some (.i .i64 (sgI (p-q))):=by
 grind[ztd,zig]
theorem zsh(p:Int)(hp:(ofN p.natAbs).length≤1000000):Za T 40 [ez p]=some (ez (-p)):=by
 grind[zng,zig]
theorem zsi{x d:Nat}(h:d≠0):decide (x/Nat.gcd x d≠0)=decide (x≠0):=by
 obtain⟨k,hk⟩:=Nat.gcd_dvd_left x d
 grind[Nat.mul_div_cancel_left,Nat.mul_eq_zero]
theorem zby(n:Bool)(a d:List UInt32)(ha:a.length≤90000)(hd:d.length≤90000)(h:val d≠0) :
  Za T 202 [wh n a,.sl (Zb d) .an]=some (efz (fz (mkRat (wv n a) (val d)))):=by
 have e:=zaik n (val a) h
 change fz (mkRat (wv n a) (val d))=_ at e
 have hc:=ziu (T:=T) a d ha hd;have hl:(ofN (val a/Nat.gcd (val a) (val d))).length≤1000000:=by
  have:=zbb (Ydb (val a) (Nat.gcd (val a) (val d)));have:=zad a;omega
 have hn:=zga (T:=T) n _ hl;have e2:wv n (ofN (val a/Nat.gcd (val a) (val d)))=sg n (val a/Nat.gcd (val a) (val d)):=by unfold wv;rw[zae]
 rw[e2,z0h,zsi h]at hn;rw[e,zab Zs.h202 rfl,b202];simp -implicitDefEqProofs[hc,hn]
theorem zoy(n:Bool)(a d:List UInt32)(ha:a.length≤10000)(hd:d.length≤10000)(h:val d≠0) :
  Za T 202 [wh n a,.sl (Zb d) .an]=some (efz (fz (mkRat (wv n a) (val d)))):=zby (T:=T) n a d (Yc ha (by decide)) (Yc hd (by decide)) h
theorem za0(x:Fz)(hx:fsz x≤100000):∃y:Fz,val y.2.2≠0∧fv y=fv x∧fsz y≤max 1 (fsz x)∧Za T 203 [efz x]=some (.tup [wh y.1 y.2.1,.sl (Zb y.2.2) .an]):=by
 obtain⟨n,a,d⟩:=x;have h1:=zei (n,a,d);have h2:=zew (n,a,d);simp only at h1 h2;have hz:=zee (T:=T) d (by omega);by_cases h:val d=0
 ·refine⟨(false,[],[1]),by simp,?_,?_,?_⟩
  ·unfold fv;simp only[h,Rat.mkRat_zero]
   rfl
  ·show 1≤_;omega
  ·have ho:=zgg (T:=T) 1 (by decide);rw[zex]at ho;rw[zab Zs.h203 rfl,b203];simp -implicitDefEqProofs[hz,h,ho]
 ·refine⟨(n,a,d),h,rfl,by omega,?_⟩;rw[zab Zs.h203 rfl,b203];simp -implicitDefEqProofs[hz,h]
theorem zoz(k:Int)(h1:-9223372036854775808≤k)(h2:k<9223372036854775808):Za T 205 [.i .i64 k]=some (efz (fz (k:Rat))):=by
 have hw:=z0c (T:=T) k h1 h2;have ho:=zgg (T:=T) 1 (by decide);have e:fz (k:Rat)=(decide (k<0),ofN k.natAbs,ofN 1):=rfl;rw[e,zab Zs.h205 rfl,b205];simp -implicitDefEqProofs[hw,ho]
theorem zgq:Za T 205 [.i .i64 0]=some (efz (fz 0)):=zoz 0 (by decide) (by decide)
theorem zjm(x:Fz)(hx:fsz x≤90000):Za T 207 [efz x]=some (efz (fz (fv x))):=by
 obtain⟨⟨n,a,d⟩,h1,h2,h3,hp⟩:=za0 (T:=T) x (by omega);have la:=zei (n,a,d);have ld:=zew (n,a,d);simp only at la ld;have hc:=zby (T:=T) n a d (by omega) (by omega) h1;rw[←h2]
 change _=some (efz (fz (mkRat (wv n a) (val d))))
 rw[zab Zs.h207 rfl,b207];simp -implicitDefEqProofs[hp,hc]
theorem zc1(x:Fz)(hx:fsz x≤10000):Za T 207 [efz x]=some (efz (fz (fv x))):=zjm (T:=T) x (Yc hx (by decide))
theorem zsj(x:Fz)(hx:fsz x≤90000):Za T 209 [efz x]=some (.i .i64 (sgQ (fv x))):=by
 obtain⟨⟨n,a,d⟩,h1,h2,h3,hp⟩:=za0 (T:=T) x (by omega);have la:=zei (n,a,d);simp only at la;have hc:=zeh (T:=T) n a (by omega);rw[←h2];unfold fv;rw[z1s h1,zab Zs.h209 rfl,b209];simp -implicitDefEqProofs[hp,hc]
theorem zv2(x:Fz)(hx:fsz x≤10000):Za T 209 [efz x]=some (.i .i64 (sgQ (fv x))):=zsj (T:=T) x (Yc hx (by decide))
theorem zbu(n:Bool)(a d:List UInt32)(ha:a.length≤90000)(hd:d.length≤90000):Za T 210 [wh n a,.sl (Zb d) .an]=some (ez (wv n a*(val d:Int))):=by
 have hm:=znh (T:=T) n false a d (by omega) (by omega);rw[show wv false d=(val d:Int) from rfl]at hm;rw[zab Zs.h210 rfl,b210];simp -implicitDefEqProofs[hm]
theorem zv3(x x':Fz)(hx:fsz x≤30000)(hx':fsz x'≤30000):Za T 211 [efz x,efz x']=some (.i .i64 (sgQ (fv x-fv x'))):=by
 obtain⟨⟨n,a,d⟩,h1,h2,h3,hp⟩:=za0 (T:=T) x (by omega);obtain⟨⟨m,b,e⟩,h1',h2',h3',hp'⟩:=za0 (T:=T) x' (by omega);have la:=zei (n,a,d);have ld:=zew (n,a,d);have lb:=zei (m,b,e);have le:=zew (m,b,e);simp only at la ld lb le;have c1:=zbu (T:=T) n a e (by omega) (by omega);have c2:=zbu (T:=T) m b d (by omega) (by omega);have l1:(ofN (wv n a*(val e:Int)).natAbs).length≤60000:=by
  have:=zav (x:=wv n a) (y:=(val e:Int)) (L:=30000) (M:=30000) (Yc (zbz n a) (by omega)) (Yc (zbz false e) (by omega));omega
 have l2:(ofN (wv m b*(val d:Int)).natAbs).length≤60000:=by
  have:=zav (x:=wv m b) (y:=(val d:Int)) (L:=30000) (M:=30000) (Yc (zbz m b) (by omega)) (Yc (zbz false d) (by omega));omega
 have e1:sgQ (fv x-fv x')=sgI (wv n a*(val e:Int)-wv m b*(val d:Int)):=by
  rw[←h2,←h2',Ydm];unfold fv;rw[Rat.neg_mkRat,Ydc _ _ h1 h1',z1s (Ycp h1 h1'),Int.neg_mul]
  rfl
 generalize wv n a*(val e:Int)=z1 at *
 generalize wv m b*(val d:Int)=z2 at *
 have c3:=zox (T:=T) z1 z2 (by omega) (by omega);rw[e1,zab Zs.h211 rfl,b211];simp -implicitDefEqProofs[hp,hp',c1,c2,c3]
theorem zsk(x x':Fz)(hx:fsz x≤30000)(hx':fsz x'≤30000):Za T 212 [efz x,efz x']=some (.b (decide (fv x=fv x'))):=by
 have hc:=zv3 (T:=T) x x' hx hx';have e:(sgQ (fv x-fv x') == 0)=decide (fv x=fv x'):=by
  grind[zk5]
 rw[zab Zs.h212 rfl,b212];simp -implicitDefEqProofs[hc,e]
theorem zv4(x x':Fz)(hx:fsz x≤1000)(hx':fsz x'≤1000):Za T 212 [efz x,efz x']=some (.b (decide (fv x=fv x'))):=zsk (T:=T) x x' (Yc hx (by decide)) (Yc hx' (by decide))
theorem zv5(x:Fz)(hx:fsz x≤90000):Za T 213 [efz x]=some (efz (fz (-fv x))):=by
 have h1:=zjm (T:=T) x hx;have hl:(ofN (fv x).num.natAbs).length≤1000000:=by
  have:=zgk (x:=x) (L:=90000) hx (by decide);have:=zfr (fv x);omega
 have h2:Za T 40 [.agg [.b (decide ((fv x).num<0)),.sl (Zb (ofN (fv x).num.natAbs)) .an]]=some (.agg [.b (decide (-(fv x).num<0)),.sl (Zb (ofN (-(fv x).num).natAbs)) .an]):=zsh (T:=T) (fv x).num hl;generalize fv x=q at *
 have e:fz (-q)=(decide (-q.num<0),ofN (-q.num).natAbs,ofN q.den):=rfl;have e':fz q=(decide (q.num<0),ofN q.num.natAbs,ofN q.den):=rfl;rw[e,zab Zs.h213 rfl,b213];rw[e']at h1;simp -implicitDefEqProofs[h1,h2]
theorem zql(x:Fz)(hx:fsz x≤10000):Za T 213 [efz x]=some (efz (fz (-fv x))):=zv5 (T:=T) x (Yc hx (by decide))
theorem zv6(x x':Fz)(hx:fsz x≤30000)(hx':fsz x'≤30000):Za T 215 [efz x,efz x']=some (efz (fz (fv x+fv x'))):=by
 obtain⟨⟨n,a,d⟩,h1,h2,h3,hp⟩:=za0 (T:=T) x (by omega);obtain⟨⟨m,b,e⟩,h1',h2',h3',hp'⟩:=za0 (T:=T) x' (by omega);have la:=zei (n,a,d);have ld:=zew (n,a,d);have lb:=zei (m,b,e);have le:=zew (m,b,e);simp only at la ld lb le;have c1:=zbu (T:=T) n a e (by omega) (by omega);have c2:=zbu (T:=T) m b d (by omega) (by omega);have c4:=zef (T:=T) d e (by omega) (by omega);have l1:(ofN (wv n a*(val e:Int)).natAbs).length≤60000:=by
  have:=zav (x:=wv n a) (y:=(val e:Int)) (L:=30000) (M:=30000) (Yc (zbz n a) (by omega)) (Yc (zbz false e) (by omega));omega
 have l2:(ofN (wv m b*(val d:Int)).natAbs).length≤60000:=by
  have:=zav (x:=wv m b) (y:=(val d:Int)) (L:=30000) (M:=30000) (Yc (zbz m b) (by omega)) (Yc (zbz false d) (by omega));omega
 have l3:(ofN (val d*val e)).length≤60000:=by
  have:=zbv (x:=val d) (y:=val e) (L:=30000) (M:=30000) (Yc (zad d) (by omega)) (Yc (zad e) (by omega));omega
 have e1:fv x+fv x'=mkRat (wv n a*(val e:Int)+wv m b*(val d:Int)) (val d*val e):=by
  rw[←h2,←h2'];exact Ydc _ _ h1 h1'
 have hne:=Ycp h1 h1';generalize wv n a*(val e:Int)=z1 at *
 generalize wv m b*(val d:Int)=z2 at *
 generalize val d*val e=D at *
 have c3:=zov (T:=T) z1 z2 (by omega) (by omega);have c5:=zby (T:=T) (decide (z1+z2<0)) (ofN (z1+z2).natAbs) (ofN D) (by have:=zdq l1 l2;omega) (by omega) (by rw[zae];omega);rw[zig,zae,←e1]at c5;rw[zab Zs.h215 rfl,b215];simp -implicitDefEqProofs[hp,hp',c1,c2,c3,c4,c5]
theorem zqm(x x':Fz)(hx:fsz x≤1000)(hx':fsz x'≤1000):Za T 215 [efz x,efz x']=some (efz (fz (fv x+fv x'))):=zv6 (T:=T) x x' (Yc hx (by decide)) (Yc hx' (by decide))
theorem zv7(x x':Fz)(hx:fsz x≤30000)(hx':fsz x'≤30000):Za T 216 [efz x,efz x']=some (efz (fz (fv x-fv x'))):=by
 obtain⟨⟨n,a,d⟩,h1,h2,h3,hp⟩:=za0 (T:=T) x (by omega);obtain⟨⟨m,b,e⟩,h1',h2',h3',hp'⟩:=za0 (T:=T) x' (by omega);have la:=zei (n,a,d);have ld:=zew (n,a,d);have lb:=zei (m,b,e);have le:=zew (m,b,e);simp only at la ld lb le;have c1:=zbu (T:=T) n a e (by omega) (by omega);have c2:=zbu (T:=T) m b d (by omega) (by omega);have c4:=zef (T:=T) d e (by omega) (by omega);have l1:(ofN (wv n a*(val e:Int)).natAbs).length≤60000:=by
  have:=zav (x:=wv n a) (y:=(val e:Int)) (L:=30000) (M:=30000) (Yc (zbz n a) (by omega)) (Yc (zbz false e) (by omega));omega
 have l2:(ofN (wv m b*(val d:Int)).natAbs).length≤60000:=by
  have:=zav (x:=wv m b) (y:=(val d:Int)) (L:=30000) (M:=30000) (Yc (zbz m b) (by omega)) (Yc (zbz false d) (by omega));omega
 have l3:(ofN (val d*val e)).length≤60000:=by
  have:=zbv (x:=val d) (y:=val e) (L:=30000) (M:=30000) (Yc (zad d) (by omega)) (Yc (zad e) (by omega));omega
 have e1:fv x-fv x'=mkRat (wv n a*(val e:Int)-wv m b*(val d:Int)) (val d*val e):=by
  rw[←h2,←h2',Ydm];unfold fv;rw[Rat.neg_mkRat,Ydc _ _ h1 h1',Int.neg_mul]
  rfl
 have hne:=Ycp h1 h1';generalize wv n a*(val e:Int)=z1 at *
 generalize wv m b*(val d:Int)=z2 at *
 generalize val d*val e=D at *
 have c3:=zow (T:=T) z1 z2 (by omega) (by omega);have c5:=zby (T:=T) (decide (z1-z2<0)) (ofN (z1-z2).natAbs) (ofN D) (by
  have:=zdq (x:=z1) (y:=-z2) (L:=60000) l1 (by grind)
  grind) (by omega) (by rw[zae];omega)
 rw[zig,zae,←e1]at c5;rw[zab Zs.h216 rfl,b216];simp -implicitDefEqProofs[hp,hp',c1,c2,c3,c4,c5]
theorem zqn(x x':Fz)(hx:fsz x≤1000)(hx':fsz x'≤1000):Za T 216 [efz x,efz x']=some (efz (fz (fv x-fv x'))):=zv7 (T:=T) x x' (Yc hx (by decide)) (Yc hx' (by decide))
theorem zv8(x x':Fz)(hx:fsz x≤30000)(hx':fsz x'≤30000):Za T 217 [efz x,efz x']=some (efz (fz (fv x*fv x'))):=by
 obtain⟨⟨n,a,d⟩,h1,h2,h3,hp⟩:=za0 (T:=T) x (by omega);obtain⟨⟨m,b,e⟩,h1',h2',h3',hp'⟩:=za0 (T:=T) x' (by omega);have la:=zei (n,a,d);have ld:=zew (n,a,d);have lb:=zei (m,b,e);have le:=zew (m,b,e);simp only at la ld lb le;have c3:=znh (T:=T) n m a b (by omega) (by omega);have c4:=zef (T:=T) d e (by omega) (by omega);have l1:(ofN (wv n a*wv m b).natAbs).length≤60000:=by
  have:=zav (x:=wv n a) (y:=wv m b) (L:=30000) (M:=30000) (Yc (zbz n a) (by omega)) (Yc (zbz m b) (by omega));omega
 have l3:(ofN (val d*val e)).length≤60000:=by
  have:=zbv (x:=val d) (y:=val e) (L:=30000) (M:=30000) (Yc (zad d) (by omega)) (Yc (zad e) (by omega));omega
 have e1:fv x*fv x'=mkRat (wv n a*wv m b) (val d*val e):=by
  rw[←h2,←h2'];exact Rat.mkRat_mul_mkRat _ _ _ _
 have hne:=Ycp h1 h1';generalize wv n a*wv m b=z at *
 generalize val d*val e=D at *
 have c5:=zby (T:=T) (decide (z<0)) (ofN z.natAbs) (ofN D) (by omega) (by omega) (by rw[zae];omega);rw[zig,zae,←e1]at c5;rw[zab Zs.h217 rfl,b217];simp -implicitDefEqProofs[hp,hp',c3,c4,c5]
theorem zqo(x x':Fz)(hx:fsz x≤1000)(hx':fsz x'≤1000):Za T 217 [efz x,efz x']=some (efz (fz (fv x*fv x'))):=zv8 (T:=T) x x' (Yc hx (by decide)) (Yc hx' (by decide))
theorem z3i{n m:Bool}{x y:Nat}{d e:Nat}(hy:y≠0) :
  mkRat (sg n x) d/mkRat (sg m y) e=mkRat (sg (decide (sg n x*(e:Int)<0) != m) (sg n x*(e:Int)).natAbs) (d*y):=by
 have h1:sg (decide (sg n x*(e:Int)<0) != m) (sg n x*(e:Int)).natAbs=sg n x*(e:Int)*sg m 1:=by
  grind[sg]
 rw[h1,Rat.div_def,←Ydx,←Ydx,←Ydx,Rat.inv_divInt,Rat.divInt_mul_divInt];cases m
 ·grind[sg]
 ·simp only[sg,if_true,Yd8,Int.mul_neg,Int.mul_one,Yd2];rw[←Rat.neg_divInt_neg,Int.neg_neg]
theorem zv9(x x':Fz)(hx:fsz x≤30000)(hx':fsz x'≤30000):Za T 218 [efz x,efz x']=some (.tup [efz (fz (fv x/fv x')),.b (decide (fv x'≠0))]):=by
 obtain⟨⟨n,a,d⟩,h1,h2,h3,hp⟩:=za0 (T:=T) x (by omega);obtain⟨⟨m,b,e⟩,h1',h2',h3',hp'⟩:=za0 (T:=T) x' (by omega);have la:=zei (n,a,d);have ld:=zew (n,a,d);have lb:=zei (m,b,e);have le:=zew (m,b,e);simp only at la ld lb le;have cs:=zeh (T:=T) m b (by omega);rw[show wv m b=sg m (val b) from rfl,z1i]at cs;by_cases hb:val b=0
 ·have e0:fv x'=0:=by
   rw[←h2'];unfold fv;rw[Rat.mkRat_eq_zero h1'];show sg m (val b)=0;rw[hb];cases m<;>rfl
  have ho:=zgq (T:=T);rw[if_pos hb]at cs;rw[e0,Rat.div_def,Rat.inv_zero,Rat.mul_zero,zab Zs.h218 rfl,b218];clear h1 h2 h3 h1' h2' h3' e0;generalize fz 0=R at *
  simp -implicitDefEqProofs[hp,hp',cs,ho]
 ·rw[if_neg hb]at cs;have c1:=zbu (T:=T) n a e (by omega) (by omega);have c4:=zef (T:=T) d b (by omega) (by omega);have l1:(ofN (wv n a*(val e:Int)).natAbs).length≤60000:=by
   have:=zav (x:=wv n a) (y:=(val e:Int)) (L:=30000) (M:=30000) (Yc (zbz n a) (by omega)) (Yc (zbz false e) (by omega));omega
  have l3:(ofN (val d*val b)).length≤60000:=by
   have:=zbv (x:=val d) (y:=val b) (L:=30000) (M:=30000) (Yc (zad d) (by omega)) (Yc (zad b) (by omega));omega
  have hne0:fv x'≠0:=by
   rw[←h2'];unfold fv;rw[Ne,Rat.mkRat_eq_zero h1'];show ¬ sg m (val b)=0;cases m<;>simp[sg,hb]
  have e1:fv x/fv x'=mkRat (sg (decide (wv n a*(val e:Int)<0) != m) (wv n a*(val e:Int)).natAbs) (val d*val b):=by
   rw[←h2,←h2'];exact z3i hb
  have hne:=Ycp h1 hb;generalize wv n a*(val e:Int)=z at *
  generalize val d*val b=D at *
  have c5:=zby (T:=T) (decide (z<0) != m) (ofN z.natAbs) (ofN D) (by omega) (by omega) (by rw[zae];omega);rw[show wv (decide (z<0) != m) (ofN z.natAbs)=sg (decide (z<0) != m) z.natAbs by unfold wv;rw[zae],zae,←e1]at c5;have hdec:decide (fv x'≠0)=true:=by grind
  have hs:((if m=true then (-1:Int) else 1) == 0)=false:=by grind
  rw[hdec];rw[zab Zs.h218 rfl,b218];simp -implicitDefEqProofs[hp,hp',cs,c1,c4,c5,hs]
theorem zqp(x x':Fz)(hx:fsz x≤1000)(hx':fsz x'≤1000):Za T 218 [efz x,efz x']=some (.tup [efz (fz (fv x/fv x')),.b (decide (fv x'≠0))]):=zv9 (T:=T) x x' (Yc hx (by decide)) (Yc hx' (by decide))
end
def nrm(l:List Fz):List Fz:=l.map fun x=>fz (fv x)
def fzs(l:List Rat):List Fz:=l.map fz
theorem zh6{m:List Fz}{n:Nat}(h:m.length=n)(x:Fz):wkL (Zf (List.take n m)++[Zem x])=Zf (m++[x]):=by
 rw[Yb (by omega),zik,zph]
theorem zfo{α β:Type}(l:List α)(f:α→β){i:Nat}(h:i<l.length):(l.take (i+1)).map f=(l.take i).map f++[f (l[i]'h)]:=by
 grind[List.take_succ_eq_append_getElem]
@[simp] theorem zwx:Zbu []=[]:=rfl
def Zhs(q:Rat):List UInt8:=if q.den=1 then Zgz q.num else Zgz q.num++47::Z8 q.den
section
variable{T:Tbl}[Zo T][Zy T][Zz T][Zq T][Zu T][Zai T][Zj T][Zn T][Zs T][Zbz T][Zdu T]
theorem zo7(x:Fz)(hx:fsz x≤900):Za T 251 [efz x]=some (.s (Zhs (fv x))):=by
 have h1:=zc1 (T:=T) x (by omega);have hs:=zgk (x:=x) (L:=900) hx (by decide);generalize fv x=q at *
 have l1:=zfr q;have l2:=zfs q;have e':fz q=(decide (q.num<0),ofN q.num.natAbs,ofN q.den):=rfl;have h2:=zte (T:=T) (decide (q.num<0)) (ofN q.num.natAbs) (by omega);rw[zig]at h2;have h3:=zgg (T:=T) 1 (by decide);have h4:=zf6 (T:=T) (ofN q.den) (ofN 1) (by omega) (by rw[zex];decide);rw[zae,zae]at h4;have h5:Za T 68 [.sl (Zb (ofN q.den)) .an]=some (.s (Z8 q.den)):=by
  rw[p68,zd5 _ (by omega),zae]
 have t1:(Z8 q.den).length≤10000:=by
  grind[zev,zae]
 have t2:(Zgz q.num).length≤20000:=by
  grind[zev,zae,Zgz]
 rw[zab Zdu.h251 rfl,b251];rw[e']at h1;unfold Zhs;obtain⟨D,hD⟩:∃D,D=ofN q.den:=⟨_,rfl⟩;obtain⟨A,hA⟩:∃A,A=ofN q.num.natAbs:=⟨_,rfl⟩;obtain⟨O,hO⟩:∃O,O=ofN 1:=⟨_,rfl⟩;by_cases hd:q.den=1
 ·have hc:Zfm q.den 1=0:=by rw[hd];rfl
  rw[hc]at h4;rw[if_pos hd];simp -implicitDefEqProofs[h1,h2,h3,h4]
 ·have hc:Zfm q.den 1=1:=by
   unfold Zfm;have:=q.den_pos;omega
  rw[hc]at h4;rw[if_neg hd];have b1:1+(Z8 q.den).length≤9223372036854775807:=by omega
  have b2:(Zgz q.num).length+((Z8 q.den).length+1)≤9223372036854775807:=by omega
  simp -implicitDefEqProofs[h1,h2,h3,h4,h5,b1,b2]
def Zp9(n i:Nat):St:=⟨[(3,.bs (.loc 9) 1 3 0 n),(10,.i .i64 n),(11,.i .i64 i)],[(.loc 9,⟨1,.own,3,Zf (List.replicate i (fz 0))++List.replicate (n-i) [.b false,.sl [] .an,.sl [] .an]⟩)],3⟩
def Zqa(l:List Fz)(i:Nat):St:=⟨[(3,.bs (.loc 3) 1 3 0 i),(6,.sl (Zf l) .an),(7,.i .i64 l.length),(8,.i .i64 i)],[(.loc 3,⟨1,.own,3,Zf (nrm (l.take i))⟩)],3⟩
def scl(c:Rat)(l:List Fz):List Fz:=l.map fun x=>fz (c*fv x)
def Zqb(c:Fz)(l:List Fz)(i:Nat):St:=⟨[(2,.ptr (.loc 2) 1 3 0 0),(5,.bs (.loc 5) 2 3 0 i),(8,.sl (Zf l) .an),(9,.i .i64 l.length),(10,.i .i64 i)],[(.loc 2,⟨1,.str,3,[Zem c]⟩),(.loc 5,⟨2,.own,3,Zf (scl (fv c) (l.take i))⟩)],4⟩
def Zjg:List Fz→List Fz→Rat
 | x::a,y::b=>fv x*fv y+Zjg a b
 | _,_=>0
def Zkw(a b:List Fz)(i:Nat):Rat:=Zjg (a.take i) (b.take i)
theorem znb:∀(a b:List Fz) (x y:Fz),a.length=b.length→Zjg (a++[x]) (b++[y])=Zjg a b+fv x*fv y
 | [],[],x,y,_=>by simp[Zjg,Rat.add_zero,Rat.zero_add]
 | u::a,v::b,x,y,h=>by
  have ih:=znb a b x y (by simpa using h);simp only[Ybk,Zjg,ih,Rat.add_assoc]
theorem z9h{a b:List Fz}(hab:a.length=b.length){i:Nat}(hi:i<a.length):Zkw a b (i+1)=Zkw a b i+fv (a[i]'hi)*fv (b[i]'(by omega)):=by
 grind[Zkw,List.take_succ_eq_append_getElem,znb]
abbrev Zgo:List AV:=[.b false,.sl [] .an,.sl [] .an]
def Zqc(a b:List Fz)(i:Nat):St:=⟨[(1,.sl (Zf b) .an),(4,.ptr (.loc 4) 1 3 0 0),(6,.ptr (.loc 6) 2 3 0 0),(16,.sl (Zf a) .an),(17,.i .i64 a.length),(18,.i .i64 i)],
 [(.loc 4,⟨1,.str,3,[Zgo]⟩),(.loc 6,⟨2,.str,3,[Zem (fz (Zkw a b i))]⟩)],4⟩
def Zj0(a b:List Fz)(i:Nat):St:=⟨[(0,.sl (Zf a) .an),(1,.sl (Zf b) .an),(12,.i .i64 a.length),(13,.i .i64 i)],[],2⟩
theorem zwy(a b:List Fz)(hab:a.length=b.length)(hl:a.length≤1000)(ha:∀x∈a,fsz x≤1000)(hb:∀x∈b,fsz x≤1000) :
  Zp T 0 0 (.norm false []) l265_0 (Zj0 a b 0)=if (a.drop 0).map fv=(b.drop 0).map fv then some (.n,⟨[],[],2⟩) else some (.r,⟨[(4,.b false)],[],2⟩):=by
 refine zaw (Zj0 a b) a.length (fun i=>if (a.drop i).map fv=(b.drop i).map fv then some (.n,⟨[],[],2⟩) else some (.r,⟨[(4,.b false)],[],2⟩)) (fun i hi=>?_) ?_
 ·have hib:i<b.length:=by omega
  have hws:=zbj hi (by omega);have c:=zv4 (T:=T) (a[i]'hi) (b[i]'hib) (ha _ (Ys hi)) (hb _ (Ys hib));have hib':(i:Int)<b.length:=by omega
  have key:((a.drop i).map fv=(b.drop i).map fv)↔(fv (a[i]'hi)=fv (b[i]'hib)∧(a.drop (i+1)).map fv=(b.drop (i+1)).map fv):=by
   grind[List.drop_eq_getElem_cons]
  by_cases he:fv (a[i]'hi)=fv (b[i]'hib)
  ·left;refine⟨?_,by grind⟩;unfold Zj0;simp -implicitDefEqProofs[l265_0,hi,hws,c,he,hib,hib']
  ·right;rw[if_neg (fun h=>he (key.1 h).1)];unfold Zj0;constructor<;>simp -implicitDefEqProofs[l265_0,hi,c,he,hib,hib']
 ·rw[Y2,if_pos (by rw[hab,Y2])];unfold Zj0;constructor<;>simp -implicitDefEqProofs[l265_0]
theorem zzx(a b:List Fz)(hl:a.length≤1000)(ha:∀x∈a,fsz x≤1000)(hb:∀x∈b,fsz x≤1000) :
  Za T 265 [.sl (Zf a) .an,.sl (Zf b) .an]=some (.b (decide (a.map fv=b.map fv))):=by
 rw[zab Zdu.h265 rfl,b265];by_cases hab:a.length=b.length
 ·have h:=zwy (T:=T) a b hab hl ha hb;unfold Zj0 at h;simp at h;have hab':(b.length:Int)=a.length:=by omega
  by_cases he:a.map fv=b.map fv
  ·simp -implicitDefEqProofs[hab',h,he]
  ·simp -implicitDefEqProofs[hab',h,he]
 ·have he:¬ a.map fv=b.map fv:=fun h=>hab (by simpa using congrArg List.length h);have hab':¬ (a.length:Int)=b.length:=by omega
  simp -implicitDefEqProofs[hab',he]
def Zet(l:List Fz):List (List UInt8):=l.map fun x=>Zhs (fv x)
def Zkx(l:List Fz)(i:Nat):St:=⟨[(3,.bs (.loc 3) 1 1 0 i),(6,.sl (Zf l) .an),(7,.i .i64 l.length),(8,.i .i64 i)],[(.loc 3,⟨1,.own,1,Zbu (Zet (l.take i))⟩)],3⟩
theorem znc(l:List Fz)(hl:l.length≤1000)(hw:∀x∈l,fsz x≤400) :
  Zp T 0 0 (.norm false [3]) l274_0 (Zkx l 0)=some (.n,⟨[(3,.bs (.loc 3) 1 1 0 l.length)],[(.loc 3,⟨1,.own,1,Zbu (Zet l)⟩)],3⟩):=by
 refine zat (Zkx l) l.length _ (fun i hi=>?_) ?_
 ·have hws:=zbj hi (by omega);have hn:=zo7 (T:=T) (l[i]'hi) (Yc (hw _ (Ys hi)) (by decide));have e:Zet (l.take (i+1))=Zet (l.take i)++[Zhs (fv (l[i]'hi))]:=zfo l _ hi;have hml:(Zet (l.take i)).length=i:=by simp[Zet];omega
  have hp:=ztj (Zet (l.take i)) (Zhs (fv (l[i]'hi)));rw[hml]at hp;unfold Zkx;rw[e];have hb:i≤4294967295:=by omega
  simp -implicitDefEqProofs[l274_0,hi,hws,hn,hp,hml,hb]
 ·unfold Zkx;rw[Yb (Yd _)];constructor<;>simp -implicitDefEqProofs[l274_0]
theorem zwz{q:Rat}(h:sz q≤400):(Zhs q).length≤10000:=by
 have key:∀{a:List UInt32},a.length≤400→(Z8 (val a)).length≤4000:=by
  intro a ha;obtain⟨K,hK⟩:∃K,K=3999:=⟨_,rfl⟩;have h1:=za2 a;have h2:4294967296^a.length≤(10^10)^a.length:=Ydf (by decide) _;rw[←Ycs]at h2;have h3:10^(10*a.length)≤10^(K+1):=Y7 (by decide) (by omega);have h4:=znj (k:=K) (Yl h1 (Yc h2 h3));omega
 grind[zfr,zfs,zae,Zgz,Zhs]
theorem zzy(l:List Fz)(hl:l.length≤1000)(hw:∀x∈l,fsz x≤400):Za T 274 [.sl (Zf l) .an]=some (.s (List.intercalate [44] (Zet l))):=by
 have h:=znc (T:=T) l hl hw;unfold Zkx at h;have e:Zet (l.take 0)=[]:=rfl;rw[e]at h;simp only[zwx,Yy]at h;have hj:Za T 183 [.sl (Zbu (Zet l)) .an,.s [44]]=some (.s (List.intercalate [44] (Zet l))):=by
  grind[p183,ztk,Zet,zwz,zgk]
 have ht:List.take l.length (Zbu (Zet l))=Zbu (Zet l):=Yb (by simp[Zet]);have hl2:(Zet l).length=l.length:=by simp[Zet]
 rw[zab Zdu.h274 rfl,b274];simp -implicitDefEqProofs[h,ht,hl2,hj]
end
theorem zkx{l:List Rat}{i:Nat}{q:Rat}(h:l[i]? = some q):(fzs l)[i]? = some (fz q):=by
 unfold fzs;rw[Yak,h]
 rfl
@[simp] theorem zar(l:List Rat):(fzs l).length=l.length:=by simp[fzs]
theorem zw0(l:List Fz):nrm l=fzs (l.map fv):=by unfold nrm fzs;rw[Ycw];rfl
def Znt(c:Rat)(acc:List Rat)(r:List Fz):List Rat:=List.zipWith (fun q x=>q+c*fv x) acc r
def Zle(acc:List Rat)(r:List Fz):List Rat:=List.zipWith (fun q x=>q+fv x) acc r
section
variable{T:Tbl}[Zo T][Zy T][Zz T][Zq T][Zu T][Zai T][Zj T][Zn T][Zs T][Zbz T][Zdu T]
def Zqd(k j n:Nat)(rest:List (List Fz))(r:List Fz)(L acc:List Rat)(i:Nat):St:=
 ⟨[(4,.bs (.fld (.loc 15) 3) 1 3 0 n),(17,.sl (Za8 rest) .an),(18,.i .i64 k),(19,.i .i64 j),(28,.sl (Zf r) .an),(29,.i .i64 n),(30,.i .i64 i)],
  [(.fld (.loc 15) 3,⟨1,.own,3,Zf (fzs (L.take i++acc.drop i))⟩)],3⟩
def Zqe(n:Nat)(rest:List (List Fz))(acc:List Rat)(j:Nat):St:=
 ⟨[(4,.bs (.fld (.loc 15) 3) 1 3 0 n),(17,.sl (Za8 rest) .an),(18,.i .i64 rest.length),(19,.i .i64 j)],[(.fld (.loc 15) 3,⟨1,.own,3,Zf (fzs ((rest.take j).foldl Zle acc))⟩)],3⟩
end
def Znl(p:List (Fz×List Fz))(acc:List Rat):List Rat:=p.foldl (fun a q=>Znt (fv q.1) a q.2) acc
section
variable{T:Tbl}[Zo T][Zy T][Zz T][Zq T][Zu T][Zai T][Zj T][Zn T][Zs T][Zbz T][Zdu T]
def Zpn(C:List Fz)(k j n:Nat)(l:List (List Fz))(r:List Fz)(L acc:List Rat)(i:Nat):St:=
 ⟨[(0,.sl (Zf C) .an),(10,.bs (.fld (.loc 40) 9) 1 3 0 n),(11,.i .i64 k),(41,.sl (Za8 l) .an),(42,.i .i64 j),(43,.i .i64 k),(54,.sl (Zf r) .an),(55,.i .i64 n),(56,.i .i64 i)],
  [(.fld (.loc 40) 9,⟨1,.own,3,Zf (fzs (L.take i++acc.drop i))⟩)],3⟩
def Zpo(C:List Fz)(n:Nat)(l:List (List Fz))(acc:List Rat)(k:Nat):St:=
 ⟨[(0,.sl (Zf C) .an),(10,.bs (.fld (.loc 40) 9) 1 3 0 n),(41,.sl (Za8 l) .an),(42,.i .i64 l.length),(43,.i .i64 k)],[(.fld (.loc 40) 9,⟨1,.own,3,Zf (fzs (Znl ((C.zip l).take k) acc))⟩)],3⟩
def Zpp(C:List Fz)(l:List (List Fz))(n i:Nat):St:=⟨[(0,.sl (Zf C) .an),(1,.sl (Za8 l) .an),(2,.i .i64 n),(28,.sl (Za8 l) .an),(29,.i .i64 l.length),(30,.i .i64 i)],[],2⟩
end
abbrev agS(t h:Fz)(y0 y1 f0 f1:List Fz):AV:=
 .agg [.b t.1,.sl (Zb t.2.1) .an,.sl (Zb t.2.2) .an,.b h.1,.sl (Zb h.2.1) .an,.sl (Zb h.2.2) .an,.sl (Zf y0) .an,.sl (Zf y1) .an,.sl (Zf f0) .an,.sl (Zf f1) .an]
def Zmo(l:List Fz):Rat:=l.foldl (fun p x=>p*fv x) 1
section
variable{T:Tbl}[Zo T][Zy T][Zz T][Zq T][Zu T][Zai T][Zj T][Zn T][Zs T][Zbz T][Zdu T][Zmd T]
def Zqk(l:List Fz)(i:Nat):St:=⟨[(2,.ptr (.loc 2) 1 3 0 0),(3,.ptr (.loc 3) 2 3 0 0),(7,.sl (Zf l) .an),(8,.i .i64 l.length),(9,.i .i64 i)],[(.loc 2,⟨1,.str,3,[Zgo]⟩),(.loc 3,⟨2,.str,3,[Zem (fz (Zmo (l.take i)))]⟩)],4⟩
def Znv(h:Fz)(y0 y1 f0 f1:List Fz):Bool:=decide (0<fv h)&&decide (y0.length≤300)&&decide (y1.length=y0.length)&&decide (f0.length=y0.length)&&decide (f1.length=y0.length)
end
theorem zji(a b:List AV):wkR (a++b)=wkR a++wkR b:=by rw[zhm,zhm,zhm,Yap]
abbrev tyS:Ty:=.cons tyF (.cons tyF (.cons (.sl tyF) (.cons (.sl tyF) (.cons (.sl tyF) (.cons (.sl tyF) .nil)))))
class Zmb (T:Tbl):Prop where
end Go.Ab
section
namespace Go.Ab
end Go.Ab
end
namespace Go.Ab
section
variable{T:Tbl}
def Zpy(Q:List UInt32)(o n s i:Nat):St:=⟨[(0,.bs (.bor 0) 0 1 o n),(1,.i .i64 s),(5,.i .i64 i)],[(.bor 0,⟨0,.own,1,Zb Q⟩)],4⟩
end
section
variable{T:Tbl}[Zb6 T][Zb7 T][Zbo T][Zb8 T][Zc3 T]
def Zpz(Q R:List UInt32)(o n o2 n2 c i:Nat):St:=⟨[(0,.bs (.bor 0) 0 1 o n),(1,.bs (.bor 1) 1 1 o2 n2),(4,u64 c),(5,.i .i64 i)],[(.bor 0,⟨0,.own,1,Zb Q⟩),(.bor 1,⟨1,.own,1,Zb R⟩)],6⟩
def nmX:BId:=.fld (.loc 12) 22
def nmY:BId:=.fld (.loc 14) 22
def nm2(f:Bool):BId×BId:=if f then (nmX,nmY) else (nmY,nmX)
def Zp0(f:Bool)(P a S P2 b S2:List UInt32)(m n:Nat):St:=
 ⟨[(5,.bs (nm2 f).1 1 1 P.length a.length),(6,.bs (nm2 f).2 2 1 P2.length b.length),(7,.i .i64 m),(8,.i .i64 n)],[((nm2 f).1,⟨1,.own,1,Zb (P++(a++S))⟩),((nm2 f).2,⟨2,.own,1,Zb (P2++(b++S2))⟩)],4⟩
structure Gc where
 f:Bool
 P:List UInt32
 S:List UInt32
 P2:List UInt32
 S2:List UInt32
 X:Nat
 Y:Nat
end
end Go.Ab
section
namespace Go.Ab
end Go.Ab
end
namespace Go.Ab
section
variable{T:Tbl}[Zb6 T][Zb7 T][Zbo T][Zb8 T][Zc3 T][Zdf T][Zcg T]
theorem zf9(x:Fz)(k:Nat):Za T 247 [efz x,.i .i64 k]=some (.b (decide (k<fsz x))):=by
 obtain⟨n,a,d⟩:=x;unfold fsz;rw[zab Zcg.h247 rfl,b247];by_cases h1:k<a.length
 ·have h3:k<max a.length d.length:=by omega
  simp -implicitDefEqProofs[h1,h3]
 ·by_cases h2:k<d.length
  ·have h3:k<max a.length d.length:=by omega
   simp -implicitDefEqProofs[h1,h2,h3]
  ·have h3:¬ k<max a.length d.length:=by omega
   simp -implicitDefEqProofs[h1,h2,h3]
end
section
variable{T:Tbl}[Zb6 T][Zb7 T][Zbo T][Zb8 T][Zc3 T][Zdf T][Zcg T][Zch T]
def Zp2(n i:Nat):St:=⟨[(0,.i .i64 n),(3,.bs (.loc 3) 1 3 0 i),(4,.i .i64 i)],[(.loc 3,⟨1,.own,3,Zf (List.replicate i (fz 0))⟩)],3⟩
def Zp3(l:List Fz)(i:Nat):St:=⟨[(0,.sl (Zf l) .an),(3,.bs (.loc 3) 1 3 0 i),(4,.i .i64 i)],[(.loc 3,⟨1,.own,3,Zf (nrm (l.take i))⟩)],3⟩
def Zp4(a b:List Fz)(i:Nat):St:=⟨[(0,.sl (Zf a) .an),(1,.sl (Zf b) .an),(5,.i .i64 i)],[],2⟩
def Zp5(p q:List Rat)(i:Nat):St:=⟨[(0,.sl (Zf (fzs p)) .an),(1,.sl (Zf (fzs q)) .an),(5,.bs (.loc 5) 1 3 0 i),(6,.i .i64 i)],[(.loc 5,⟨1,.own,3,Zf (fzs ((Zle p (fzs q)).take i))⟩)],3⟩
def Zp6(p q:List Rat)(i:Nat):St:=⟨[(0,.sl (Zf (fzs p)) .an),(1,.sl (Zf (fzs q)) .an),(4,.ptr (.loc 4) 1 3 0 0),(5,.ptr (.loc 5) 2 3 0 0),(6,.i .i64 i)],
 [(.loc 4,⟨1,.str,3,[Zgo]⟩),(.loc 5,⟨2,.str,3,[Zem (fz (Zkw (fzs p) (fzs q) i))]⟩)],4⟩
def Zfb(l:List Fz)(many words:Nat):Bool:=decide (many<l.length) || l.any fun x=>decide (words<fsz x)
def Zg3(l:List Fz)(many words:Nat)(i:Nat):St:=⟨[(0,.sl (Zf l) .an),(1,.i .i64 many),(2,.i .i64 words),(7,.i .i64 i)],[],2⟩
theorem zs0(l:List Fz)(many words:Nat)(hl:l.length≤many)(hm:many≤1000) :
  Zp T 0 0 (.norm false [0,1]) l286_0 (Zg3 l many words 0)=if (l.drop 0).any (fun x=>decide (words<fsz x))=true then some (.r,⟨[(6,.b true)],[],2⟩) else some (.n,⟨[(0,.sl (Zf l) .an),(1,.i .i64 many)],[],2⟩):=by
 refine zaw (Zg3 l many words) l.length (fun i=>if (l.drop i).any (fun x=>decide (words<fsz x))=true then some (.r,⟨[(6,.b true)],[],2⟩) else some (.n,⟨[(0,.sl (Zf l) .an),(1,.i .i64 many)],[],2⟩)) (fun i hi=>?_) ?_
 ·have hga:l[i]? = some (l[i]'hi):=Ya hi;have hws:=zbj hi (by omega);have c:=zf9 (T:=T) (l[i]'hi) words;have h3:(i:Int)<many:=by omega
  have h4:i<many:=by omega
  have key:(l.drop i).any (fun x=>decide (words<fsz x))=(decide (words<fsz (l[i]'hi)) || (l.drop (i+1)).any fun x=>decide (words<fsz x)):=by
   rw[Ym hi,Yef]
  by_cases he:words<fsz (l[i]'hi)
  ·right;rw[if_pos (by rw[key,decide_eq_true he,Bool.true_or])];rw[decide_eq_true he]at c;unfold Zg3;clear key he;constructor<;>simp -implicitDefEqProofs[l286_0,hi,h3,c]
  ·left;refine⟨?_,by grind⟩;rw[decide_eq_false he]at c;unfold Zg3;clear key he;simp -implicitDefEqProofs[l286_0,hi,h3,hws,c]
 ·rw[Y2,if_neg (by simp)];unfold Zg3;constructor<;>simp -implicitDefEqProofs[l286_0]
theorem zs1(l:List Fz)(many words:Nat)(hl:l.length≤many)(hm:many≤1000):Za T 286 [.sl (Zf l) .an,.i .i64 many,.i .i64 words]=some (.b (Zfb l many words)):=by
 have h:=zs0 (T:=T) l many words hl hm;rw[Ybp]at h;unfold Zg3 at h;simp only[Yy]at h;have h1:¬ (many:Int)<l.length:=by omega
 have h2:¬ many<l.length:=by omega
 unfold Zfb;rw[zab Zch.h286 rfl,b286];cases hc:l.any fun x=>decide (words<fsz x) with
 | true=>
  rw[hc,if_pos rfl]at h;simp -implicitDefEqProofs[h,h2]
 | false=>
  rw[hc,if_neg (by decide)]at h;simp -implicitDefEqProofs[h,h1,h2]
theorem zs2(l:List Fz)(many words:Nat)(hl:many<l.length)(hm:many≤1000) :
  ∃r,(r=some (.r,(⟨[(6,.b true)],[],2⟩:St))∨r=some (.n,⟨[(0,.sl (Zf l) .an),(1,.i .i64 many)],[],2⟩))∧Zp T 0 0 (.norm false [0,1]) l286_0 (Zg3 l many words 0)=r:=by
 obtain⟨G,hG⟩:∃G:Nat→Option (Ex×St),G=fun i=>if ((l.take many).drop i).any (fun x=>decide (words<fsz x))=true then some (.r,⟨[(6,.b true)],[],2⟩) else some (.n,⟨[(0,.sl (Zf l) .an),(1,.i .i64 many)],[],2⟩):=⟨_,rfl⟩
 refine⟨G 0,?_,zaw (Zg3 l many words) many G (fun i hi=>?_) ?_⟩
 ·grind
 ·have hil:i<l.length:=by omega
  have hil':(i:Int)<l.length:=by omega
  have hga:l[i]? = some (l[i]'hil):=Ya hil;have hws:=zbj hi (by omega);have c:=zf9 (T:=T) (l[i]'hil) words;have key:((l.take many).drop i).any (fun x=>decide (words<fsz x))=(decide (words<fsz (l[i]'hil)) || ((l.take many).drop (i+1)).any fun x=>decide (words<fsz x)):=by
   grind[List.drop_eq_getElem_cons]
  by_cases he:words<fsz (l[i]'hil)
  ·right;rw[hG];simp only;rw[if_pos (by rw[key,decide_eq_true he,Bool.true_or])];rw[decide_eq_true he]at c;unfold Zg3;clear key he hG;constructor<;>simp -implicitDefEqProofs[l286_0,hi,hil,hil',c]
  ·left;refine⟨?_,by grind⟩;rw[decide_eq_false he]at c;unfold Zg3;clear key he hG;simp -implicitDefEqProofs[l286_0,hi,hil,hil',hws,c]
 ·rw[hG];simp only;rw[Ya4 (by grind),if_neg (by simp)];have h1:(many:Int)<l.length:=by omega
  unfold Zg3;constructor<;>simp -implicitDefEqProofs[l286_0,h1]
theorem zo5(l:List Fz)(many words:Nat)(hl:many<l.length)(hm:many≤1000):Za T 286 [.sl (Zf l) .an,.i .i64 many,.i .i64 words]=some (.b true):=by
 obtain⟨r,hr,h⟩:=zs2 (T:=T) l many words hl hm;unfold Zg3 at h;simp only[Yy]at h;have h1:(many:Int)<l.length:=by omega
 rw[zab Zch.h286 rfl,b286];rcases hr with rfl | rfl
 ·simp -implicitDefEqProofs[h]
 ·simp -implicitDefEqProofs[h,hl]
theorem zh4(l:List Fz)(many words:Nat)(hm:many≤1000):Za T 286 [.sl (Zf l) .an,.i .i64 many,.i .i64 words]=some (.b (Zfb l many words)):=by
 grind[zo5,Zfb,zs1]
theorem zh5{l:List Fz}{many words:Nat}(h:Zfb l many words=false):l.length≤many∧∀x∈l,fsz x≤words:=by
 grind[Zfb]
end
def Zjh(n:Int):Nat:=(min (max n 0) 300).toNat
section
variable{T:Tbl}[Zo T][Zy T][Zz T][Zq T][Zu T][Zai T][Zj T][Zn T][Zs T][Zbz T][Zdu T]
def Zo1(n i:Int):List Rat:=if 0≤i∧i<Zjh n then (List.replicate (Zjh n) 0).set i.toNat 1 else List.replicate (Zjh n) 0
end
section
variable{T:Tbl}[Zb6 T][Zb7 T][Zbo T][Zb8 T][Zc3 T][Zdf T][Zcg T][Zch T]
def Zo2(n:Int)(i:Nat):St:=⟨[(0,.i .i64 n),(3,.bs (.loc 3) 1 3 0 i),(4,.i .i64 i)],[(.loc 3,⟨1,.own,3,Zf (List.replicate i (fz 0))⟩)],3⟩
end
class Zkk (T:Tbl):Prop where
theorem zwd{α:Type}(l:List α){i:Nat}(h:i<l.length):l.take (i+1)=l.take i++[l[i]'h]:=Ybd h
section
variable{T:Tbl}[Zb6 T][Zb7 T][Zbo T][Zb8 T][Zc3 T][Zdf T][Zcg T][Zch T][Zds T][Zdt T]
theorem zqr(x:Fz):Za T 248 [efz x]=some (efz x):=by
 rw[zab Zds.h248 rfl,b248];simp -implicitDefEqProofs
def Zhr(l:List Fz)(i:Nat):St:=⟨[(0,.sl (Zf l) .an),(3,.bs (.loc 3) 1 3 0 i),(4,.i .i64 i)],[((.loc 3),⟨1,.own,3,Zf (l.take i)⟩)],3⟩
theorem zwe(l:List Fz)(hl:l.length≤4294967296) :
  Zp T 0 0 (.norm false [3]) l287_0 (Zhr l 0)=some (.n,⟨[(3,.bs (.loc 3) 1 3 0 (l.length))],[((.loc 3),⟨1,.own,3,Zf (l.take (l.length))⟩)],3⟩):=by
 refine zat (Zhr l) (l.length) _ (fun i hi=>?_) ?_
 ·have hws:=zbj hi (by omega);have hb:i≤4294967295:=by omega
  have hg:l[i]? = some (l[i]'hi):=Ya hi;have hn:=zqr (T:=T) (l[i]'hi);have e:=zwd l hi;have hml:(l.take i).length=i:=by simp;omega
  have hp:=zh6 hml (l[i]'hi);unfold Zhr;rw[e];clear e;generalize l.take i=M at *
  simp -implicitDefEqProofs[l287_0,hi,hws,hb,hp,hml,hg,hn]
 ·unfold Zhr;rw[Yb (Yd _)];constructor<;>simp -implicitDefEqProofs[l287_0]
theorem zqs(l:List Fz)(hl:l.length≤4294967296):Za T 287 [.sl (Zf l) .an]=some (.sl (Zf l) .an):=by
 have h:=zwe (T:=T) l hl;unfold Zhr at h;rw[Yct,Yb (Yd _)]at h;simp only[zdr,Yy]at h;have ht:List.take l.length l=l:=Yb (Yd _);rw[zab Zdt.h287 rfl,b287];simp -implicitDefEqProofs[h,ht]
def Zni(l:List Fz)(i:Nat):St:=⟨[(0,.sl (Zf l) .an),(3,.bs (.loc 3) 1 3 0 i),(4,.i .i64 i)],[((.loc 3),⟨1,.own,3,Zf (l.take i)⟩)],3⟩
end
def Zl6:List (List Fz)→Nat
 | []=>0
 | r::_=>r.length
def Zne(m:List (List Fz)):Bool:=m.all fun r=>decide (r.length=Zl6 m)
def Zmi(m:List (List Fz))(j:Nat):List Fz:=m.map fun r=>r.getD j (false,[],[])
def Zmj(m:List (List Fz))(k:Nat):List (List Fz):=(List.range k).map fun j=>nrm (Zmi m j)
def scM(r:List Fz)(m:List (List Fz)):List (List Fz):=List.zipWith (fun x row=>scl (fv x) row) r m
def Znf:List (List Fz)→List Rat
 | []=>[]
 | r::m=>m.foldl Zle (r.map fv)
def Zmk(r:List Fz)(m:List (List Fz)):List Rat:=Znf (scM r m)
def Zl7(m:List (List Fz))(c:List Fz):List Rat:=m.map fun r=>Zjg r c
section
variable{T:Tbl}[Zo T][Zy T][Zz T][Zq T][Zu T][Zai T][Zj T][Zn T][Zs T][Zbz T][Zdu T][Zkk T]
def Zob(m:List (List Fz))(i:Nat):St:=⟨[(0,.sl (Za8 m) .an),(5,.sl (Za8 m) .an),(6,.i .i64 m.length),(7,.i .i64 i)],[],2⟩
def Zoc(a b:List (List Fz))(i:Nat):St:=⟨[(1,.sl (Za8 b) .an),(12,.sl (Za8 a) .an),(13,.i .i64 a.length),(14,.i .i64 i)],[],2⟩
def idQ(k:Nat)(i:Nat):List (List Fz):=(List.range i).map fun j=>fzs ((List.replicate k 0).set j 1)
def Zod(k:Nat)(i:Nat):St:=⟨[(0,.i .i64 k),(3,.bs (.loc 3) 1 1 0 i),(8,.i .i64 k),(9,.i .i64 i)],[((.loc 3),⟨1,.own,1,Za8 (idQ k i)⟩)],3⟩
def Zoe(m R:List (List Fz))(k j:Nat)(i:Nat):St:=⟨[(0,.sl (Za8 m) .an),(3,.bs (.loc 3) 1 1 0 j),(4,.i .i64 j),(5,.bs (.loc 5) 2 3 0 i),(12,.i .i64 k),(13,.i .i64 j),(16,.sl (Za8 m) .an),(17,.i .i64 m.length),(18,.i .i64 i)],[(.loc 3,⟨1,.own,1,Za8 R⟩),((.loc 5),⟨2,.own,3,Zf (nrm (Zmi (m.take i) j))⟩)],4⟩
def Zm3(m:List (List Fz))(k:Nat)(i:Nat):St:=⟨[(0,.sl (Za8 m) .an),(3,.bs (.loc 3) 1 1 0 i),(12,.i .i64 k),(13,.i .i64 i)],[((.loc 3),⟨1,.own,1,Za8 (Zmj m i)⟩)],3⟩
end
section
variable{T:Tbl}[Zo T][Zy T][Zz T][Zq T][Zu T][Zai T][Zj T][Zn T][Zs T][Zbz T][Zdu T][Zkk T]
def Zof(r:List Fz)(m:List (List Fz))(i:Nat):St:=⟨[(0,.sl (Zf r) .an),(6,.bs (.loc 6) 1 1 0 i),(19,.sl (Za8 m) .an),(20,.i .i64 m.length),(21,.i .i64 i)],[((.loc 6),⟨1,.own,1,Za8 (scM (r.take i) (m.take i))⟩)],3⟩
def Zog(m:List (List Fz))(c:List Fz)(i:Nat):St:=⟨[(1,.sl (Zf c) .an),(6,.bs (.loc 6) 1 3 0 i),(21,.sl (Za8 m) .an),(22,.i .i64 m.length),(23,.i .i64 i)],[((.loc 6),⟨1,.own,3,Zf (fzs (Zl7 (m.take i) c))⟩)],3⟩
def Zng(a b:List (List Fz)):List (List Fz):=a.map fun r=>fzs (Zmk r b)
def Zoh(a m:List (List Fz))(i:Nat):St:=⟨[(1,.sl (Za8 m) .an),(6,.bs (.loc 6) 1 1 0 i),(26,.sl (Za8 a) .an),(27,.i .i64 a.length),(28,.i .i64 i)],[((.loc 6),⟨1,.own,1,Za8 (Zng (a.take i) m)⟩)],3⟩
def Znh(a b:List (List Fz)):List (List Fz):=List.zipWith (fun r s=>fzs (Zle (r.map fv) s)) a b
def Zoi(a m:List (List Fz))(i:Nat):St:=⟨[(1,.sl (Za8 m) .an),(6,.bs (.loc 6) 1 1 0 i),(33,.sl (Za8 a) .an),(34,.i .i64 a.length),(35,.i .i64 i)],[((.loc 6),⟨1,.own,1,Za8 (Znh (a.take i) (m.take i))⟩)],3⟩
end
def Zmw:List Rat→List Rat→Rat
 | x::a,y::b=>x*y+Zmw a b
 | _,_=>0
def Zn0(m:List (List Fz)):List (List Rat):=m.map fun r=>r.map fv
def fzM(L:List (List Rat)):List (List Fz):=L.map fzs
def Zk4:List (List Rat)→Nat
 | []=>0
 | r::_=>r.length
def Zn1(L:List (List Rat)):Bool:=L.all fun r=>decide (r.length=Zk4 L)
def Zl8(L:List (List Rat))(j:Nat):List Rat:=L.map fun p=>p.getD j 0
def Zmx(L:List (List Rat)):List (List Rat):=(List.range (Zk4 L)).map (Zl8 L)
def Zk5(L:List (List Rat))(c:List Rat):List Rat:=L.map fun p=>Zmw p c
def Zo6(r:List Rat)(L:List (List Rat)):List Rat:=Zk5 (Zmx L) r
def Zmh(q:Rat):Rat:=if q<0 then -q else q
def Zm1(c:Rat)(l:List Rat):List Rat:=l.map fun x=>c*x
def Zn5(a b:List Rat):List Rat:=List.zipWith (· + ·) a b
def Zli(b x:Rat):Rat:=if b<Zmh x then Zmh x else b
def Zlz(l:List Rat):Rat:=l.foldl Zli 0
def Zn6:List (Rat×List Rat)→List Rat→List Rat
 | [],acc=>acc
 | p::l,acc=>Zn6 l (Zn5 acc (Zm1 p.1 p.2))
def sqC:List UInt32→Nat
 | []=>0
 | x::r=>4294967296*(x.toNat*val r)+4294967296*4294967296*sqC r
def sqD:List UInt32→Nat
 | []=>0
 | x::r=>x.toNat*x.toNat+4294967296*4294967296*sqD r
section
variable{T:Tbl}[Z5 T][Zo T][Zy T][Zz T][Zcl T]
theorem zqw(a:List UInt32)(ha:a.length≤1000000):Za T 356 [.sl (Zb a) .an]=some (.i .i64 (Za6 (val a))):=by
 have h1:=zbd (T:=T) a (by omega);have hl:=zad a;have hv:val (ofN (val a))=val a:=zae _;rw[zab Zcl.h356 rfl,b356];by_cases h0:val a=0
 ·have e:ofN (val a)=[]:=zba.2 h0;have eb:Za6 (val a)=0:=by rw[h0];rfl
  rw[e]at h1;rw[eb];simp -implicitDefEqProofs[h1]
 ·have hne:ofN (val a)≠[]:=fun h=>h0 (zba.1 h);obtain⟨B,x,hB⟩:∃B x,ofN (val a)=B++[x]:=⟨_,_,(List.dropLast_concat_getLast hne).symm⟩;have hx0:x.toNat≠0:=by
   intro hx;have e1:val (ofN (val a))=val B:=by
    rw[hB,zak];simp[hx]
   have e2:ofN (val B)=ofN (val a):=by rw[←e1,zae]
   have e3:=zad B;rw[e2,hB]at e3;simp at e3;omega
  have hlog:Za6 (val a)=32*B.length+Za6 x.toNat:=by
   have hdiv:val a/2^(32*B.length)=x.toNat:=by
    have e1:val a=val B+4294967296^B.length*x.toNat:=by
     rw[←hv,hB,zak];simp
    have e2:2^(32*B.length)=4294967296^B.length:=by
     rw[Ycs]
    have e3:=za2 B;rw[e2,e1,Yc8 _ _ (by omega),Ybw e3,Yan]
   have:=zjr (n:=val a) (s:=32*B.length) (by rw[hdiv];exact hx0);rw[hdiv]at this;exact this
  have hbl:B.length+1≤1000000:=by
   have:=congrArg List.length hB;simp at this;omega
  have hL:=zqv (T:=T) x;have hb32:Za6 x.toNat≤32:=by
   have hx:=zam x;unfold Za6;split
   ·omega
   ·have:=(Ydt (n:=x.toNat) (k:=32) (by assumption)).2 (by omega);omega
  rw[hB]at h1;rw[hlog];have w2:IntKind.wrap .i64 (32*(B.length:Int))=32*(B.length:Int):=zac _ (by omega);have w3:IntKind.wrap .i64 (32*(B.length:Int)+(Za6 x.toNat:Int))=32*(B.length:Int)+(Za6 x.toNat:Int):=zac _ (by omega);have w4:IntKind.wrap .i64 (B.length:Int)=B.length:=zac _ (by omega);have n1:¬ (B.length:Int)+1=0:=by omega
  have n2:(B.length:Int)<(B.length:Int)+1:=by omega
  simp -implicitDefEqProofs[h1,hL,w2,w3,w4,n1,n2]
def Zop(a X:List UInt32)(i:Nat):St:=
 ⟨[(0,.sl (Zb a) .an),(3,.bs (.loc 14) 1 1 0 (2*a.length+1)),(15,.sl (Zb a) .an),(16,.i .i64 a.length),(17,.i .i64 i)],[(.loc 14,⟨1,.own,1,Zb (X++List.replicate (a.length+1-i) 0)⟩)],3⟩
def Zoq(a X:List UInt32)(U:List (List AV))(i:Nat):St:=
 ⟨[(6,.sl U .an),(7,.bs (.loc 38) 1 1 0 (2*a.length)),(39,.sl (Zb a) .an),(40,.i .i64 a.length),(41,.i .i64 i)],[(.loc 38,⟨1,.own,1,Zb (X++List.replicate (2*a.length-2*i) 0)⟩)],3⟩
end
class Zl4 (T:Tbl):Prop where
class Zkl (T:Tbl):Prop where
section
variable{T:Tbl}[Zb6 T][Zb7 T][Zbo T][Zb8 T][Zc3 T][Zdf T][Zcg T][Zch T][Zkl T]
def Zot(m:List (List Fz))(i:Nat):St:=⟨[(0,.sl (Za8 m) .an),(3,.i .i64 i)],[],2⟩
def Zou(m:List (List Fz))(i:Nat):St:=⟨[(0,.sl (Za8 m) .an),(3,.bs (.loc 3) 1 1 0 i),(4,.i .i64 i)],[((.loc 3),⟨1,.own,1,Za8 (fzM (Zn0 (m.take i)))⟩)],3⟩
def Zov(a b:List (List Fz))(i:Nat):St:=⟨[(0,.sl (Za8 a) .an),(1,.sl (Za8 b) .an),(5,.i .i64 i)],[],2⟩
def Zow(n:Int)(k:Nat)(i:Nat):St:=⟨[(0,.i .i64 n),(3,.bs (.loc 3) 1 1 0 i),(4,.i .i64 i)],[((.loc 3),⟨1,.own,1,Za8 (idQ k i)⟩)],3⟩
def Znr(L:List (List Rat))(R:List (List Fz))(j:Nat)(i:Nat):St:=⟨[(0,.sl (Za8 (fzM L)) .an),(3,.bs (.loc 3) 1 1 0 j),(4,.i .i64 j),(5,.bs (.loc 5) 2 3 0 i),(6,.i .i64 i)],[(.loc 3,⟨1,.own,1,Za8 R⟩),((.loc 5),⟨2,.own,3,Zf (fzs (Zl8 (L.take i) j))⟩)],4⟩
def Zns(L:List (List Rat))(i:Nat):St:=⟨[(0,.sl (Za8 (fzM L)) .an),(3,.bs (.loc 3) 1 1 0 i),(4,.i .i64 i)],[((.loc 3),⟨1,.own,1,Za8 (fzM ((List.range i).map (Zl8 L)))⟩)],3⟩
def Zox(L:List (List Rat))(c:List Rat)(i:Nat):St:=⟨[(0,.sl (Za8 (fzM L)) .an),(1,.sl (Zf (fzs c)) .an),(5,.bs (.loc 5) 1 3 0 i),(6,.i .i64 i)],[((.loc 5),⟨1,.own,3,Zf (fzs (Zk5 (L.take i) c))⟩)],3⟩
def Zoy(m:List (List Fz))(many words:Nat):Bool:=decide (many<m.length) || m.any fun r=>Zfb r many words
def Zoz(m:List (List Fz))(many words:Nat)(i:Nat):St:=⟨[(0,.sl (Za8 m) .an),(1,.i .i64 many),(2,.i .i64 words),(7,.i .i64 i)],[],2⟩
end
theorem z9d{l:List Rat}{B:Nat}(h:∀q∈l,sz q≤B):∀x∈fzs l,fsz x≤B:=by
 intro x hx;obtain⟨q,hq,rfl⟩:=Yz.1 hx;exact h q hq
section
variable{T:Tbl}[Zo T][Zy T][Zz T][Zq T][Zu T][Zai T][Zj T][Zn T][Zs T][Zbz T][Zdu T][Zkk T][Zb6 T][Zb7 T][Zbo T][Zb8 T][Zc3 T][Zdf T][Zcg T][Zch T][Zkl T][Zds T][Zdt T][Zl4 T]
def Znj(m:List (List Fz))(i:Nat):St:=⟨[(0,.sl (Za8 m) .an),(3,.bs (.loc 3) 1 1 0 i),(4,.i .i64 i)],[((.loc 3),⟨1,.own,1,Za8 (m.take i)⟩)],3⟩
def Znk(a b:List (List Fz))(i:Nat):St:=⟨[(0,.sl (Za8 a) .an),(1,.sl (Za8 b) .an),(5,.i .i64 i)],[],2⟩
theorem zaic{q:Rat}(h1:q.num.natAbs<4294967296)(h2:q.den<4294967296):sz q≤1:=Ydo.2 ⟨zap (by omega),zap (by omega)⟩
end
class Zma (T:Tbl):Prop where
def Zmm(l:List Rat):Nat→Nat
 | 0=>0
 | n+1=>if l.getD n 0=0 then Zmm l n else n+1
def Zoo(l:List Rat):List Rat:=l.take (Zmm l l.length)
section
variable{T:Tbl}[Zo T][Zy T][Zz T][Zq T][Zu T][Zai T][Zj T][Zn T][Zs T][Zbz T][Zdu T][Zma T]
def Znn:List Rat→Rat→Rat
 | [],_=>0
 | a::l,x=>Znn l x*x+a
def dif(l:List Rat):List Rat:=(List.range (l.length-1)).map fun(i:Nat)=>(((i:Int)+1:Int):Rat)*l.getD (i+1) 0
def Zps(l:List Fz)(i:Nat):St:=⟨[(0,.sl (Zf l) .an),(3,.bs (.loc 3) 1 3 0 i),(4,.i .i64 ((i:Int)+1))],[((.loc 3),⟨1,.own,3,Zf (fzs ((dif (l.map fv)).take i))⟩)],3⟩
end
def Zd9(x:Fz):Nat:=Za6 (val x.2.1)+Za6 (val x.2.2)
def Znu(l:List Fz):Nat:=l.foldl (fun n x=>max n (Zd9 x)) 0
theorem zqx{x k:Nat}(h:(ofN x).length≤k):Za6 x≤32*k:=by
 unfold Za6;split
 ·omega
 ·next h0=>
  have h1:=za2 (ofN x);rw[zae]at h1;have h2:4294967296^(ofN x).length≤4294967296^k:=Y7 (by decide) h;have h3:(4294967296:Nat)^k=2^(32*k):=by rw[Ycs]
  have:=(Ydt (n:=x) (k:=32*k) h0).2 (by omega);omega
section
variable{T:Tbl}[Z5 T][Zo T][Zy T][Zz T][Zq T][Zu T][Zai T][Zj T][Zn T][Zs T][Za5 T][Zan T][Zcl T][Zbz T][Zdu T][Zlp T]
def Zmn(b c:Rat)(i:Nat):Rat:=if i=0 then 0 else if i=1 then b else (if b<c then c else b)
def Zqf(b c:Rat)(i:Nat):St:=⟨[(2,.ptr (.loc 2) 1 3 0 0),(3,.ptr (.loc 3) 2 3 0 0),(7,.sl [Zem (fz b),Zem (fz c)] .an),(8,.i .i64 2),(9,.i .i64 i)],
 [(.loc 2,⟨1,.str,3,[Zgo]⟩),(.loc 3,⟨2,.str,3,[Zem (fz (Zmn b c i))]⟩)],4⟩
def Zqg(l:List Fz)(i:Nat):St:=⟨[(2,.ptr (.loc 2) 1 3 0 0),(3,.ptr (.loc 3) 2 3 0 0),(7,.sl (Zf l) .an),(8,.i .i64 l.length),(9,.i .i64 i)],
 [(.loc 2,⟨1,.str,3,[Zgo]⟩),(.loc 3,⟨2,.str,3,[Zem (fz (Zlz ((l.map fv).take i)))]⟩)],4⟩
def Zqh(l:List Fz)(i:Nat):St:=⟨[(3,.i .i64 (Znu (l.take i))),(6,.sl (Zf l) .an),(7,.i .i64 l.length),(8,.i .i64 i)],[],2⟩
end
section
variable{T:Tbl}[Zb6 T][Zb7 T][Zbo T][Zb8 T][Zc3 T][Zdf T][Zcg T][Zch T][Zmb T]
def Zqi(c:Rat)(p:List Rat)(i:Nat):St:=⟨[(1,.sl (Zf (fzs p)) .an),(2,.ptr (.loc 2) 1 3 0 0),(5,.bs (.loc 5) 2 3 0 i),(6,.i .i64 i)],
 [(.loc 2,⟨1,.str,3,[Zem (fz c)]⟩),(.loc 5,⟨2,.own,3,Zf (fzs ((Zm1 c p).take i))⟩)],4⟩
def Zqj(p:List Rat)(i:Nat):St:=⟨[(0,.sl (Zf (fzs p)) .an),(2,.ptr (.loc 2) 1 3 0 0),(3,.ptr (.loc 3) 2 3 0 0),(4,.i .i64 i)],
 [(.loc 2,⟨1,.str,3,[Zgo]⟩),(.loc 3,⟨2,.str,3,[Zem (fz (Zlz (p.take i)))]⟩)],4⟩
end
structure Ins where
 op:Int
 a:Int
 b:Int
 n:Fz
abbrev Zeb(i:Ins):List AV:=[.i .i64 i.op,.i .i64 i.a,.i .i64 i.b,.b i.n.1,.sl (Zb i.n.2.1) .an,.sl (Zb i.n.2.2) .an]
def Zcz(l:List Ins):List (List AV):=l.map Zeb
@[simp] theorem zpj(l:List Ins):(Zcz l).length=l.length:=by simp[Zcz]
@[simp] theorem zail(l:List Ins):wkL (Zcz l)=Zcz l:=by rw[zb4];simp[Zcz,wkR,wkA]
@[simp] theorem zadi(l:List Ins)(i:Nat)(h:i<(Zcz l).length):(Zcz l)[i]=Zeb (l[i]'(by simpa using h)):=by simp[Zcz]
theorem zx3(l:List Ins)(x:Ins):Zcz l++[Zeb x]=Zcz (l++[x]):=by simp[Zcz]
@[simp] theorem z93(l:List Ins)(n:Nat):(Zcz l).take n=Zcz (l.take n):=by simp[Zcz]
@[simp] theorem zadj:Zcz []=[]:=rfl
structure Tp where
 code:List Ins
 outs:List Int
 dim:Int
 par:Int
abbrev etp(t:Tp):AV:=.agg [.sl (Zcz t.code) .an,.sl (ints t.outs) .an,.i .i64 t.dim,.i .i64 t.par]
def Zhv(x:Fz):Bool:=decide (x=fz (fv x))
def Zhw(x:Fz):Bool:=!x.1&&x.2.1.isEmpty&&x.2.2.isEmpty
def Z2(i:Ins):List Int:=if i.op=6∨i.op=11 then [i.a] else if 7≤i.op∧i.op≤10 then [i.a,i.b] else []
def Zw(i m:Int):Bool:=decide (0≤i)&&decide (i<m)
def Zbq(dim par p:Int)(i:Ins):Bool:=
 if i.op=1 then decide (i.a=0)&&decide (i.b=0)&&Zhv i.n
 else Zhw i.n&&(Z2 i).all (fun r=>Zw r p) &&
  (if i.op=2 then decide (i.a=0)&&decide (i.b=0)
   else if i.op=3 then Zw i.a dim&&decide (i.b=0)
   else if i.op=4 then Zw i.a par&&decide (i.b=0)
   else if i.op=6 then decide (i.b=0)
   else if i.op=11 then decide (-8≤i.b)&&decide (i.b≤8)
   else decide ((Z2 i).length=2))
def Zca(dim par:Int):Nat→List Ins→Int
 | _,[]=>-1
 | p,i::r=>if Zbq dim par p i then Zca dim par (p+1) r else p
def Zen(t:Tp):Bool:=Zw (t.dim-1) 6&&Zw t.par 7&&decide ((t.outs.length:Int)=t.dim)&&decide (t.code.length≤300)
def Zgp(t:Tp):Int:=
 if Zen t=false then -2 else if Zca t.dim t.par 0 t.code≠-1 then Zca t.dim t.par 0 t.code
 else if (t.outs.all fun o=>Zw o t.code.length)=false then t.code.length else -1
def okT(t:Tp):Bool:=decide (Zgp t=-1)
theorem zj4(dim par:Int):∀(l:List Ins) (p:Nat),Zca dim par p l=-1↔∀(k:Nat) (i:Ins),l[k]? = some i→Zbq dim par (p+k:Nat) i=true
 | [],p=>by simp[Zca]
 | x::l,p=>by
  have ih:=zj4 dim par l (p+1);unfold Zca;by_cases h:Zbq dim par p x=true
  ·rw[if_pos h,ih];constructor
   ·intro H k i hk;cases k with
    | zero=>simp only[Ybb,Option.some.injEq]at hk;subst hk;simpa using h
    | succ k=>have:=H k i (by simpa using hk);rwa [show p+1+k=p+(k+1) by omega]at this
   ·intro H k i hk;have:=H (k+1) i (by simpa using hk)
    rwa [show p+(k+1)=p+1+k by omega]at this
  ·rw[if_neg h];constructor
   ·intro H;omega
   ·intro H;exact absurd (by simpa using H 0 x rfl) h
structure OkTp (t:Tp):Prop where
 d1:1≤t.dim
 d2:t.dim≤6
 p1:0≤t.par
 p2:t.par≤6
 ol:(t.outs.length:Int)=t.dim
 cl:t.code.length≤300
 may:∀(k:Nat) (i:Ins),t.code[k]? = some i→Zbq t.dim t.par k i=true
 outs:∀o∈t.outs,0≤o∧o<t.code.length
theorem zgd(t:Tp):okT t=true↔OkTp t:=by
 unfold okT Zgp;rw[decide_eq_true_eq];by_cases h1:Zen t=false
 ·rw[if_pos h1];constructor
  ·intro h;omega
  ·intro h;exfalso;have:Zen t=true:=by
    have:=h.d1;have:=h.d2;have:=h.p1;have:=h.p2;simp only[Zen,Zw,Yk,decide_eq_true_eq];exact⟨⟨⟨⟨by omega,by omega⟩,by omega,by omega⟩,h.ol⟩,h.cl⟩
   rw[this]at h1;cases h1
 ·have hw:Zen t=true:=by simpa using h1
  rw[if_neg h1];simp only[Zen,Zw,Yk,decide_eq_true_eq]at hw;obtain⟨⟨⟨⟨a1,a2⟩,a3,a4⟩,a5⟩,a6⟩:=hw;have hf:=zj4 t.dim t.par t.code 0;by_cases h2:Zca t.dim t.par 0 t.code≠-1
  ·rw[if_pos h2];constructor
   ·intro h;exact absurd h h2
   ·intro h;exact absurd (hf.2 fun k i hk=>by rw[Yan];exact h.may k i hk) h2
  ·have h2':Zca t.dim t.par 0 t.code=-1:=by simpa using h2
   rw[if_neg h2];by_cases h3:(t.outs.all fun o=>Zw o t.code.length)=false
   ·rw[if_pos h3];constructor
    ·intro h;omega
    ·intro h;exfalso;have:(t.outs.all fun o=>Zw o t.code.length)=true:=Yn.2 fun o ho=>by
      have:=h.outs o ho;simp only[Zw,Yk,decide_eq_true_eq];exact this
     rw[this]at h3;cases h3
   ·rw[if_neg h3];have h3':(t.outs.all fun o=>Zw o t.code.length)=true:=by simpa using h3
    refine⟨fun _=>⟨by omega,by omega,a3,by omega,a5,a6,fun k i hk=>by have:=hf.1 h2' k i hk;rwa [Yan]at this,fun o ho=>?_⟩,fun _=>rfl⟩;have:=Yn.1 h3' o ho;simpa only[Zw,Yk,decide_eq_true_eq]using this
theorem z94{dim par:Int}{p:Nat}{i:Ins}(h:Zbq dim par p i=true)(ho:i.op=6∨i.op=11∨(7≤i.op∧i.op≤10)):0≤i.a∧i.a<p:=by
 unfold Zbq at h;rw[if_neg (by omega)]at h;simp only[Yk,Yn]at h;have:=h.1.2 i.a (by
  unfold Z2;by_cases h1:i.op=6∨i.op=11
  ·rw[if_pos h1];simp
  ·rw[if_neg h1,if_pos (by omega)];simp)
 simpa only[Zw,Yk,decide_eq_true_eq]using this
theorem z95{dim par:Int}{p:Nat}{i:Ins}(h:Zbq dim par p i=true)(ho:7≤i.op∧i.op≤10):0≤i.b∧i.b<p:=by
 unfold Zbq at h;rw[if_neg (by omega)]at h;simp only[Yk,Yn]at h;have:=h.1.2 i.b (by
  unfold Z2;rw[if_neg (by omega),if_pos ho];simp)
 simpa only[Zw,Yk,decide_eq_true_eq]using this
theorem zx4{dim par:Int}{p:Nat}{i:Ins}(h:Zbq dim par p i=true):i.op=1∨i.op=2∨i.op=3∨i.op=4∨i.op=6∨i.op=7∨i.op=8∨i.op=9∨i.op=10∨i.op=11:=by
 unfold Zbq at h;by_cases h1:i.op=1
 ·exact .inl h1
 rw[if_neg h1]at h;by_cases h2:i.op=2
 ·omega
 by_cases h3:i.op=3
 ·omega
 by_cases h4:i.op=4
 ·omega
 by_cases h6:i.op=6
 ·omega
 by_cases h11:i.op=11
 ·omega
 rw[if_neg h2,if_neg h3,if_neg h4,if_neg h6,if_neg h11]at h;simp only[Yk,decide_eq_true_eq]at h;have h2':=h.2;by_cases hr:7≤i.op∧i.op≤10
 ·omega
 ·have e:Z2 i=[]:=by
   unfold Z2;rw[if_neg (by omega),if_neg hr]
  rw[e]at h2';simp at h2'
theorem zaim{dim par:Int}{p:Nat}{i:Ins}(h:Zbq dim par p i=true)(ho:i.op=3):0≤i.a∧i.a<dim:=by
 unfold Zbq at h;rw[if_neg (by omega),if_neg (by omega),if_pos ho]at h;simp only[Yk,decide_eq_true_eq,Zw]at h;exact h.2.1
theorem zain{dim par:Int}{p:Nat}{i:Ins}(h:Zbq dim par p i=true)(ho:i.op=4):0≤i.a∧i.a<par:=by
 unfold Zbq at h;rw[if_neg (by omega),if_neg (by omega),if_neg (by omega),if_pos ho]at h;simp only[Yk,decide_eq_true_eq,Zw]at h;exact h.2.1
theorem z96{dim par:Int}{p:Nat}{i:Ins}(h:Zbq dim par p i=true)(ho:i.op=11):-8≤i.b∧i.b≤8:=by
 unfold Zbq at h;rw[if_neg (by omega),if_neg (by omega),if_neg (by omega),if_neg (by omega),if_neg (by omega),if_pos ho]at h;simp only[Yk,decide_eq_true_eq]at h;exact h.2
structure Po where
 t:Rat
 y:List Rat
 p:List Rat
structure PoF where
 t:Fz
 y:List Fz
 p:List Fz
def PoF.v(x:PoF):Po:=⟨fv x.t,x.y.map fv,x.p.map fv⟩
def Po.f(x:Po):PoF:=⟨fz x.t,fzs x.y,fzs x.p⟩
abbrev ept(x:PoF):AV:=.agg [.b x.t.1,.sl (Zb x.t.2.1) .an,.sl (Zb x.t.2.2) .an,.sl (Zf x.y) .an,.sl (Zf x.p) .an]
def gI(l:List Rat)(i:Int):Rat:=l.getD i.toNat 0
def Zh0(x:Rat)(e:Int):Rat:=x^e
def Zr(P:Po)(D:List Rat)(i:Ins):Rat×Bool:=
 if i.op=1 then (fv i.n,true)
 else if i.op=3 then (gI P.y i.a,true)
 else if i.op=4 then (gI P.p i.a,true)
 else if i.op=6 then (-gI D i.a,true)
 else if i.op=7 then (gI D i.a+gI D i.b,true)
 else if i.op=8 then (gI D i.a-gI D i.b,true)
 else if i.op=9 then (gI D i.a*gI D i.b,true)
 else if i.op=10 then (gI D i.a/gI D i.b,decide (gI D i.b≠0))
 else if i.op=11 then (if i.b<0∧gI D i.a=0 then (0,false) else (Zh0 (gI D i.a) i.b,true))
 else (P.t,true)
def Zck(q:Rat):Nat:=Zd9 (fz q)
def Zd(lim:Nat)(P:Po):List Ins→List Rat→List Rat×Nat×Nat
 | [],D=>(D,0,0)
 | i::r,D=>if (Zr P D i).2=false then ([],3,D.length) else if lim<Zck (Zr P D i).1 then ([],6,D.length) else Zd lim P r (D++[(Zr P D i).1])
theorem zbs(lim:Nat)(P:Po)(i:Ins)(r:List Ins)(D:List Rat):Zd lim P (i::r) D=if (Zr P D i).2=false then ([],3,D.length) else if lim<Zck (Zr P D i).1 then ([],6,D.length) else Zd lim P r (D++[(Zr P D i).1]):=rfl
theorem zez(lim:Nat)(P:Po):∀(l m:List Ins) (D:List Rat),Zd lim P (l++m) D=if (Zd lim P l D).2.1=0 then Zd lim P m (Zd lim P l D).1 else Zd lim P l D
 | [],m,D=>by simp[Zd]
 | i::r,m,D=>by
  have ih:=zez lim P r m (D++[(Zr P D i).1]);rw[Ybk,zbs,zbs];by_cases h1:(Zr P D i).2=false
  ·simp[h1]
  ·rw[if_neg h1,if_neg h1];by_cases h2:lim<Zck (Zr P D i).1
   ·simp[h2]
   ·rw[if_neg h2,if_neg h2,ih]
theorem ze0(lim:Nat)(P:Po):∀(l:List Ins) (D:List Rat),(Zd lim P l D).2.1=0→(Zd lim P l D).2.2=0∧∃E,(Zd lim P l D).1=D++E∧E.length=l.length
 | [],D,_=>⟨rfl,[],by simp[Zd],rfl⟩
 | i::r,D,h=>by
  have ih:=ze0 lim P r (D++[(Zr P D i).1]);rw[zbs]at h ⊢;by_cases h1:(Zr P D i).2=false
  ·simp[h1]at h
  ·rw[if_neg h1]at h ⊢;by_cases h2:lim<Zck (Zr P D i).1
   ·simp[h2]at h
   ·rw[if_neg h2]at h ⊢;obtain⟨e1,E,e2,e3⟩:=ih h;exact⟨e1,(Zr P D i).1::E,by rw[e2];simp,by simp[e3]⟩
theorem zx5(lim:Nat)(P:Po):∀(l:List Ins) (D:List Rat),(Zd lim P l D).2.1≠0→(Zd lim P l D).1=[]∧D.length≤(Zd lim P l D).2.2∧(Zd lim P l D).2.2<D.length+l.length
 | [],D,h=>by simp[Zd]at h
 | i::r,D,h=>by
  have ih:=zx5 lim P r (D++[(Zr P D i).1]);rw[zbs]at h ⊢;by_cases h1:(Zr P D i).2=false
  ·simp[h1]
  ·rw[if_neg h1]at h ⊢;by_cases h2:lim<Zck (Zr P D i).1
   ·simp[h2]
   ·rw[if_neg h2]at h ⊢;have:=ih h;simp only[Yq,Yi,Yas]at this ⊢;exact⟨this.1,by omega,by omega⟩
abbrev tyI:Ty:=.cons (.int .i64) (.cons (.int .i64) (.cons (.int .i64) (.cons tyF .nil)))
abbrev tyT:Ty:=.cons (.sl tyI) (.cons (.sl (.int .i64)) (.cons (.int .i64) (.cons (.int .i64) .nil)))
abbrev tyP:Ty:=.cons tyF (.cons (.sl tyF) (.cons (.sl tyF) .nil))
theorem zvn{x:AV}(h:Zh8 (true,tyP) x):∃t:PoF,wkA x=ept t:=by
 obtain⟨cs,rfl,c1,c1',rfl,h1,c2,c2',rfl,h2,c3,c3',rfl,h3,rfl⟩:=h;obtain⟨t,e1⟩:=z08 h1;obtain⟨y,e2⟩:=zmp h2;obtain⟨p,e3⟩:=zmp h3;refine⟨⟨t,y,p⟩,?_⟩;rw[wkA];simp only[zji,e1,e2,e3]
 rfl
structure Nd where
 op:Int
 i:Int
 n:List UInt32
 deriving DecidableEq
abbrev Zdl(x:Nd):List AV:=[.i .i64 x.op,.i .i64 x.i,.sl (Zb x.n) .an]
def Z1(l:List Nd):List (List AV):=l.map Zdl
@[simp] theorem z4n(l:List Nd):(Z1 l).length=l.length:=by simp[Z1]
@[simp] theorem z4o(l:List Nd):wkL (Z1 l)=Z1 l:=by rw[zb4];simp[Z1,wkR,wkA]
@[simp] theorem zadk(l:List Nd)(i:Nat)(h:i<(Z1 l).length):(Z1 l)[i]=Zdl (l[i]'(by simpa using h)):=by simp[Z1]
theorem zx6(l:List Nd)(x:Nd):Z1 l++[Zdl x]=Z1 (l++[x]):=by simp[Z1]
@[simp] theorem z97(l:List Nd)(n:Nat):(Z1 l).take n=Z1 (l.take n):=by simp[Z1]
@[simp] theorem zadl:Z1 []=[]:=rfl
theorem zns{m:List Nd}{n:Nat}(h:m.length=n)(x:Nd):wkL (Z1 (List.take n m)++[Zdl x])=Z1 (m++[x]):=by
 rw[Yb (by omega),zx6,z4o]
@[simp] theorem z98(l:List Nd):Option.all (fun r:List AV=>decide (r.length=3)) (Z1 l).head? = true:=by cases l<;>rfl
@[simp] theorem z99(l:List Nd):Zis 3 (Z1 l)=true:=by cases l<;>rfl
@[simp] theorem z1t(l:List Nd):(Z1 l).isEmpty=l.isEmpty:=by cases l<;>rfl
def Zak(l:List (List Nd)):List (List AV):=l.map fun c=>[.sl (Z1 c) .an]
@[simp] theorem zim(l:List (List Nd)):(Zak l).length=l.length:=by simp[Zak]
@[simp] theorem zx7(l:List (List Nd)):wkL (Zak l)=Zak l:=by rw[zb4];simp[Zak,wkR,wkA]
@[simp] theorem zadm(l:List (List Nd))(i:Nat)(h:i<(Zak l).length):(Zak l)[i]=[.sl (Z1 (l[i]'(by simpa using h))) .an]:=by simp[Zak]
theorem znt(l:List (List Nd))(x:List Nd):Zak l++[[.sl (Z1 x) .an]]=Zak (l++[x]):=by simp[Zak]
@[simp] theorem z0r:Zak []=[]:=rfl
def arN(op:Int):Int:=if 1≤op∧op≤5 then 0 else if op=6∨op=11 then 1 else if 7≤op∧op≤10 then 2 else -1
theorem zay(op:Int):(arN op=0∧1≤op∧op≤5)∨(arN op=1∧(op=6∨op=11))∨(arN op=2∧7≤op∧op≤10)∨(arN op=-1∧(op<1∨11<op)):=by
 unfold arN;split
 ·left;omega
 ·split
  ·right;left;omega
  ·split
   ·right;right;left;omega
   ·right;right;right;omega
def Zt:Nat→Int→List Nd→Int
 | i,o,[]=>if o=1 then -1 else i
 | i,o,x::r=>if arN x.op<0∨o<arN x.op then i else Zt (i+1) (o+1-arN x.op) r
def Z7(l:List Nd):Int:=Zt 0 0 l
def Zpb(o:Int)(l:List Nd):Int:=l.foldl (fun o x=>o+1-arN x.op) o
def goL:Nat→Int→List Nd→Option Nat×Int
 | _,o,[]=>(none,o)
 | i,o,x::r=>if arN x.op<0∨o<arN x.op then (some i,o) else goL (i+1) (o+1-arN x.op) r
theorem znu:∀(l:List Nd) (i:Nat) (o:Int),Zt i o l=match goL i o l with
  | (some k,_)=>(k:Int)
  | (none,p)=>if p=1 then -1 else i+l.length
 | [],i,o=>by simp[Zt,goL]
 | x::r,i,o=>by
  unfold Zt goL;by_cases h:arN x.op<0∨o<arN x.op
  ·rw[if_pos h,if_pos h]
  ·rw[if_neg h,if_neg h,znu r (i+1) (o+1-arN x.op)];generalize goL (i+1) (o+1-arN x.op) r=G;obtain⟨_ | k,p⟩:=G
   ·dsimp only;by_cases hp:p=1
    ·rw[if_pos hp,if_pos hp]
    ·rw[if_neg hp,if_neg hp,Yi];omega
   ·rfl
def Zir(n:List UInt32):Bool:=decide (n=ofN (val n))&&decide ((Z8 (val n)).length≤60)
def Zgf(i m:Int):Bool:=decide (0≤i)&&decide (i<m)
def okN(dim pars lets:Int)(x:Nd):Bool:=
 if x.op=1 then decide (x.i=0)&&Zir x.n
 else if x.n≠[]∨x.op<1∨11<x.op then false
 else if x.op=3 then Zgf x.i dim else if x.op=4 then Zgf x.i pars else if x.op=5 then Zgf x.i lets
 else if x.op=11 then decide (-8≤x.i)&&decide (x.i≤8)
 else decide (x.i=0)
def Zdx(dim pars lets w:Int):Nat→List Nd→Int
 | _,[]=>w
 | i,x::r=>if (i:Int)=w∨okN dim pars lets x=false then i else Zdx dim pars lets w (i+1) r
def Zg0(dim pars lets w:Int):Nat→List Nd→Option Nat
 | _,[]=>none
 | i,x::r=>if (i:Int)=w∨okN dim pars lets x=false then some i else Zg0 dim pars lets w (i+1) r
theorem zin(dim pars lets w:Int):∀(l:List Nd) (i:Nat),Zdx dim pars lets w i l=match Zg0 dim pars lets w i l with
  | some k=>(k:Int)
  | none=>w
 | [],i=>rfl
 | x::r,i=>by
  unfold Zdx Zg0;by_cases h:(i:Int)=w∨okN dim pars lets x=false
  ·rw[if_pos h,if_pos h]
  ·rw[if_neg h,if_neg h,zin dim pars lets w r (i+1)]
def Za0(dim pars lets:Int)(l:List Nd):Int:=Zdx dim pars lets (Z7 l) 0 l
inductive Tre where
 | leaf (x:Nd)
 | un (x:Nd) (a:Tre)
 | bin (x:Nd) (a b:Tre)
def Tre.flat:Tre→List Nd
 | .leaf x=>[x]
 | .un x a=>a.flat++[x]
 | .bin x a b=>a.flat++(b.flat++[x])
def Tre.ok:Tre→Prop
 | .leaf x=>arN x.op=0
 | .un x a=>arN x.op=1∧a.ok
 | .bin x a b=>arN x.op=2∧a.ok∧b.ok
def Tre.deep:Tre→Nat
 | .leaf _=>1
 | .un _ a=>a.deep+1
 | .bin _ a b=>max a.deep b.deep+1
def Zib(s:List Tre):List Nd:=s.flatMap Tre.flat
theorem zds:∀(l:List Nd) (i:Nat) (s:List Tre),(∀t∈s,t.ok)→Zt i s.length l=-1→∃t:Tre,t.ok∧t.flat=Zib s++l
 | [],i,s,hs,h=>by
  unfold Zt at h;by_cases h1:(s.length:Int)=1
  ·obtain⟨t,rfl⟩:=Ybe.1 (show s.length=1 by omega);exact⟨t,hs t (by simp),by simp[Zib]⟩
  ·rw[if_neg h1]at h;omega
 | x::r,i,s,hs,h=>by
  unfold Zt at h;by_cases h1:arN x.op<0∨(s.length:Int)<arN x.op
  ·rw[if_pos h1]at h;omega
  ·rw[if_neg h1]at h;rcases zay x.op with ⟨e,_⟩ | ⟨e,_⟩ | ⟨e,_⟩ | ⟨e,_⟩
   ·rw[e]at h;obtain⟨t,h2,h3⟩:=zds r (i+1) (s++[.leaf x]) (by
     intro t ht;rcases Yr.1 ht with ht | ht
     ·exact hs t ht
     ·rw[Yad.1 ht];exact e) (by rw[←h];congr 1;simp)
    exact⟨t,h2,by rw[h3];simp[Zib,Tre.flat]⟩
   ·rw[e]at h h1;obtain⟨s',a,rfl⟩:=Ycx s |>.resolve_left (by rintro rfl;simp at h1);rw[Ycy]at *
    obtain⟨t,h2,h3⟩:=zds r (i+1) (s'++[.un x a]) (by
     intro t ht;rcases Yr.1 ht with ht | ht
     ·exact hs t (by simp[ht])
     ·rw[Yad.1 ht];exact⟨e,hs a (by simp)⟩) (by rw[←h];congr 1;simp)
    exact⟨t,h2,by rw[h3];simp[Zib,Tre.flat]⟩
   ·rw[e]at h h1;obtain⟨s1,b,rfl⟩:=Ycx s |>.resolve_left (by rintro rfl;simp at h1);rw[Ycy]at *
    obtain⟨s2,a,rfl⟩:=Ycx s1 |>.resolve_left (by rintro rfl;simp at h1);rw[Ycy]at *
    obtain⟨t,h2,h3⟩:=zds r (i+1) (s2++[.bin x a b]) (by
     intro t ht;rcases Yr.1 ht with ht | ht
     ·exact hs t (by simp[ht])
     ·rw[Yad.1 ht];exact⟨e,hs a (by simp),hs b (by simp)⟩) (by rw[←h];congr 1;simp;omega)
    exact⟨t,h2,by rw[h3];simp[Zib,Tre.flat]⟩
   ·omega
theorem zpk{l:List Nd}(h:Z7 l=-1):∃t:Tre,t.ok∧t.flat=l:=by
 obtain⟨t,h1,h2⟩:=zds l 0 [] (by simp) h;exact⟨t,h1,by simpa[Zib]using h2⟩
theorem zdt:∀(t:Tre),t.ok→∀(i:Nat) (o:Int) (r:List Nd),0≤o→Zt i o (t.flat++r)=Zt (i+t.flat.length) (o+1) r
 | .leaf x,h,i,o,r,ho=>by
  have e:arN x.op=0:=h;show Zt i o (x::r)=_;rw[Zt,if_neg (by omega),e];simp[Tre.flat]
 | .un x a,h,i,o,r,ho=>by
  have e:arN x.op=1:=h.1;rw[Tre.flat,Y5,zdt a h.2 i o _ ho];show Zt _ _ (x::r)=_;rw[Zt,if_neg (by omega),e];congr 1
  ·simp;omega
  ·omega
 | .bin x a b,h,i,o,r,ho=>by
  have e:arN x.op=2:=h.1;rw[Tre.flat,Y5,zdt a h.2.1 i o _ ho,Y5,zdt b h.2.2 _ _ _ (by omega)];show Zt _ _ (x::r)=_;rw[Zt,if_neg (by omega),e];congr 1
  ·simp;omega
  ·omega
theorem zcc{t:Tre}(h:t.ok):Z7 t.flat=-1:=by
 have:=zdt t h 0 0 [] (by decide);rw[Ya5]at this;unfold Z7;rw[this];rfl
theorem zd8:∀(l:List Nd) (i:Nat) (o:Int),Zt i o l=-1∨(i≤Zt i o l∧Zt i o l≤i+l.length)
 | [],i,o=>by
  unfold Zt;split
  ·left;rfl
  ·right;simp
 | x::r,i,o=>by
  unfold Zt;split
  ·right;simp;omega
  ·rcases zd8 r (i+1) (o+1-arN x.op) with h | h
   ·left;exact h
   ·right;simp only[Yi];omega
theorem zio(dim pars lets w:Int):∀(l:List Nd) (i:Nat),Zdx dim pars lets w i l<0→w<0∧∀x∈l,okN dim pars lets x=true
 | [],i,h=>⟨h,by simp⟩
 | x::r,i,h=>by
  unfold Zdx at h;split at h
  ·omega
  ·next h1=>
   obtain⟨h2,h3⟩:=zio dim pars lets w r (i+1) h;refine⟨h2,fun y hy=>?_⟩;rcases Y6.1 hy with rfl | hy
   ·cases hk:okN dim pars lets y with
    | true=>rfl
    | false=>exact absurd (.inr hk) h1
   ·exact h3 y hy
theorem znv(dim pars lets w:Int):∀(l:List Nd) (i:Nat),Zdx dim pars lets w i l=w∨(i≤Zdx dim pars lets w i l∧Zdx dim pars lets w i l<i+l.length)
 | [],i=>.inl rfl
 | x::r,i=>by
  unfold Zdx;split
  ·right;simp only[Yi];omega
  ·rcases znv dim pars lets w r (i+1) with h | h
   ·left;exact h
   ·right;simp only[Yi];omega
theorem za6{dim pars lets:Int}{l:List Nd}(h:Za0 dim pars lets l<0):∃t:Tre,t.ok∧t.flat=l∧∀x∈l,okN dim pars lets x=true:=by
 obtain⟨h1,h2⟩:=zio dim pars lets _ l 0 h;have h3:Z7 l=-1:=by
  rcases zd8 l 0 0 with h | h
  ·exact h
  ·unfold Z7 at h1;omega
 obtain⟨t,h4,h5⟩:=zpk h3;exact⟨t,h4,h5,h2⟩
theorem znw(dim pars lets:Int)(l:List Nd):Za0 dim pars lets l=-1∨(0≤Za0 dim pars lets l∧Za0 dim pars lets l≤l.length):=by
 unfold Za0;rcases znv dim pars lets (Z7 l) l 0 with h | h
 ·rw[h];unfold Z7;rcases zd8 l 0 0 with h | h<;>omega
 ·right;omega
theorem zj5{a:List UInt32}:(ofN (val a)).length=a.length↔a=ofN (val a):=by
 constructor
 ·intro h;obtain⟨n,h1,h2,_⟩:=zk2 a;have h3:n=a.length:=by
   have:=congrArg List.length h2;rw[Y0,h]at this;omega
  rw[h3,Ybm]at h2;exact h2
 ·intro h;exact(congrArg List.length h).symm
structure Lt where
 name:List UInt8
 code:List Nd
abbrev Zi7(x:Lt):List AV:=[.s x.name,.sl (Z1 x.code) .an]
def Z3(l:List Lt):List (List AV):=l.map Zi7
@[simp] theorem zgh(l:List Lt):(Z3 l).length=l.length:=by simp[Z3]
@[simp] theorem z0k(l:List Lt):wkL (Z3 l)=Z3 l:=by rw[zb4];simp[Z3,wkR,wkA]
@[simp] theorem z9y(l:List Lt)(i:Nat)(h:i<(Z3 l).length):(Z3 l)[i]=Zi7 (l[i]'(by simpa using h)):=by simp[Z3]
theorem zth(l:List Lt)(x:Lt):Z3 l++[Zi7 x]=Z3 (l++[x]):=by simp[Z3]
@[simp] theorem zxn:Z3 []=[]:=rfl
structure Fd where
 lets:List Lt
 outs:List (List Nd)
abbrev efd(f:Fd):AV:=.agg [.sl (Z3 f.lets) .an,.sl (Zak f.outs) .an]
def codesD(f:Fd):List (List Nd):=f.lets.map (·.code)++f.outs
abbrev tyN:Ty:=.cons (.int .i64) (.cons (.int .i64) (.cons (.sl (.int .u32)) .nil))
abbrev tyL:Ty:=.cons .str (.cons (.sl tyN) .nil)
abbrev tyD:Ty:=.cons (.sl tyL) (.cons (.sl (.sl tyN)) .nil)
theorem z88{cs:List AV}(h:Ok tyN cs):∃x:Nd,wkR cs=Zdl x:=by
 obtain⟨c1,c1',rfl,⟨a,rfl,_⟩,c2,c2',rfl,⟨b,rfl,_⟩,c3,c3',rfl,⟨els,f,rfl,_,_,he⟩,rfl⟩:=h;obtain⟨l,rfl⟩:=zgp els he;exact⟨⟨a,b,l⟩,by simp[wkA,wkR]⟩
theorem zmq:∀(els:List (List AV)),(∀r∈els,Ok tyN r)→∃l:List Nd,wkL els=Z1 l
 | [],_=>⟨[],rfl⟩
 | r::els,h=>by
  obtain⟨l,hl⟩:=zmq els fun r hr=>h r (Yj _ hr);obtain⟨x,hx⟩:=z88 (h r Yp);refine⟨x::l,?_⟩;simp only[wkL,hx,hl]
  rfl
theorem zjj{cs:List AV}(h:Ok (.sl tyN) cs):∃l:List Nd,wkR cs=[.sl (Z1 l) .an]:=by
 obtain⟨els,f,rfl,_,_,he⟩:=h;obtain⟨l,hl⟩:=zmq els he;exact⟨l,by simp[wkR,wkA,hl]⟩
theorem zjk:∀(els:List (List AV)),(∀r∈els,Ok (.sl tyN) r)→∃l:List (List Nd),wkL els=Zak l
 | [],_=>⟨[],rfl⟩
 | r::els,h=>by
  obtain⟨l,hl⟩:=zjk els fun r hr=>h r (Yj _ hr);obtain⟨x,hx⟩:=zjj (h r Yp);refine⟨x::l,?_⟩;simp only[wkL,hx,hl]
  rfl
theorem zmr:∀(els:List (List AV)),(∀r∈els,Ok tyL r)→∃l:List Lt,wkL els=Z3 l
 | [],_=>⟨[],rfl⟩
 | r::els,h=>by
  obtain⟨l,hl⟩:=zmr els fun r hr=>h r (Yj _ hr);obtain⟨c1,c1',hr,⟨s,rfl,_⟩,c2,c2',rfl,h2,rfl⟩:=h r Yp;obtain⟨x,hx⟩:=zjj h2;refine⟨⟨s,x⟩::l,?_⟩;subst hr;simp only[wkL,zji,hx,hl]
  rfl
theorem zvo{x:AV}(h:Zh8 (true,tyD) x):∃f:Fd,wkA x=efd f:=by
 obtain⟨cs,rfl,c1,c1',rfl,⟨els,f,rfl,_,_,he⟩,c2,c2',rfl,⟨els2,f2,rfl,_,_,he2⟩,rfl⟩:=h;obtain⟨l,hl⟩:=zmr els he;obtain⟨m,hm⟩:=zjk els2 he2;refine⟨⟨l,m⟩,?_⟩;simp[wkA,wkR,hl,hm]
abbrev Zpe:Ty:=.cons (.sl tyF) (.cons (.int .i64) .nil)
end Go.Ab
section
namespace Go.Proofs.YtfgfjicelfagcabGreatDoor
open Go Go.Ab Go.ChangeShapes Go.WideShapes Go.ChangeAt Go.RowKit
theorem Tryz.own:ownKnob Tryz.prog.godebug=none:=by kernel_rfl
theorem Tryz.laidOut:laidOutB Tryz.prog=true:=by kernel_rfl
theorem Tryz.mixed:Tryz.prog.follows .mixedOrders=true:=by kernel_rfl
theorem Tryz.rowed:mapsRowed Tryz.prog=true:=by kernel_rfl
theorem Tryz.heard:Tryz.prog.stopsHeard=true:=by kernel_rfl
theorem Tryz.enters:Tryz.prog.mayEnter=true:=by kernel_rfl
theorem Tryz.keys:Tryz.prog.plainKeys=Rows.plainOutsRow.plainKeys:=by kernel_rfl
theorem Tryz.lifts:Tryz.prog.liftsFinal=Rows.plainOutsRow.lifted:=by kernel_rfl
theorem Tryz.makes:Tryz.prog.make=some Rows.plainOutsRow.make:=by kernel_rfl
def laid2:List (String×DataW Unit):=[("unicode/utf8.acceptRanges",Rows.laid_unicode_utf8_acceptRanges),("unicode/utf8.first",Rows.laid_unicode_utf8_first)]
noncomputable def laidWorld(os:Os):World:=
 let put (h:Array Obj) (g:Nat) (cs:Array Value):Array Obj:=h.modify g fun
  | .cells _ t frozen=>.cells cs t frozen
  | o=>o
 let w0:=World.holding Tryz.prog os ⟨#[],#[],[]⟩
 let h1:=put w0.heap 1 (Lib.firstTab.map fun z=>Value.int .u8 z).toArray
 let h2:=put h1 2 ((List.range 16).flatMap fun i=>[Value.int .u8 (Lib.accLo i),Value.int .u8 (Lib.accHi i)]).toArray
 { w0 with heap:=h2 }
theorem laid_met(os:Os)(args:Array Value):laidMetH Tryz.prog laid2 ((laidWorld os).forCall (fun _ _=>0) ⟨#[],args,[]⟩).memory:=
 laidMetH_of_parts3 (fuel:=8) (laidMet_of_run' 8 (by kernel_rfl) (by kernel_rfl)) (by kernel_rfl) (by kernel_rfl)
theorem laid_shaped(os:Os):(laidWorld os).Shaped Tryz.prog:=World.shaped_of_RefB (by kernel_rfl) (by kernel_rfl)
theorem tab_all:TOk Tryz.prog nu (fun u=>lTab.lookup u):=lTab_ok (text_ok Tryz.mixed) (sign_ok) (join_ok)
end Go.Proofs.YtfgfjicelfagcabGreatDoor
end
namespace Go.Ab
section
variable{T:Tbl}[Zaj T]
theorem za9(op:Int):Za T 76 [.i .i64 op]=some (.i .i64 (arN op)):=by
 rw[zab Zaj.h76 rfl,b76];by_cases h:1≤op∧op≤11
 ·rcases(show op=1∨op=2∨op=3∨op=4∨op=5∨op=6∨op=7∨op=8∨op=9∨op=10∨op=11 by omega) with rfl | rfl | rfl | rfl | rfl | rfl | rfl | rfl | rfl | rfl | rfl<;>simp -implicitDefEqProofs[arN]
 ·have e:arN op=-1:=by rcases zay op with h1 | h1 | h1 | h1<;>omega
  have h1:op≠1:=by omega
  have h2:op≠2:=by omega
  have h3:op≠3:=by omega
  have h4:op≠4:=by omega
  have h5:op≠5:=by omega
  have h6:op≠6:=by omega
  have h7:op≠7:=by omega
  have h8:op≠8:=by omega
  have h9:op≠9:=by omega
  have h10:op≠10:=by omega
  have h11:op≠11:=by omega
  rw[e];simp -implicitDefEqProofs[h1,h2,h3,h4,h5,h6,h7,h8,h9,h10,h11]
def Zhy(l:List Nd)(p:Nat×Int):St:=⟨[(0,.sl (Z1 l) .an),(3,.i .i64 p.2),(7,.sl (Z1 l) .an),(8,.i .i64 l.length),(9,.i .i64 p.1)],[],2⟩
theorem zia(l:List Nd)(hl:l.length≤4294967296):∀p:Nat×Int,(p.1≤l.length∧0≤p.2∧p.2≤p.1)→Zp T 0 0 (.norm false [0,3]) l74_0 (Zhy l p) =
  match goL p.1 p.2 (l.drop p.1) with
  | (some k,_)=>some (.r,⟨[(2,.i .i64 (k:Nat))],[],2⟩)
  | (none,o)=>some (.n,⟨[(0,.sl (Z1 l) .an),(3,.i .i64 o)],[],2⟩):=by
 refine zbm (Zhy l) _ (fun p=>l.length-p.1) _ ?_
 rintro⟨i,o⟩ ⟨hi,ho,ho2⟩
 dsimp only at *
 by_cases h:i<l.length
 ·have hg:l[i]? = some (l[i]'h):=Ya h;have hd:l.drop i=l[i]'h::l.drop (i+1):=Ym h;have ca:=za9 (T:=T) (l[i]'h).op;have h':(i:Int)<l.length:=by omega
  have hws:=zbj h (by omega);rw[hd,goL];generalize hx:l[i]'h=x at *
  clear hd;rcases zay x.op with ⟨e,_⟩ | ⟨e,_⟩ | ⟨e,_⟩ | ⟨e,_⟩
  ·left;rw[e]at ca ⊢;have hw:IntKind.wrap .i64 (o+1)=o+1:=zac _ (by omega);refine⟨(i+1,o+1),⟨by omega,by omega,by dsimp only;omega⟩,by dsimp only;omega,?_,?_⟩
   ·unfold Zhy;simp -implicitDefEqProofs[l74_0,h,h',hg,hx,hws,ca,hw,ho]
   ·rw[if_neg (by omega)];simp
  ·rw[e]at ca ⊢;by_cases hc:o<1
   ·right;rw[if_pos (by omega)];unfold Zhy;constructor<;>simp -implicitDefEqProofs[l74_0,h,h',hg,hx,ca,hc]
   ·left;have hw:IntKind.wrap .i64 o=o:=zac _ (by omega);refine⟨(i+1,o),⟨by omega,by omega,by dsimp only;omega⟩,by dsimp only;omega,?_,?_⟩
    ·unfold Zhy;simp -implicitDefEqProofs[l74_0,h,h',hg,hx,hws,ca,hw,hc]
    ·rw[if_neg (by omega)];simp
  ·rw[e]at ca ⊢;by_cases hc:o<2
   ·right;rw[if_pos (by omega)];unfold Zhy;constructor<;>simp -implicitDefEqProofs[l74_0,h,h',hg,hx,ca,hc]
   ·left;have hw:IntKind.wrap .i64 (o + -1)=o-1:=zac _ (by omega);refine⟨(i+1,o-1),⟨by omega,by omega,by dsimp only;omega⟩,by dsimp only;omega,?_,?_⟩
    ·unfold Zhy;simp -implicitDefEqProofs[l74_0,h,h',hg,hx,hws,ca,hw,hc]
    ·rw[if_neg (by omega)];dsimp only;rw[show o+1-2=o-1 by omega]
  ·right;rw[e]at ca ⊢;rw[if_pos (by omega)];unfold Zhy;constructor<;>simp -implicitDefEqProofs[l74_0,h,h',hg,hx,ca]
 ·have:i=l.length:=by omega
  subst this;right;rw[Y2,goL];unfold Zhy;constructor<;>simp -implicitDefEqProofs[l74_0]
theorem zju(l:List Nd)(hl:l.length≤4294967296):Za T 74 [.sl (Z1 l) .an]=some (.i .i64 (Z7 l)):=by
 have hlo:=zia (T:=T) l hl (0,0) ⟨Y1 _,by decide,by decide⟩;have hw:=znu l 0 0;unfold Z7;rw[hw];unfold Zhy at hlo;simp only[Ybp,Yy]at hlo;rw[zab Zaj.h74 rfl,b74];generalize goL 0 0 l=G at *
 obtain⟨_ | k,o⟩:=G
 ·dsimp only at hlo ⊢;by_cases h:o=1
  ·subst h;simp -implicitDefEqProofs[hlo]
  ·simp -implicitDefEqProofs[hlo,h]
 ·dsimp only at hlo ⊢;simp -implicitDefEqProofs[hlo]
theorem zs7(l:List Nd)(hl:l.length≤4294967296):Za T 44 [.sl (Z1 l) .an]=some (.b (decide (Z7 l=-1))):=by
 have c:=zju (T:=T) l hl;have e:decide (Z7 l<0)=decide (Z7 l=-1):=by
  rcases zd8 l 0 0 with h | h
  ·unfold Z7;rw[h];rfl
  ·have:¬ Z7 l<0:=by unfold Z7;omega
   have h2:¬ Z7 l=-1:=by omega
   rw[decide_eq_false this,decide_eq_false h2]
 rw[zab Zaj.h44 rfl,b44,←e];generalize Z7 l=w at *
 simp -implicitDefEqProofs[c]
theorem zet(i m:Int):Za T 108 [.i .i64 i,.i .i64 m]=some (.b (Zgf i m)):=by
 rw[zab Zaj.h108 rfl,b108];unfold Zgf;by_cases h:0≤i
 ·by_cases h2:i<m<;>simp -implicitDefEqProofs[h,h2]
 ·simp -implicitDefEqProofs[h]
variable[Z5 T][Zo T][Zai T][Zb5 T]
theorem lenD(n:Nat)(h:(ofN n).length≤1000):Za T 129 [.sl (Zb (ofN n)) .an]=some (.i .i64 (Z8 n).length):=by
 have c:Za T 68 [.sl (Zb (ofN n)) .an]=some (.s (Z8 n)):=by
  rw[p68,zd5 _ (by omega),zae]
 rw[zab Zb5.h129 rfl,b129];generalize ofN n=N at *
 simp -implicitDefEqProofs[c]
theorem zne(n:List UInt32)(hn:n.length≤1000):Za T 107 [.sl (Zb n) .an]=some (.b (Zir n)):=by
 have c1:=zbd (T:=T) n (by omega);unfold Zir;by_cases h:n=ofN (val n)
 ·have c2:=lenD (T:=T) (val n) (by rw[←h];exact hn);rw[←h]at c1 c2;rw[decide_eq_true h];rw[zab Zaj.h107 rfl,b107];generalize (Z8 (val n)).length=L at *
  by_cases h2:L≤60
  ·have h2':(L:Int)≤60:=by omega
   simp -implicitDefEqProofs[c1,c2,h2,h2']
  ·have h2':¬ (L:Int)≤60:=by omega
   simp -implicitDefEqProofs[c1,c2,h2,h2']
 ·have h2:¬ ((ofN (val n)).length:Int)=n.length:=fun hh=>h (zj5.1 (by omega));have h3:¬ (ofN (val n)).length=n.length:=fun hh=>h (zj5.1 hh);rw[decide_eq_false h];rw[zab Zaj.h107 rfl,b107];generalize ofN (val n)=N at *
  simp -implicitDefEqProofs[c1,h2,h3]
theorem zs8(x:Nd)(dim pars lets:Int)(hn:x.n.length≤1000):Za T 75 [.agg (Zdl x),.i .i64 dim,.i .i64 pars,.i .i64 lets]=some (.b (okN dim pars lets x)):=by
 have c1:=zne (T:=T) x.n hn;have c3:=zet (T:=T) x.i dim;have c4:=zet (T:=T) x.i pars;have c5:=zet (T:=T) x.i lets;have ca:=za9 (T:=T) x.op;obtain⟨op,i,n⟩:=x;dsimp only at *
 rw[zab Zaj.h75 rfl,b75];unfold okN;dsimp only;generalize Zir n=W at *
 generalize Zgf i dim=B3 at *
 generalize Zgf i pars=B4 at *
 generalize Zgf i lets=B5 at *
 by_cases h1:op=1
 ·subst h1;by_cases hi:i=0
  ·subst hi;simp -implicitDefEqProofs[c1]
  ·simp -implicitDefEqProofs[hi]
 rw[if_neg h1];by_cases hne:n=[]
 ·subst hne;by_cases h3:op=3
  ·subst h3;simp -implicitDefEqProofs[c3]
  by_cases h4:op=4
  ·subst h4;simp -implicitDefEqProofs[c4]
  by_cases h5:op=5
  ·subst h5;simp -implicitDefEqProofs[c5]
  by_cases h11:op=11
  ·subst h11;by_cases ha:-8≤i
   ·by_cases hb:i≤8<;>simp -implicitDefEqProofs[ha,hb]
   ·simp -implicitDefEqProofs[ha]
  by_cases hi:i=0
  ·subst hi;rcases zay op with ⟨e,h⟩ | ⟨e,h⟩ | ⟨e,h⟩ | ⟨e,h⟩
   ·rw[e]at ca;have g1:¬ op<1:=by omega
    have g2:¬ 11<op:=by omega
    simp -implicitDefEqProofs[h1,h3,h4,h5,h11,ca,g1,g2]
   ·rw[e]at ca;have g1:¬ op<1:=by omega
    have g2:¬ 11<op:=by omega
    simp -implicitDefEqProofs[h1,h3,h4,h5,h11,ca,g1,g2]
   ·rw[e]at ca;have g1:¬ op<1:=by omega
    have g2:¬ 11<op:=by omega
    simp -implicitDefEqProofs[h1,h3,h4,h5,h11,ca,g1,g2]
   ·rw[e]at ca;simp -implicitDefEqProofs[h1,h3,h4,h5,h11,ca,h]
  ·have hb:(if (([]:List UInt32)≠[]∨op<1∨11<op) then false else if op=3 then B3 else if op=4 then B4 else if op=5 then B5 else if op=11 then decide (-8≤i)&&decide (i≤8) else decide (i=0))=false:=by
    split
    ·rfl
    ·exact decide_eq_false hi
   rw[hb];simp -implicitDefEqProofs[h1,h3,h4,h5,h11,hi]
 ·have hp:0<n.length:=Yck.2 hne;rw[if_pos (.inl hne)];simp -implicitDefEqProofs[h1,hp,hne]
def Zjj(l:List Nd)(dim pars lets w:Int)(i:Nat):St:=⟨[(1,.i .i64 dim),(2,.i .i64 pars),(3,.i .i64 lets),(9,.i .i64 w),(14,.sl (Z1 l) .an),(15,.i .i64 l.length),(16,.i .i64 i)],[],2⟩
theorem zgj(l:List Nd)(dim pars lets w:Int)(hl:l.length≤4294967296)(hn:∀x∈l,x.n.length≤1000)(hw:w<0∨(w:Int)≤l.length):Zp T 0 0 (.norm false [9]) l46_0 (Zjj l dim pars lets w 0) =
  match Zg0 dim pars lets w 0 l with
  | some k=>some (.r,⟨[(8,.i .i64 (k:Nat))],[],2⟩)
  | none=>some (.n,⟨[(9,.i .i64 w)],[],2⟩):=by
 have e0:l.drop 0=l:=rfl;rw[←e0];refine zaw (Zjj l dim pars lets w) l.length (fun i=>match Zg0 dim pars lets w i (l.drop i) with
  | some k=>some (.r,⟨[(8,.i .i64 (k:Nat))],[],2⟩)
  | none=>some (.n,⟨[(9,.i .i64 w)],[],2⟩)) (fun i hi=>?_) ?_
 ·have hg:l[i]? = some (l[i]'hi):=Ya hi;have hd:l.drop i=l[i]'hi::l.drop (i+1):=Ym hi;have cn:=zs8 (T:=T) (l[i]'hi) dim pars lets (hn _ (Ys hi));have hi':(i:Int)<l.length:=by omega
  have hws:=zbj hi (by omega);generalize hx:l[i]'hi=x at *
  rw[hd,Zg0];clear hd;by_cases h1:(i:Int)=w
  ·right;rw[if_pos (.inl h1)];subst h1;unfold Zjj;constructor<;>simp -implicitDefEqProofs[l46_0,hi,hi',hg,hx]
  ·generalize okN dim pars lets x=B at *
   cases B with
   | false=>
    right;rw[if_pos (.inr rfl)];unfold Zjj;constructor<;>simp -implicitDefEqProofs[l46_0,hi,hi',hg,hx,h1,cn]
   | true=>
    left;refine⟨?_,by rw[if_neg (by simp[h1])]⟩;unfold Zjj;simp -implicitDefEqProofs[l46_0,hi,hi',hg,hx,h1,cn,hws]
 ·rw[Y2,Zg0];unfold Zjj;constructor<;>simp -implicitDefEqProofs[l46_0]
theorem zpc(l:List Nd)(dim pars lets:Int)(hl:l.length≤4294967296)(hn:∀x∈l,x.n.length≤1000):Za T 46 [.sl (Z1 l) .an,.i .i64 dim,.i .i64 pars,.i .i64 lets]=some (.i .i64 (Za0 dim pars lets l)):=by
 have cw:=zju (T:=T) l hl;have hlo:=zgj (T:=T) l dim pars lets (Z7 l) hl hn (by
  rcases zd8 l 0 0 with h | h
  ·left;unfold Z7;omega
  ·right;unfold Z7;omega)
 unfold Zjj at hlo;simp only[Yy]at hlo;have hf:=zin dim pars lets (Z7 l) l 0;unfold Za0;rw[hf];rw[zab Zaj.h46 rfl,b46];generalize Z7 l=w at *
 generalize Zg0 dim pars lets w 0 l=F at *
 cases F with
 | none=>
  dsimp only at hlo ⊢;simp -implicitDefEqProofs[cw,hlo]
 | some k=>
  dsimp only at hlo ⊢;simp -implicitDefEqProofs[cw,hlo]
end
def Zea(op:Int)(l:List (List Nd)):List Nd:=l.flatten++[⟨op,0,[]⟩]
def kNd(n:Int):List Nd:=[⟨1,0,if n=0 then [] else [w32 n.toNat]⟩]
def Zmu(a:List Nd)(e:Int):List Nd:=a++[⟨11,e,[]⟩]
def Zhu(op:Int)(d o:List Nd)(first:Bool):List Nd:=if d=[] then [] else if first then Zea op [d,o] else Zea op [o,d]
def Zk3(op:Int)(a b:List Nd):List Nd:=if b=[] then a else if a≠[] then Zea op [a,b] else if op=8 then Zea 6 [b] else b
def Znx(x:Nd)(a da:List Nd):List Nd:=
 if da=[]∨(x.op=11∧x.i=0) then [] else if x.op=6 then Zea 6 [da]
 else if 0<x.i then Zea 9 [Zea 9 [kNd x.i,Zmu a (x.i-1)],da]
 else Zea 6 [Zea 10 [Zea 9 [Zea 9 [kNd (-x.i),Zmu a x.i],da],a]]
def Zny(d b o:List Nd):List Nd:=if Zhu 9 d o false=[] then [] else Zea 10 [Zhu 9 d o false,Zea 9 [b,b]]
def Znz(op:Int)(a da b db:List Nd):List Nd:=
 if op=9 then Zk3 7 (Zhu 9 da b true) (Zhu 9 db a false)
 else if op=10 then Zk3 8 (Zhu 10 da b true) (Zny db b a)
 else Zk3 op da db
def Tre.der(u:Nd):Tre→List Nd
 | .leaf x=>if x.op=u.op∧x.i=u.i then kNd 1 else []
 | .un x a=>Znx x a.flat (a.der u)
 | .bin x a b=>Znz x.op a.flat (a.der u) b.flat (b.der u)
def Zqm(a b:List Nd)(op i:Int):List Nd:=a++b++[⟨op,i,[]⟩]
def thin(w:Nat)(l:List Nd):Prop:=∀x∈l,x.n.length≤w
def Zo5(s:List Tre)(x:Nd):List Tre:=
 if arN x.op=0 then .leaf x::s else
  match s with
  | []=>[]
  | a::s1=>if arN x.op=1 then .un x a::s1 else
   match s1 with
   | []=>[]
   | b::s2=>.bin x b a::s2
abbrev Pc:=List Nd×List Nd
def pcs(u:Nd)(s:List Tre):List Pc:=s.reverse.map fun t=>(t.flat,t.der u)
def Zqn(l:List Pc):Nat:=(l.map fun p=>p.1.length).sum
def dps(l:List Nat):List (List AV):=l.map fun n=>[.i .i64 (n:Nat)]
@[simp] theorem z6e(l:List Nat):(dps l).length=l.length:=by simp[dps]
@[simp] theorem z9p(l:List Nat):wkL (dps l)=dps l:=by rw[zb4];simp[dps,wkR,wkA]
@[simp] theorem zaii(l:List Nat)(i:Nat)(h:i<(dps l).length):(dps l)[i]=[.i .i64 (l[i]'(by simp_all):Nat)]:=by simp[dps]
@[simp] theorem zadf(l:List Nat)(n:Nat):(dps l).take n=dps (l.take n):=by simp[dps]
@[simp] theorem z33:dps []=[]:=rfl
theorem zz5{m:List Nat}{n:Nat}(x:Nat):wkL (dps (List.take n m)++[[.i .i64 (x:Nat)]])=dps (List.take n m++[x]):=by
 grind[dps,z9p]
def Zg5(s:List Nat)(x:Nd):List Nat:=if arN x.op=0 then 1::s else if arN x.op=1 then (s.headD 0+1)::s.tail else (max (s.headD 0) (s.tail.headD 0)+1)::s.tail.tail
def Zio:List Nat→List Nd→List Nat
 | s,[]=>s
 | s,x::r=>Zio (Zg5 s x) r
def Zip(l:List Nd):Nat:=if Z7 l=-1 then (Zio [] l).headD 0 else 0
theorem znf{m:List (List Nd)}{n:Nat}(h:m.length=n)(x:List Nd):wkL (Zak (List.take n m)++[[.sl (Z1 x) .an]])=Zak (m++[x]):=by
 rw[Yb (by omega),znt,zx7]
@[simp] theorem z9q(l:List (List Nd))(n:Nat):(Zak l).take n=Zak (l.take n):=by simp[Zak]
section
variable{T:Tbl}[Zaj T][Zbp T]
theorem zib(l:List Nd)(hl:l.length≤4294967295)(hn:thin 1000 l):Za T 483 [.sl (Z1 l) .an]=some (.sl (Z1 l) .an):=by
 have hlo:Zp T 0 0 (.norm false [3]) l483_0 ⟨[(3,.bs (.loc 3) 1 3 0 0),(6,.sl (Z1 l) .an),(7,.i .i64 l.length),(8,.i .i64 0)],[(.loc 3,⟨1,.own,3,[]⟩)],3⟩ =
   some (.n,⟨[(3,.bs (.loc 3) 1 3 0 l.length)],[(.loc 3,⟨1,.own,3,Z1 l⟩)],3⟩):=by
  have:=zat (T:=T) (k:=0) (id:=0) (g2:=.norm false [3]) (c:=l483_0) (fun i=>⟨[(3,.bs (.loc 3) 1 3 0 i),(6,.sl (Z1 l) .an),(7,.i .i64 l.length),(8,.i .i64 (i:Int))],[(.loc 3,⟨1,.own,3,Z1 (l.take i)⟩)],3⟩) l.length
   (some (.n,⟨[(3,.bs (.loc 3) 1 3 0 l.length)],[(.loc 3,⟨1,.own,3,Z1 l⟩)],3⟩)) (fun i hi=>?_) ?_
  ·simp_all
  ·have hi':(i:Int)<l.length:=by omega
   have hws:=zbj hi (by omega);have hs:l.take (i+1)=l.take i++[l[i]'hi]:=by simp_all
   have hp:=zns (n:=i) (show (l.take i).length=i by grind) (l[i]'hi);have hle:i≤(l.take i).length:=by grind
   have h32:i+1≤4294967296:=by omega
   have hth:=hn _ (Ys hi);rw[hs];generalize hx:l[i]'hi=x at *
   generalize l.take i=m at *
   obtain⟨op,j,n⟩:=x;dsimp only at hth;have hn32:n.length≤4294967296:=by omega
   simp -implicitDefEqProofs[l483_0,hi,hi',hx,hws,hp,hle,h32,hn32]
  ·constructor<;>simp -implicitDefEqProofs[l483_0]
 rw[zab Zbp.h483 rfl,b483];simp -implicitDefEqProofs[hlo]
def Zcn(w n:Nat)(f:Fd):Prop:=∀c∈codesD f,c.length≤n∧thin w c
theorem zs9(f:Fd)(h1:f.lets.length≤100000)(h2:f.outs.length≤100000)(hn:Zcn 1000 4294967295 f):Za T 493 [efd f]=some (.sl (Zak (codesD f)) .an):=by
 obtain⟨L,O⟩:=f;dsimp only at h1 h2;have hL:Zp T 0 0 (.norm false [1,3]) l493_0 ⟨[(1,.ptr (.loc 1) 1 2 0 0),(3,.bs (.loc 3) 2 1 0 0),(9,.sl (Z3 L) .an),(10,.i .i64 L.length),(11,.i .i64 0)],[(.loc 1,⟨1,.str,2,[[.sl (Z3 L) .an,.sl (Zak O) .an]]⟩),(.loc 3,⟨2,.own,1,[]⟩)],4⟩ =
   some (.n,⟨[(1,.ptr (.loc 1) 1 2 0 0),(3,.bs (.loc 3) 2 1 0 L.length)],[(.loc 1,⟨1,.str,2,[[.sl (Z3 L) .an,.sl (Zak O) .an]]⟩),(.loc 3,⟨2,.own,1,Zak (L.map (·.code))⟩)],4⟩):=by
  have:=zat (T:=T) (k:=0) (id:=0) (g2:=.norm false [1,3]) (c:=l493_0) (fun i=>⟨[(1,.ptr (.loc 1) 1 2 0 0),(3,.bs (.loc 3) 2 1 0 i),(9,.sl (Z3 L) .an),(10,.i .i64 L.length),(11,.i .i64 (i:Int))],[(.loc 1,⟨1,.str,2,[[.sl (Z3 L) .an,.sl (Zak O) .an]]⟩),(.loc 3,⟨2,.own,1,Zak ((L.take i).map (·.code))⟩)],4⟩) L.length
   (some (.n,⟨[(1,.ptr (.loc 1) 1 2 0 0),(3,.bs (.loc 3) 2 1 0 L.length)],[(.loc 1,⟨1,.str,2,[[.sl (Z3 L) .an,.sl (Zak O) .an]]⟩),(.loc 3,⟨2,.own,1,Zak (L.map (·.code))⟩)],4⟩)) (fun i hi=>?_) ?_
  ·simp_all
  ·have hi':(i:Int)<L.length:=by omega
   have hws:=zbj hi (by omega);have hs:(L.take (i+1)).map (·.code)=(L.take i).map (·.code)++[(L[i]'hi).code]:=by grind[List.take_succ_eq_append_getElem]
   have hml:((L.take i).map (·.code)).length=i:=by grind
   have hp:=znf (n:=i) hml (L[i]'hi).code;have hle:i≤((L.take i).map (·.code)).length:=by omega
   have h32:i+1≤4294967296:=by omega
   obtain⟨hc1,hc2⟩:=hn (L[i]'hi).code (Yr.2 (.inl (Yz.2 ⟨_,Ys hi,rfl⟩)));have cc:=zib (T:=T) (L[i]'hi).code hc1 hc2;rw[hs];generalize hx:L[i]'hi=x at *
   generalize (L.take i).map (·.code)=m at *
   obtain⟨nm,code⟩:=x;simp -implicitDefEqProofs[l493_0,hi,hi',hx,hws,hp,hle,h32,cc]
  ·constructor<;>simp -implicitDefEqProofs[l493_0]
 have hO:Zp T 0 2 (.norm false [3]) l493_1 ⟨[(3,.bs (.loc 3) 1 1 0 L.length),(23,.sl (Zak O) .an),(24,.i .i64 O.length),(25,.i .i64 0)],[(.loc 3,⟨1,.own,1,Zak (L.map (·.code))⟩)],3⟩ =
   some (.n,⟨[(3,.bs (.loc 3) 1 1 0 (L.length+O.length:Nat))],[(.loc 3,⟨1,.own,1,Zak (L.map (·.code)++O)⟩)],3⟩):=by
  have:=zat (T:=T) (k:=0) (id:=2) (g2:=.norm false [3]) (c:=l493_1) (fun i=>⟨[(3,.bs (.loc 3) 1 1 0 (L.length+i:Nat)),(23,.sl (Zak O) .an),(24,.i .i64 O.length),(25,.i .i64 (i:Int))],[(.loc 3,⟨1,.own,1,Zak (L.map (·.code)++O.take i)⟩)],3⟩) O.length
   (some (.n,⟨[(3,.bs (.loc 3) 1 1 0 (L.length+O.length:Nat))],[(.loc 3,⟨1,.own,1,Zak (L.map (·.code)++O)⟩)],3⟩)) (fun i hi=>?_) ?_
  ·grind
  ·have hi':(i:Int)<O.length:=by omega
   have hws:=zbj hi (by omega);have hs:L.map (·.code)++O.take (i+1)=(L.map (·.code)++O.take i)++[O[i]'hi]:=by simp_all
   have hml:(L.map (·.code)++O.take i).length=L.length+i:=by grind
   have hp:=znf hml (O[i]'hi);have hle:L.length+i≤(L.map (·.code)++O.take i).length:=by omega
   have h32:L.length+i+1≤4294967296:=by omega
   obtain⟨hc1,hc2⟩:=hn (O[i]'hi) (Yr.2 (.inr (Ys hi)));have cc:=zib (T:=T) (O[i]'hi) hc1 hc2;have hw2:L.length+(i+1)=L.length+i+1:=by omega
   rw[hs,hw2];generalize hx:O[i]'hi=x at *
   generalize L.map (·.code)++O.take i=m at *
   simp -implicitDefEqProofs[l493_1,hi,hi',hx,hws,hp,hle,h32,cc]
  ·constructor<;>simp -implicitDefEqProofs[l493_1]
 unfold codesD;have hM:(L.map (·.code)).length=L.length:=Yat _;rw[zab Zbp.h493 rfl,b493];simp -implicitDefEqProofs[hL,hO]
 grind
theorem zta{l:List (List Nd)}(i:Nat):((l.take i).map List.length).sum≤(l.map List.length).sum:=by
 grind[List.take_append_drop]
def Zaw(f:Fd):Nat:=((codesD f).map List.length).sum
theorem zw8(f:Fd)(h1:f.lets.length≤100000)(h2:f.outs.length≤100000)(hn:Zcn 1000 4294967295 f)(hs:Zaw f≤4294967295):Za T 491 [efd f]=some (.i .i64 (Zaw f)):=by
 have c:=zs9 (T:=T) f h1 h2 hn;have hlen:(codesD f).length≤200000:=by grind[codesD]
 unfold Zaw at *
 obtain⟨L,O⟩:=f;generalize codesD ⟨L,O⟩=M at *
 have hlo:Zp T 0 0 (.norm false [3]) l491_0 ⟨[(3,.i .i64 0),(7,.sl (Zak M) .an),(8,.i .i64 M.length),(9,.i .i64 0)],[],2⟩ =
   some (.n,⟨[(3,.i .i64 ((M.map List.length).sum:Nat))],[],2⟩):=by
  have:=zat (T:=T) (k:=0) (id:=0) (g2:=.norm false [3]) (c:=l491_0) (fun i=>⟨[(3,.i .i64 (((M.take i).map List.length).sum:Nat)),(7,.sl (Zak M) .an),(8,.i .i64 M.length),(9,.i .i64 (i:Int))],[],2⟩) M.length
   (some (.n,⟨[(3,.i .i64 ((M.map List.length).sum:Nat))],[],2⟩)) (fun i hi=>?_) ?_
  ·grind
  ·have hi':(i:Int)<M.length:=by omega
   have hws:=zbj hi (by omega);have hs1:((M.take (i+1)).map List.length).sum=((M.take i).map List.length).sum+(M[i]'hi).length:=by grind[List.take_succ_eq_append_getElem]
   have hle:=zta (l:=M) (i+1);have hw:IntKind.wrap .i64 ((((M.take i).map List.length).sum:Nat)+(M[i]'hi).length)=((((M.take i).map List.length).sum+(M[i]'hi).length:Nat):Int):=by rw[zac _ (by omega)];omega
   rw[hs1];generalize hx:M[i]'hi=x at *
   generalize ((M.take i).map List.length).sum=k at *
   simp -implicitDefEqProofs[l491_0,hi,hi',hx,hws,hw]
  ·constructor<;>simp -implicitDefEqProofs[l491_0]
 rw[zab Zbp.h491 rfl,b491];simp -implicitDefEqProofs[c,hlo]
def mxT(F:List Nat)(k:Nat):Nat→Nat
 | 0=>0
 | j+1=>max (mxT F k j) (F.getD (k-j-1) 0)
def Zkz(l:List Nd)(F:List Nat)(i k a j:Nat):St:=⟨[(3,.bs (.loc 3) 1 1 0 (k-j)),(6,.i .i64 (mxT F k j:Nat)),(10,.sl (Z1 l) .an),(11,.i .i64 l.length),(12,.i .i64 i),(18,.i .i64 a),(19,.i .i64 j)],[(.loc 3,⟨1,.own,1,dps F⟩)],3⟩
theorem zw9(F:List Nat)(k w:Nat)(h:∀n∈F,n≤w):∀j,mxT F k j≤w
 | 0=>Y1 _
 | j+1=>by
  have h1:=zw9 F k w h j;have h2:F.getD (k-j-1) 0≤w:=by
   rw[Ya2];cases hg:F[k-j-1]? with
   | none=>grind
   | some x=>exact h x (Yg hg)
  exact Ydo.2 ⟨h1,h2⟩
theorem z9r(l:List Nd)(F:List Nat)(i k a:Nat)(ha:a≤k)(hk:k≤F.length)(hF:∀n∈F,n≤100000)(hkk:k≤100000) :
  Zp T 0 2 (.norm false [3,6,10,11,12]) l492_0 (Zkz l F i k a 0) =
   some (.n,⟨[(3,.bs (.loc 3) 1 1 0 (k-a)),(6,.i .i64 (mxT F k a:Nat)),(10,.sl (Z1 l) .an),(11,.i .i64 l.length),(12,.i .i64 i)],[(.loc 3,⟨1,.own,1,dps F⟩)],3⟩):=by
 refine zat (T:=T) (Zkz l F i k a) a _ (fun j hj=>?_) ?_
 ·have hq:k-j=(k-j-1)+1:=by omega
  have hq2:k-(j+1)=k-j-1:=by omega
  have hlt:k-j-1<F.length:=by omega
  have hg:F[k-j-1]? = some (F.getD (k-j-1) 0):=by grind
  have hge:F[k-j-1]'hlt=F.getD (k-j-1) 0:=by grind
  have hmx:=zw9 F k 100000 hF j;have hws:=zbj hj (by omega);have hj':(j:Int)<a:=by omega
  have hmm:mxT F k (j+1)=max (mxT F k j) (F.getD (k-j-1) 0):=rfl;unfold Zkz;rw[hq2,hq,hmm];generalize F.getD (k-j-1) 0=v at *
  generalize mxT F k j=m at *
  clear hF;generalize k-j-1=q at *
  have hw:IntKind.wrap .i64 (q:Int)=q:=zac _ (by omega);have h1:(q:Int)<(q:Int)+1:=by omega
  have h2:(q:Int)≤(q:Int)+1:=by omega
  clear hq hq2 hmm;simp -implicitDefEqProofs[l492_0,hj',hge,hlt,hws,hw,h1,h2];omega
 ·unfold Zkz;constructor<;>simp -implicitDefEqProofs[l492_0]
theorem zkz{F:List Nat}{a:Nat}{r:List Nat}(h:F.take (a::r).length=(a::r).reverse):F.take r.length=r.reverse∧F.getD r.length 0=a∧r.length<F.length:=by
 grind[List.length_reverse,List.take_succ_eq_append_getElem,List.append_inj']
def Zjk(l:List Nd)(F:List Nat)(k i:Nat):St:=⟨[(3,.bs (.loc 3) 1 1 0 k),(10,.sl (Z1 l) .an),(11,.i .i64 l.length),(12,.i .i64 i)],[(.loc 3,⟨1,.own,1,dps F⟩)],3⟩
theorem zxa(l:List Nd)(hl:l.length≤50000)(F s:List Nat)(i:Nat)(hi:i<l.length)(h1:F.take s.length=s.reverse)(h2:s.length≤F.length)(h3:s.length≤i)(h4:∀n∈F,n≤i)(ha0:0≤arN (l[i]'hi).op)(ha:arN (l[i]'hi).op≤s.length) :
  ∃F':List Nat,(F'.take (Zg5 s (l[i]'hi)).length=(Zg5 s (l[i]'hi)).reverse∧(Zg5 s (l[i]'hi)).length≤F'.length∧∀n∈F',n≤i+1)∧evX (orc T) T 0 l492_1 (Zjk l F s.length i)=some (.n,Zjk l F' (Zg5 s (l[i]'hi)).length (i+1)):=by
 have ca:=za9 (T:=T) (l[i]'hi).op;have hi':(i:Int)<l.length:=by omega
 have hws:=zbj hi (by omega);generalize hx:l[i]'hi=x at *
 obtain⟨a,hea⟩:∃a:Nat,arN x.op=a:=⟨(arN x.op).toNat,by omega⟩;have hak:a≤s.length:=by omega
 have hin:=z9r (T:=T) l F i s.length a hak h2 (fun n hn=>Yc (h4 n hn) (by omega)) (by omega);have hm1:mxT F s.length a≤i:=zw9 F s.length i h4 a
 -- the stack behind the node
 obtain⟨s',hs',hde⟩:∃s':List Nat,(F.take s'.length=s'.reverse∧s'.length=s.length-a)∧Zg5 s x=(mxT F s.length a+1)::s':=by
  unfold Zg5;rcases zay x.op with ⟨e,_⟩ | ⟨e,_⟩ | ⟨e,_⟩ | ⟨e,_⟩
  ·have:a=0:=by omega
   subst this;rw[if_pos e];exact⟨s,⟨h1,rfl⟩,rfl⟩
  ·have:a=1:=by omega
   subst this;rw[if_neg (by omega),if_pos e];cases s with
   | nil=>grind
   | cons u r=>
    obtain⟨t1,t2,t3⟩:=zkz h1;refine⟨r,⟨t1,by simp⟩,?_⟩;show (u+1)::r=(max 0 (F.getD (r.length+1-0-1) 0)+1)::r
    grind
  ·have:a=2:=by omega
   subst this;rw[if_neg (by omega),if_neg (by omega)];cases s with
   | nil=>grind
   | cons u r=>
    obtain⟨t1,t2,t3⟩:=zkz h1;cases r with
    | nil=>grind
    | cons v q=>
     obtain⟨w1,w2,w3⟩:=zkz t1;refine⟨q,⟨w1,by simp⟩,?_⟩;show (max u v+1)::q=(max (max 0 (F.getD (q.length+1+1-0-1) 0)) (F.getD (q.length+1+1-1-1) 0)+1)::q
     grind
  omega
 rw[hde];generalize mxT F s.length a=v at *
 obtain⟨hs1,hs2⟩:=hs';have hle:s'.length≤F.length:=by omega
 refine⟨F.take s'.length++[v+1],⟨?_,?_,?_⟩,?_⟩
 ·rw[Yi,Yb (by grind),hs1,Ydq]
 ·grind
 ·grind
 ·have hp:=zz5 (m:=F) (n:=s'.length) (v+1);rw[hea]at ca;rw[←hs2]at hin;have hwv:IntKind.wrap .i64 ((v:Int)+1)=((v+1:Nat):Int):=zac _ (by omega);have h32:s'.length+1≤4294967296:=by omega
  unfold Zkz at hin;unfold Zjk;simp only[mxT,Nat.sub_zero,Yy]at hin;obtain⟨op,j,n⟩:=x;simp -implicitDefEqProofs[l492_1,hi,hi',hx,hws,hle,h32,ca,hin,hwv]
  grind
theorem zq0(hl:True):∀(l:List Nd) (i:Nat) (s:List Nat),Zt i s.length l=-1→(Zio s l).length=1
 | [],i,s,h=>by
  unfold Zt at h;by_cases h1:(s.length:Int)=1
  ·show s.length=1;omega
  ·omega
 | x::r,i,s,h=>by
  unfold Zt at h;by_cases h1:arN x.op<0∨(s.length:Int)<arN x.op
  ·omega
  ·rw[if_neg h1]at h;refine zq0 hl r (i+1) (Zg5 s x) ?_;rw[←h];congr 1;unfold Zg5;rcases zay x.op with ⟨e,_⟩ | ⟨e,_⟩ | ⟨e,_⟩ | ⟨e,_⟩
   ·rw[if_pos e,e];simp
   ·rw[if_neg (by omega),if_pos e,e,Yi,Yd1];omega
   ·rw[if_neg (by omega),if_neg (by omega),e,Yi,Yd1,Yd1];omega
   ·omega
theorem zz6{s:List Nat}{x:Nd}(h0:0≤arN x.op)(h1:arN x.op≤s.length):((Zg5 s x).length:Int)=s.length+1-arN x.op:=by
 grind[Zg5,zay]
theorem ztb(l:List Nd)(hl:l.length≤50000):Za T 492 [.sl (Z1 l) .an]=some (.i .i64 (Zip l)):=by
 have c:=zs7 (T:=T) l (by omega);by_cases hw:Z7 l=-1
 ·rw[decide_eq_true hw]at c;have e:Zip l=(Zio [] l).headD 0:=by unfold Zip;grind
  have hone:=zq0 trivial l 0 [] hw;have hlo:∃r,(∃F:List Nat,F[0]? = some ((Zio [] l).headD 0)∧r=(Ex.n,(⟨[(3,.bs (.loc 3) 1 1 0 1)],[(.loc 3,⟨1,.own,1,dps F⟩)],3⟩:St)))∧Zp T 0 0 (.norm false [3]) l492_1 (Zjk l [] 0 0)=some r:=by
   refine zaz (fun p:Nat×List Nat×List Nat=>Zjk l p.2.2 p.2.1.length p.1)
    (fun p=>p.1≤l.length∧p.2.2.take p.2.1.length=p.2.1.reverse∧p.2.1.length≤p.2.2.length∧p.2.1.length≤p.1∧(∀n∈p.2.2,n≤p.1)∧(∃j,Zt j p.2.1.length (l.drop p.1)=-1)∧Zio p.2.1 (l.drop p.1)=Zio [] l)
    (fun p=>l.length-p.1) _ ?_ (0,[],[]) ⟨Y1 _,rfl,Yd _,Yd _,by simp,⟨0,hw⟩,rfl⟩
   rintro⟨i,s,F⟩ ⟨hi,h1,h2,h3,h4,⟨j,h5⟩,h6⟩
   by_cases hlt:i<l.length
   ·left;have hd:l.drop i=l[i]'hlt::l.drop (i+1):=Ym hlt;rw[hd]at h5 h6;have hc:¬ (arN (l[i]'hlt).op<0∨(s.length:Int)<arN (l[i]'hlt).op):=by
     grind[Zt]
    unfold Zt at h5;have ha0:0≤arN (l[i]'hlt).op:=by omega
    have ha1:arN (l[i]'hlt).op≤s.length:=by omega
    obtain⟨F',⟨g1,g2,g3⟩,g4⟩:=zxa (T:=T) l hl F s i hlt h1 h2 h3 h4 ha0 ha1;have hln:=zz6 ha0 ha1;refine⟨(i+1,Zg5 s (l[i]'hlt),F'),⟨by omega,g1,g2,by grind,g3,⟨j+1,?_⟩,h6⟩,by omega,g4⟩
    grind
   ·right;have hil:i=l.length:=by omega
    subst hil;rw[Y2]at h5 h6;have hs:Zio s []=s:=rfl;rw[hs]at h6;subst h6;obtain⟨a,ha⟩:∃a,Zio [] l=[a]:=Ybe.1 hone;rw[ha]at h1 h2 ⊢;have hF0:F[0]? = some a:=by
     grind
    refine⟨_,⟨F,hF0,rfl⟩,?_⟩;unfold Zjk;clear h4 h1;constructor<;>simp -implicitDefEqProofs[l492_1]
  obtain⟨_,⟨F,hF,rfl⟩,hlo⟩:=hlo;rw[e];unfold Zjk at hlo;simp only[Yy,z33]at hlo;obtain⟨hlt,hge⟩:=Ye.1 hF;rw[zab Zbp.h492 rfl,b492];simp -implicitDefEqProofs[c,hlo,hge,hlt]
 ·rw[decide_eq_false hw]at c;have e:Zip l=0:=by unfold Zip;grind
  rw[e,zab Zbp.h492 rfl,b492];simp -implicitDefEqProofs[c]
end
section
variable{T:Tbl}[Zbz T][Zc2 T]
theorem zm2(c:UInt8):Za T 185 [u8 c.toNat]=some (.b (isD c)):=by
 rw[zab Zc2.h185 rfl,b185];by_cases h1:48≤c.toNat
 ·simp -implicitDefEqProofs[isD,h1]
 ·simp -implicitDefEqProofs[isD,h1]
theorem zjp(c:UInt8):Za T 186 [u8 c.toNat]=some (.b (isL c)):=by
 rw[zab Zc2.h186 rfl,b186];by_cases h1:97≤c.toNat<;>by_cases h2:c.toNat≤122<;>by_cases h3:65≤c.toNat<;>by_cases h4:c.toNat≤90<;>by_cases h5:c.toNat=95 <;>
  simp -implicitDefEqProofs[isL,h1,h2,h3,h4,h5]
theorem zzd(c:UInt8):Za T 187 [u8 c.toNat]=some (.b (isS c)):=by rw[p187,zti]
theorem zze(c:UInt8):Za T 177 [u8 c.toNat]=some (.i .i64 (Zbf c)):=by
 have h1:=zm2 (T:=T) c;have h2:=zjp (T:=T) c;have h3:=zzd (T:=T) c;rw[zab Zc2.h177 rfl,b177];cases e1:isD c<;>cases e2:isL c<;>cases e3:isS c<;>simp -implicitDefEqProofs[Zbf,h1,h2,h3,e1,e2,e3]
theorem zzf(k:Nat)(c:UInt8):Za T 188 [.i .i64 k,u8 c.toNat]=some (.b (Zge k c)):=by
 have h1:=zm2 (T:=T) c;have h2:=zjp (T:=T) c;rw[zab Zc2.h188 rfl,b188];by_cases k1:k=1
 ·subst k1;cases e1:isD c<;>cases e2:isL c<;>simp -implicitDefEqProofs[Zge,h1,e1,e2]
 ·have k1':¬ (k:Int)=1:=by omega
  by_cases k2:k=2
  ·subst k2;cases e1:isD c<;>cases e2:isL c<;>simp -implicitDefEqProofs[Zge,h1,h2,e1,e2]
  ·have k2':¬ (k:Int)=2:=by omega
   simp -implicitDefEqProofs[Zge,k1,k2,k1',k2']
theorem zzg(k:Nat):Za T 179 [.i .i64 k]=some (.i .i64 (Zfc k)):=by
 rw[zab Zc2.h179 rfl,b179];by_cases k1:k=1
 ·subst k1;simp -implicitDefEqProofs[Zfc]
 ·have k1':¬ (k:Int)=1:=by omega
  by_cases k2:k=2
  ·subst k2;simp -implicitDefEqProofs[Zfc]
  ·have k2':¬ (k:Int)=2:=by omega
   simp -implicitDefEqProofs[Zfc,k1,k2,k1',k2']
theorem zss(s:List UInt8)(hs:s.length≤1000000)(k F:Nat):∀n:Nat,(n≤s.length∧n+((s.drop n).takeWhile (Zge k)).length=F) →
  Zp T 0 0 (.norm false [5]) l178_0 ⟨[(0,.s s),(1,.i .i64 k),(5,.i .i64 n)],[],2⟩=some (.n,⟨[(5,.i .i64 F)],[],2⟩):=by
 refine zbm (fun n:Nat=>⟨[(0,.s s),(1,.i .i64 k),(5,.i .i64 n)],[],2⟩) _ (fun n=>s.length-n) _ ?_
 rintro n ⟨hn,hF⟩
 by_cases h0:n<s.length
 ·have hd:=Ym h0;have hgo:=zzf (T:=T) k (s[n]'h0);have hw:IntKind.wrap .i64 ((n:Int)+1)=((n+1:Nat):Int):=zac _ (by omega);by_cases hc:Zge k (s[n]'h0)=true
  ·left;rw[hd,List.takeWhile_cons_of_pos hc]at hF;refine⟨n+1,⟨h0,by grind⟩,by omega,?_,rfl⟩;simp -implicitDefEqProofs[l178_0,h0,hgo,hc,hw]
  ·right;rw[hd,List.takeWhile_cons_of_neg hc]at hF;subst hF;constructor<;>simp -implicitDefEqProofs[l178_0,h0,hgo,hc]
 ·right;have:n=s.length:=by omega
  subst this;rw[Y2]at hF;subst hF;constructor<;>simp -implicitDefEqProofs[l178_0]
theorem zwh(c:UInt8)(r:List UInt8)(hs:r.length≤100000)(k:Nat):Za T 178 [.s (c::r),.i .i64 k]=some (.i .i64 (Zdg k r)):=by
 have h:=zss (T:=T) (c::r) (by grind) k (Zdg k r) 1 ⟨by simp,rfl⟩;rw[zab Zc2.h178 rfl,b178]
 simp_all
def wdR(w:Wd):List AV:=[.i .i64 w.1,.s w.2.1,.i .i64 w.2.2]
def Zkt(l:List Wd):List (List AV):=l.map wdR
def Zol(s:List UInt8)(i:Nat)(acc:List Wd):St:=
 ⟨[(0,.s s),(3,.ptr (.loc 3) 1 4 0 0),(4,.bs (.loc 4) 2 3 0 acc.length),(5,.i .i64 i)],[(.loc 3,⟨1,.str,4,[[.i .i64 0,.i .i64 0,.i .i64 0,.i .i64 0]]⟩),(.loc 4,⟨2,.own,3,Zkt acc⟩)],4⟩
def Zom:Except Nat (List Wd)→Option (Ex×St)
 | .ok ws=>some (.n,⟨[(3,.ptr (.loc 3) 1 4 0 0),(4,.bs (.loc 4) 2 3 0 ws.length)],[(.loc 3,⟨1,.str,4,[[.i .i64 0,.i .i64 0,.i .i64 0,.i .i64 0]]⟩),(.loc 4,⟨2,.own,3,Zkt ws⟩)],4⟩)
 | .error e=>some (.r,⟨[(2,.sl [] .an),(3,.ptr (.loc 3) 1 4 0 0)],[(.loc 3,⟨1,.str,4,[[.i .i64 1,.i .i64 0,.i .i64 0,.i .i64 e]]⟩)],3⟩)
def Zm4(r:Except Nat (List Wd)):AV:=
 match r with
 | .ok ws=>.tup [.sl (Zkt ws) .an,.agg [.i .i64 0,.i .i64 0,.i .i64 0,.i .i64 0]]
 | .error e=>.tup [.sl [] .an,.agg [.i .i64 1,.i .i64 0,.i .i64 0,.i .i64 e]]
def Zon(s:List UInt8):Except Nat (List Wd):=if 4000<s.length then .error 4000 else Zly (s.drop (Zi8 false s)) (Zi8 false s) []
def Zel(k:Int)(t:List UInt8):Bool:=
 match t with
 | []=>false
 | c::r=>decide (k≠0)&&decide ((Zbf c:Int)=k)&&decide (Zdg (Zbf c) r=r.length+1)&&decide (r.length+1≤Zfc (Zbf c))
theorem zwi(k a:Int)(t:List UInt8)(ht:t.length≤100000):Za T 172 [.agg [.i .i64 k,.s t,.i .i64 a]]=some (.b (Zel k t)):=by
 rw[zab Zc2.h172 rfl,b172];cases t with
 | nil=>simp -implicitDefEqProofs[Zel]
 | cons c r=>
  simp only[Yi]at ht;have hk:=zze (T:=T) c;have hf:=zwh (T:=T) c r (by omega) (Zbf c);have hm:=zzg (T:=T) (Zbf c);by_cases h0:k=0
  ·simp -implicitDefEqProofs[Zel,h0]
  ·by_cases h1:(Zbf c:Int)=k
   ·subst h1;have h0':¬ Zbf c=0:=by omega
    by_cases h2:Zdg (Zbf c) r=r.length+1
    ·by_cases h3:r.length+1≤Zfc (Zbf c)
     ·have h3':(r.length:Int)+1≤(Zfc (Zbf c):Nat):=by omega
      simp -implicitDefEqProofs[Zel,h0',hk,hf,hm,h2,h3,h3']
     ·have h3':¬ (r.length:Int)+1≤(Zfc (Zbf c):Nat):=by omega
      simp -implicitDefEqProofs[Zel,h0',hk,hf,hm,h2,h3,h3']
    ·have h2':¬ ((Zdg (Zbf c) r:Nat):Int)=(r.length:Int)+1:=by omega
     simp -implicitDefEqProofs[Zel,h0',hk,hf,h2,h2']
   ·simp -implicitDefEqProofs[Zel,h0,hk,h1]
abbrev Wz:=Int×List UInt8×Int
def wzR(w:Wz):List AV:=[.i .i64 w.1,.s w.2.1,.i .i64 w.2.2]
def Zml(l:List Wz):List (List AV):=l.map wzR
def Zpm(l:List Wz)(i:Nat)(b:BId):St:=
 ⟨[(3,.bs (.loc 3) 1 1 0 i),(6,.sl (Zml l) .an),(7,.i .i64 l.length),(8,.i .i64 i)],[(.loc 3,⟨1,.own,1,Zbu ((l.take i).map (·.2.1))⟩)],3⟩
end
def nameB(s:List UInt8):Bool:=Zel 2 s&&decide (s≠[116])&&decide (s≠[121])&&decide (s≠[112])&&decide (s≠[108,101,116])
def twB(l:List Lt)(nm:List UInt8):Bool:=l.any fun x=>decide (x.name=nm)
def ptA(dim pars lets:Int)(c:List Nd):Int:=if Za0 dim pars lets c<0∧40<Zip c then c.length else Za0 dim pars lets c
def Zhz(dim pars:Int)(L:List Lt):Nat→List Lt→Option (Int×Int×Int)
 | _,[]=>none
 | i,x::r=>if nameB x.name=false∨twB (L.take i) x.name=true then some ((i:Int)+1,1,0) else if 0≤ptA dim pars i x.code then some ((i:Int)+1,0,ptA dim pars i x.code) else Zhz dim pars L (i+1) r
def Ziq(dim pars:Int)(n:Nat):Nat→List (List Nd)→Option (Int×Int×Int)
 | _,[]=>none
 | i,c::r=>if 0≤ptA dim pars n c then some (((n+i:Nat):Int)+1,0,ptA dim pars n c) else Ziq dim pars n (i+1) r
def whB(f:Fd)(dim pars:Int):Bool:=decide (1≤dim∧dim≤6∧0≤pars∧pars≤6∧(f.outs.length:Int)=dim∧f.lets.length≤10∧Zaw f≤300)
def Zeu(f:Fd)(dim pars:Int):Option (Int×Int×Int):=
 if whB f dim pars=false then some (0,0,0) else match Zhz dim pars f.lets 0 f.lets with
  | some q=>some q
  | none=>Ziq dim pars f.lets.length 0 f.outs
theorem zey{α:Type}{motive:List α→Prop}(nil:motive [])(append_singleton:∀(l:List α) (x:α),motive l→motive (l++[x]))(l:List α):motive l:=by
 have key:∀l:List α,motive l.reverse:=by
  intro l
  induction l with
  | nil=>exact nil
  | cons x l ih=>rw[Ydq];exact append_singleton _ x ih
 rw[←List.reverse_reverse l];exact key _
def inE(E:List (List Nd))(c:List Nd):List Nd:=c.flatMap fun x=>if x.op=5 then (E[x.i.toNat]?).getD [] else [x]
def Zn2(L:List (List Nd)):List (List Nd):=L.foldl (fun E c=>E++[inE E c]) []
def refB(b:Nat)(c:List Nd):Prop:=∀x∈c,x.op=5→0≤x.i∧x.i<b
theorem refB.mono{b b':Nat}{c:List Nd}(h:refB b c)(hb:b≤b'):refB b' c:=fun x hx ho=>by have:=h x hx ho;omega
def refT(L:List (List Nd)):Prop:=∀(i:Nat) (c:List Nd),L[i]? = some c→refB i c
def Zo8(c:List Nd):Prop:=∀x∈c,x.op≠5
def szC(S:List Nat)(c:List Nd):Nat:=c.foldl (fun n x=>min (n+if x.op=5 then (S[x.i.toNat]?).getD 0 else 1) 1201) 0
def szT(L:List (List Nd)):List Nat:=L.foldl (fun S c=>S++[szC S c]) []
def Zn3(E:List (List Nd))(O:List (List Nd)):Nat:=(O.map fun c=>(inE E c).length).sum
theorem zxo{dim pars lets:Int}{c:List Nd}(h:ptA dim pars lets c<0):Za0 dim pars lets c<0∧Zip c≤40:=by
 unfold ptA at h;by_cases h1:Za0 dim pars lets c<0∧40<Zip c
 ·rw[if_pos h1]at h;omega
 ·rw[if_neg h1]at h;exact⟨h,by omega⟩
theorem znn{dim pars:Int}{L:List Lt}:∀(l:List Lt) (i:Nat),Zhz dim pars L i l=none→∀k x,l[k]? = some x→ptA dim pars ((i+k:Nat):Int) x.code<0
 | [],i,h,k,x,hk=>by simp at hk
 | y::r,i,h,k,x,hk=>by
  unfold Zhz at h;split at h
  ·cases h
  ·split at h
   ·cases h
   ·next h2=>
    cases k with
    | zero=>
     simp only[Ybb,Option.some.injEq]at hk;subst hk;rw[Yab];omega
    | succ k=>
     rw[Ya1]at hk;have:=znn r (i+1) h k x hk
     rwa [show i+1+k=i+(k+1) by omega]at this
theorem zno{dim pars:Int}{n:Nat}:∀(l:List (List Nd)) (i:Nat),Ziq dim pars n i l=none→∀c∈l,ptA dim pars n c<0
 | [],i,h,c,hc=>by simp at hc
 | y::r,i,h,c,hc=>by
  unfold Ziq at h;split at h
  ·cases h
  ·rcases Y6.1 hc with rfl | hc
   ·omega
   ·exact zno r (i+1) h c hc
structure FineD (f:Fd) (dim pars:Int):Prop where
 wh:1≤dim∧dim≤6∧0≤pars∧pars≤6∧(f.outs.length:Int)=dim∧f.lets.length≤10∧Zaw f≤300
 lets:∀k x,f.lets[k]? = some x→Za0 dim pars (k:Nat) x.code<0
 outs:∀c∈f.outs,Za0 dim pars f.lets.length c<0
theorem zd7{f:Fd}{dim pars:Int}(h:Zeu f dim pars=none):FineD f dim pars:=by
 unfold Zeu at h;cases hW:whB f dim pars with
 | false=>rw[hW,if_pos rfl]at h;cases h
 | true=>
  rw[hW,if_neg (by decide)]at h;have hw:=by simpa[whB]using hW
  cases hL:Zhz dim pars f.lets 0 f.lets with
  | some q=>rw[hL]at h;cases h
  | none=>
   rw[hL]at h;refine⟨hw,fun k x hk=>?_,fun c hc=>(zxo (zno _ _ h c hc)).1⟩;have:=znn _ _ hL k x hk;rw[Yan]at this;exact(zxo this).1
theorem zk7{dim pars lets:Int}{x:Nd}(h:okN dim pars lets x=true)(ho:x.op=5):0≤x.i∧x.i<lets:=by
 unfold okN at h;rw[ho,if_neg (by decide)]at h;split at h
 ·cases h
 ·simpa[Zgf]using h
theorem FineD.refT{f:Fd}{dim pars:Int}(h:FineD f dim pars):refT (f.lets.map (·.code)):=by
 intro i c hc x hx ho;rw[Yak]at hc;obtain⟨y,hy,rfl⟩:=Yaa.1 hc;obtain⟨_,_,_,hok⟩:=za6 (h.lets i y hy);exact zk7 (hok x hx) ho
theorem FineD.refB{f:Fd}{dim pars:Int}(h:FineD f dim pars):∀c∈f.outs,refB f.lets.length c:=by
 intro c hc x hx ho;obtain⟨_,_,_,hok⟩:=za6 (h.outs c hc);exact zk7 (hok x hx) ho
theorem ztm{l:List Nat}{n:Nat}(h:n∈l):n≤l.sum:=by
 induction l with
 | nil=>cases h
 | cons m l ih=>
  rw[Ydu];rcases Y6.1 h with rfl | h
  ·omega
  ·have:=ih h;omega
theorem FineD.len{f:Fd}{dim pars:Int}(h:FineD f dim pars):∀c∈codesD f,c.length≤300:=by
 intro c hc;have:=h.wh.2.2.2.2.2.2;unfold Zaw at this;have h2:c.length≤((codesD f).map List.length).sum:=ztm (Yz.2 ⟨c,hc,rfl⟩);omega
theorem zj2{f:Fd}{x:Lt}(h:x∈f.lets):x.code∈codesD f:=Y4 _ (Yz.2 ⟨x,h,rfl⟩)
theorem zj3{f:Fd}{c:List Nd}(h:c∈f.outs):c∈codesD f:=Yw _ h
def Zo9(f:Fd):Bool:=decide (0<f.lets.length) || f.outs.any fun c=>c.any fun x=>decide (x.op=5)
abbrev Zm0(f:Fd):List (List Nd):=Zn2 (f.lets.map (·.code))
def Zqo(f:Fd):Bool:=decide (Zeu f f.outs.length 6=none)&&decide (Zn3 (Zm0 f) f.outs≤1200)
def Zpa(f:Fd):List (List Nd):=f.outs.map (inE (Zm0 f))
class Zmc (T:Tbl):Prop where
class Zm7 (T:Tbl):Prop where
def prim344:List AV→Option AV
 | [.s s,.s [47,46]]=>if s.length≤1000000 then some (.i .i64 (Lib.indexAny s [47,46])) else none
 | _=>none
def prim194:List AV→Option AV
 | [.s s,.s [c]]=>some (.i .i64 (Lib.indexByte s c))
 | _=>none
def prim361:List AV→Option AV
 | [.s s,.s [c]]=>some (.i .i64 (Lib.countByte s c))
 | _=>none
def prim343:List AV→Option AV
 | [.s [48],.i .i64 n]=>if 0≤n∧n≤64 then some (.s (List.replicate n.toNat 48)) else none
 | _=>none
class Zme (T:Tbl):Prop where
class Zkm (T:Tbl):Prop where
def Zji(c:UInt8):List UInt8→List (List UInt8)
 | []=>[[]]
 | b::l=>if b=c then []::Zji c l else match Zji c l with
  | []=>[[b]]
  | p::r=>(b::p)::r
section
variable{T:Tbl}[Zme T][Zkm T]
def Zql(c:UInt8)(N:Nat)(ps:List (List UInt8))(s:List UInt8):St:=
 ⟨[(0,.s s),(1,.s [c]),(2,.i .i64 0),(3,.i .i64 ((N:Int)-1)),(9,.bs (.loc 31) 1 1 0 N),(10,.i .i64 ps.length)],[(.loc 31,⟨1,.own,1,Zbu ps++List.replicate (N-ps.length) [.s []]⟩)],3⟩
end
abbrev flt(k a:Int):AV:=.agg [.i .i64 k,.i .i64 0,.i .i64 0,.i .i64 a]
def Zlr(c:UInt8):Bool:=c == 47 || c == 46
def Zkq:List UInt8→Nat
 | []=>0
 | c::r=>if Zlr c then 0 else Zkq r+1
def Znd(z:Int)(neg:Bool)(s:List UInt8)(c:UInt8)(at_:Nat):Rat×Int×Int:=
 let rest:=s.drop at_
 if 0≤Zjm rest then (0,1,Zjm rest+at_)
 else if c=47 then (if rd rest=0 then (0,2,at_) else (mkRat z (rd rest),0,0))
 else (mkRat (sg neg (z.natAbs*10^rest.length+rd rest)) (10^rest.length),0,0)
def Zla(s:List UInt8):Rat×Int×Int:=
 let first:=s.take (Zkq s)
 if 0≤Zk1 first then (0,1,Zk1 first+Zmq first)
 else if Zkq s<s.length then Znd (Zlt first) (s.head? = some 45) s (s.getD (Zkq s) 0) (Zkq s+1)
 else (mkRat (Zlt first) 1,0,0)
def Zls:List (List UInt8)→Nat→List Rat→List Rat×Int×Int
 | [],_,acc=>(acc,0,0)
 | w::ws,k,acc=>if (Zla w).2.1=0 then Zls ws (k+w.length+1) (acc++[(Zla w).1]) else ([],(Zla w).2.1,(Zla w).2.2+k)
def Zph(s:List UInt8):List Rat×Int×Int:=if s=[] then ([],0,0) else Zls (Zji 44 s) 0 []
section
variable{T:Tbl}[Z5 T][Zo T][Zy T][Zz T][Zq T][Zu T][Zb3 T][Zai T][Zj T][Zn T][Zs T][Za5 T][Zme T][Zkm T][Zcl T][Zm7 T][Zbz T][Zdu T][Zmc T]
def Zpi(ws:List (List UInt8))(y:Nat×Nat×List Rat):St:=
 ⟨[(3,.ptr (.loc 3) 1 4 0 0),(4,.bs (.loc 4) 2 3 0 y.2.2.length),(5,.i .i64 y.2.1),(14,.sl (Zbu ws) .an),(15,.i .i64 ws.length),(16,.i .i64 y.1)],
  [(.loc 3,⟨1,.str,4,[[.i .i64 0,.i .i64 0,.i .i64 0,.i .i64 0]]⟩),(.loc 4,⟨2,.own,3,Zf (fzs y.2.2)⟩)],4⟩
def Zoa(r:List Rat×Int×Int):Option (Ex×St):=
 if r.2.1=0 then some (.n,⟨[(3,.ptr (.loc 3) 1 4 0 0),(4,.bs (.loc 4) 2 3 0 r.1.length)],[(.loc 3,⟨1,.str,4,[[.i .i64 0,.i .i64 0,.i .i64 0,.i .i64 0]]⟩),(.loc 4,⟨2,.own,3,Zf (fzs r.1)⟩)],4⟩)
 else some (.r,⟨[(2,.sl [] .an),(3,.ptr (.loc 3) 1 4 0 0)],[(.loc 3,⟨1,.str,4,[[.i .i64 r.2.1,.i .i64 0,.i .i64 0,.i .i64 r.2.2]]⟩)],3⟩)
end
def Dig(l:List UInt8):Prop:=∀c∈l,48≤c.toNat∧c.toNat≤57
theorem zrc{n:Nat}(h:n<10):(UInt8.ofNat (48+n)).toNat=48+n:=by
 rw[UInt8.toNat_ofNat'];omega
theorem zrd(n:Nat):rd (Z8 n)=n:=by
 induction n using Nat.strongRecOn with
 | _ n ih=>
  by_cases h:n<10
  ·rw[zdp h];show 0*10+((UInt8.ofNat (48+n)).toNat-48)=n;rw[zrc h];omega
  ·rw[zie h,z4d,ih (n/10) (by omega),zrc (by omega)];omega
def Zpc(l:List UInt8):Prop:=∀c∈l,Zlr c=false
theorem Ins.ext'{x y:Ins}(h1:x.op=y.op)(h2:x.a=y.a)(h3:x.b=y.b)(h4:x.n=y.n):x=y:=by
 obtain⟨_,_,_,_⟩:=x;obtain⟨_,_,_,_⟩:=y
 simp_all
instance:DecidableEq Ins:=fun x y=>decidable_of_iff (x.op=y.op∧x.a=y.a∧x.b=y.b∧x.n=y.n) ⟨fun h=>Ins.ext' h.1 h.2.1 h.2.2.1 h.2.2.2,fun h=>by subst h;exact⟨rfl,rfl,rfl,rfl⟩⟩
def blk:Fz:=(false,[],[])
def MkI(x:Ins):Prop:=(x.op=1→∃n:Nat,x.n=fz (n:Rat))∧(x.op≠1→x.n=blk)
def Zgc(x:Ins):List UInt8:=if x.op=1 then Z8 (val x.n.2.1) else []
def Zht(x:Ins):AV:=.agg [.i .i64 x.op,.i .i64 x.a,.i .i64 x.b,.s (Zgc x)]
abbrev lsK:List (Nat×Leaf):=[(0,.int),(1,.int),(2,.int),(3,.str)]
theorem zpe(x y:Ins):Zcw (.fs lsK) (Zht x) (Zht y)=some (decide (x.op=y.op∧x.a=y.a∧x.b=y.b∧Zgc x=Zgc y)):=by
 unfold Zht;simp only[Zcw,eqL,Ybb,Ya1,Zdb];by_cases h1:x.op=y.op<;>by_cases h2:x.a=y.a<;>by_cases h3:x.b=y.b<;>by_cases h4:Zgc x=Zgc y<;>simp[h1,h2,h3,h4]
theorem z4f{x y:Ins}(hx:MkI x)(hy:MkI y)(h:x.op=y.op∧x.a=y.a∧x.b=y.b∧Zgc x=Zgc y):x=y:=by
 obtain⟨h1,h2,h3,h4⟩:=h;refine Ins.ext' h1 h2 h3 ?_;by_cases ho:x.op=1
 ·obtain⟨n,hn⟩:=hx.1 ho;obtain⟨m,hm⟩:=hy.1 (h1▸ho);unfold Zgc at h4;rw[if_pos ho,if_pos (h1▸ho)]at h4;have h5:val x.n.2.1=val y.n.2.1:=by rw[←zrd (val x.n.2.1),h4,zrd]
  have key:∀k:Nat,val (fz (k:Rat)).2.1=k:=fun k=>by
   unfold fz;simp[zae]
  rw[hn,hm,key,key]at h5;rw[hn,hm,h5]
 ·rw[hx.2 ho,hy.2 (h1▸ho)]
def Zgd(x:Ins):Nat→List Ins→Option Nat
 | _,[]=>none
 | k,y::r=>if y=x then some k else Zgd x (k+1) r
def Zg6:Nat→List Ins→List (List AV)
 | _,[]=>[]
 | k,y::r=>[Zht y,.i .i64 (k:Int)]::Zg6 (k+1) r
@[simp] theorem z0i(k:Nat):Zg6 k []=[]:=rfl
theorem znk(x:Ins):∀(C:List Ins) (k:Nat),Zg6 k (C++[x])=Zg6 k C++[[Zht x,.i .i64 ((k+C.length:Nat):Int)]]
 | [],k=>rfl
 | y::r,k=>by
  show _::Zg6 (k+1) (r++[x])=_::(Zg6 (k+1) r++_);rw[znk x r (k+1),Yi,show k+1+r.length=k+(r.length+1) by omega]
@[simp] theorem zxl:∀(C:List Ins) (k:Nat),wkL (Zg6 k C)=Zg6 k C
 | [],k=>rfl
 | y::r,k=>by
  show wkR [Zht y,.i .i64 (k:Int)]::wkL (Zg6 (k+1) r)=_;rw[zxl r (k+1)]
  rfl
theorem zii(x:Ins)(hx:MkI x):∀(C:List Ins) (k:Nat),(∀y∈C,MkI y)→Zew (.fs lsK) (Zht x) (Zg6 k C)=some ((Zgd x k C).map fun i=>.i .i64 (i:Int))
 | [],k,_=>rfl
 | y::r,k,h=>by
  show (Zcw (.fs lsK) (Zht x) (Zht y)).bind _=_;rw[zpe,Yac];by_cases hxy:y=x
  ·subst hxy;rw[decide_eq_true ⟨rfl,rfl,rfl,rfl⟩,if_pos rfl];unfold Zgd;rw[if_pos rfl]
   rfl
  ·have:¬ (x.op=y.op∧x.a=y.a∧x.b=y.b∧Zgc x=Zgc y):=fun hh=>hxy (z4f hx (h y Yp) hh).symm;rw[decide_eq_false this,if_neg (by decide)];unfold Zgd;rw[if_neg hxy];exact zii x hx r (k+1) fun z hz=>h z (Yj _ hz)
theorem zk4(x:Ins):∀(C:List Ins) (k i:Nat),Zgd x k C=some i→k≤i∧i<k+C.length∧C[i-k]? = some x
 | [],k,i,h=>by cases h
 | y::r,k,i,h=>by
  unfold Zgd at h;split at h
  ·next hy=>
   cases h;subst hy;exact⟨Yd _,by simp,by simp⟩
  ·obtain⟨h1,h2,h3⟩:=zk4 x r (k+1) i h;refine⟨by omega,by simp only[Yi];omega,?_⟩;rw[show i-k=(i-(k+1))+1 by omega,Ya1];exact h3
theorem znl(x:Ins):∀(C:List Ins) (k:Nat),Zgd x k C=none→x∉C
 | [],k,_=>by simp
 | y::r,k,h=>by
  unfold Zgd at h;split at h
  ·cases h
  ·next hy=>
   intro hm;rcases Y6.1 hm with e | hm
   ·exact hy e.symm
   ·exact znl x r (k+1) h hm
def Zb9(C:List Ins)(x:Ins):List Ins×Nat:=match Zgd x 0 C with | some i=>(C,i) | none=>(C++[x],C.length)
def Zdo(x:Nd):Ins:=if x.op=1 then ⟨1,0,0,fz ((val x.n:Nat):Rat)⟩ else if x.op=2 then ⟨2,0,0,blk⟩ else ⟨x.op,x.i,0,blk⟩
def ndI(Ls:List Nat)(C:List Ins)(s:List Nat)(x:Nd):List Ins×Nat:=
 if x.op=5 then (C,(Ls[x.i.toNat]?).getD 0)
 else if arN x.op=0 then Zb9 C (Zdo x)
 else if arN x.op=1 then Zb9 C ⟨x.op,((s[s.length-1]?).getD 0:Nat),x.i,blk⟩
 else Zb9 C ⟨x.op,((s[s.length-2]?).getD 0:Nat),((s[s.length-1]?).getD 0:Nat),blk⟩
structure Mq where
 C:List Ins
 W:List Nat
 s:List Nat
def Zag(Ls:List Nat)(q:Mq)(x:Nd):Mq:=⟨(ndI Ls q.C q.s x).1,q.W++[(ndI Ls q.C q.s x).2],q.s.take (q.s.length-(arN x.op).toNat)++[(ndI Ls q.C q.s x).2]⟩
def exQ(Ls:List Nat)(C:List Ins)(W:List Nat)(c:List Nd):Mq:=c.foldl (Zag Ls) ⟨C,W,[]⟩
theorem zq5(Ls:List Nat)(C:List Ins)(W:List Nat)(c:List Nd)(x:Nd):exQ Ls C W (c++[x])=Zag Ls (exQ Ls C W c) x:=by simp[exQ]
theorem zpf{C:List Ins}{x:Ins}(hC:∀y∈C,MkI y)(hx:MkI x):∀y∈(Zb9 C x).1,MkI y:=by
 unfold Zb9;split
 ·exact hC
 ·intro y hy;rcases Yr.1 hy with h | h
  ·exact hC y h
  ·rw[Yad]at h;rw[h];exact hx
theorem zq6(x:Nd):MkI (Zdo x):=by
 unfold Zdo;split
 ·exact⟨fun _=>⟨_,rfl⟩,fun h=>absurd rfl h⟩
 ·next h1=>
  split
  ·exact⟨fun h=>absurd h (by decide),fun _=>rfl⟩
  ·exact⟨fun h=>absurd h h1,fun _=>rfl⟩
theorem z9v{Ls:List Nat}{C:List Ins}{s:List Nat}{x:Nd}(hC:∀y∈C,MkI y):∀y∈(ndI Ls C s x).1,MkI y:=by
 unfold ndI;split
 ·exact hC
 ·split
  ·exact zpf hC (zq6 x)
  ·next h0=>
   have h1:x.op≠1:=fun h=>h0 (by rw[h];decide);split
   ·exact zpf hC ⟨fun h=>absurd h h1,fun _=>rfl⟩
   ·exact zpf hC ⟨fun h=>absurd h h1,fun _=>rfl⟩
theorem zq7(Ls:List Nat):∀(c:List Nd) (q:Mq),(∀y∈q.C,MkI y)→∀y∈(c.foldl (Zag Ls) q).C,MkI y
 | [],q,h=>h
 | x::c,q,h=>zq7 Ls c (Zag Ls q x) (z9v h)
theorem zfp(C:List Ins)(x:Ins):C.length≤(Zb9 C x).1.length∧(Zb9 C x).1.length≤C.length+1∧(Zb9 C x).2<(Zb9 C x).1.length:=by
 unfold Zb9;split
 ·next i h=>
  have:=zk4 x C 0 i h;exact⟨Yd _,by simp,by simpa using this.2.1⟩
 ·simp
class Zm8 (T:Tbl):Prop where
abbrev mkP:AV:=.ptr (.bor 0) 0 2 0 0
def Znm(E:List (List Nd))(D:List Nat):List (List AV):=D.map fun(i:Nat)=>[.i .i64 (i:Int),.sl (Z1 ((E[i]?).getD [])) .an]
def plH(L:List Lt)(E:List (List Nd))(D:List Nat):Heap:=[(.bor 0,⟨0,.str,2,[[.sl (Z3 L) .an,.fnp 0 (.bor 1) 1 2 0 0]]⟩),(.bor 1,⟨1,.mp,2,Znm E D⟩)]
theorem zgr{k:KTy}{id:BId}{g:Nat}{i y:AV}{h:Heap}{clk:Nat}:Zii k (.fnp 0 id g 2 0 0) i y h clk =
  (Zfo h id g).bind fun bx=>if (Zcw k i i).isSome&&noRef i&&noRef y&&Ziv (Zew k i bx.els) then some (.dead,(id,⟨g,.mp,2,bx.els++[[i,y]]⟩)::h,clk) else none:=rfl
def Zpq(L:List Lt)(E:List (List Nd))(D:List Nat)(out c:List Nd)(i:Nat):St:=
 ⟨[(0,mkP),(5,.bs (.loc 5) 5 3 0 out.length),(8,.sl (Z1 c) .an),(9,.i .i64 c.length),(10,.i .i64 i)],plH L E D++[(.loc 5,⟨5,.own,3,Z1 out⟩)],7⟩
end Go.Ab
section
namespace Go.Ab
end Go.Ab
end
namespace Go.Ab
def Zbj(S:List Nat):List (List AV):=S.map fun(n:Nat)=>[.i .i64 (n:Int)]
@[simp] theorem zc2(S:List Nat):(Zbj S).length=S.length:=by simp[Zbj]
@[simp] theorem zaie(S:List Nat):wkL (Zbj S)=Zbj S:=by rw[zb4];simp[Zbj,wkR,wkA]
@[simp] theorem zadc(S:List Nat)(i:Nat)(h:i<(Zbj S).length):(Zbj S)[i]=[.i .i64 ((S[i]'(by simpa using h):Nat):Int)]:=by simp[Zbj]
@[simp] theorem zzs:Zbj []=[]:=rfl
theorem zfm(S:List Nat)(n:Nat):Zbj S++[[.i .i64 (n:Int)]]=Zbj (S++[n]):=by simp[Zbj]
def Zpr(S:List Nat)(n:Nat)(c:List Nd)(i:Nat):St:=
 ⟨[(1,.bs (.bor 0) 0 1 0 S.length),(5,.i .i64 (n:Int)),(8,.sl (Z1 c) .an),(9,.i .i64 c.length),(10,.i .i64 (i:Int))],[(.bor 0,⟨0,.own,1,Zbj S⟩)],4⟩
abbrev cmP:AV:=.ptr (.bor 0) 0 4 0 0
def cmH(gc gw:Nat)(C:List Ins)(L W:List Nat):Heap:=
 [(.bor 0,⟨0,.str,4,[[.bs (.bor 1) gc 6 0 C.length,.fnp 0 (.bor 2) 2 2 0 0,.bs (.bor 3) 3 1 0 L.length,.bs (.bor 4) gw 1 0 W.length]]⟩),(.bor 1,⟨gc,.own,6,Zcz C⟩),(.bor 2,⟨2,.mp,2,Zg6 0 C⟩),(.bor 3,⟨3,.own,1,Zbj L⟩),(.bor 4,⟨gw,.own,1,Zbj W⟩)]
section
variable{T:Tbl}[Zai T][Zav T]
theorem zmt(C:List Ins)(L W:List Nat)(x:Ins)(hC:∀y∈C,MkI y)(hx:MkI x)(hn:x.n.2.1.length≤1000)(i:Nat)(hi:Zgd x 0 C=some i) :
  Z0 T 650 [cmP,.agg (Zeb x)] (cmH 1 4 C L W)=some (.i .i64 (i:Int),cmH 1 4 C L W):=by
 have hf:=zii x hx C 0 hC;rw[hi]at hf;have hk:=zpe x x;rw[decide_eq_true ⟨rfl,rfl,rfl,rfl⟩]at hk;unfold Zht at hf hk;unfold cmH;by_cases ho:x.op=1
 ·have c68:Za T 68 [.sl (Zb x.n.2.1) .an]=some (.s (Z8 (val x.n.2.1))):=by
   rw[p68];exact zd5 x.n.2.1 hn
  have ht:Zgc x=Z8 (val x.n.2.1):=if_pos ho;rw[ht]at hf hk;obtain⟨op,a,b,⟨n0,n1,n2⟩⟩:=x;dsimp only at *
  subst ho;generalize Z8 (val n1)=tx at *
  rw[zal Zav.h650 rfl,b650];simp -implicitDefEqProofs[hf,hk,c68,Zba,zgr]
 ·have ht:Zgc x=[]:=if_neg ho;rw[ht]at hf hk;obtain⟨op,a,b,⟨n0,n1,n2⟩⟩:=x;dsimp only at *
  rw[zal Zav.h650 rfl,b650];simp -implicitDefEqProofs[hf,hk,ho,Zba,zgr]
theorem zmu(C:List Ins)(L W:List Nat)(x:Ins)(hC:∀y∈C,MkI y)(hx:MkI x)(hn:x.n.2.1.length≤1000)(hi:Zgd x 0 C=none)(hl:C.length≤100000) :
  Z0 T 650 [cmP,.agg (Zeb x)] (cmH 1 4 C L W)=some (.i .i64 (C.length:Int),cmH 7 4 (C++[x]) L W):=by
 have hf:=zii x hx C 0 hC;rw[hi]at hf;have hk:=zpe x x;rw[decide_eq_true ⟨rfl,rfl,rfl,rfl⟩]at hk;have hms:=znk x C 0;have hrs:=zx3 C x;rw[Yan]at hms;have hwk:=zxl (C++[x]) 0;rw[hms]at hwk;have hw3:IntKind.wrap .i64 (C.length:Int)=(C.length:Int):=zac _ (by omega);have hl2:C.length+1≤4294967296:=by omega
 unfold Zht at hf hk hms hwk;unfold cmH;by_cases ho:x.op=1
 ·have c68:Za T 68 [.sl (Zb x.n.2.1) .an]=some (.s (Z8 (val x.n.2.1))):=by
   rw[p68];exact zd5 x.n.2.1 hn
  have ht:Zgc x=Z8 (val x.n.2.1):=if_pos ho;rw[ht]at hf hk hms hwk;obtain⟨op,a,b,⟨n0,n1,n2⟩⟩:=x;dsimp only at *
  subst ho;generalize Z8 (val n1)=tx at *
  rw[zal Zav.h650 rfl,b650];simp -implicitDefEqProofs[hf,hk,c68,Zba,zgr,hms,hrs,hl2,hw3,hwk]
 ·have ht:Zgc x=[]:=if_neg ho;rw[ht]at hf hk hms hwk;obtain⟨op,a,b,⟨n0,n1,n2⟩⟩:=x;dsimp only at *
  rw[zal Zav.h650 rfl,b650];simp -implicitDefEqProofs[hf,hk,ho,Zba,zgr,hms,hrs,hl2,hw3,hwk]
end
end Go.Ab