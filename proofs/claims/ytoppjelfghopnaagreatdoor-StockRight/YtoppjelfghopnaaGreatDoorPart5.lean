/-
  A calculus of values, boxes and code, and what functions of the program compute, proved in it.
  Conditions: none beyond those that the theorems state. (Part 5: RrTab, RrBld, TxHalf, GpTrim, AxWp, RrEnd, TxJoin, TxJoinOk, TxStr, TxRune, TxCut, RrStr, RrJoin, Ab25, Ab26, Ab27, AxTop, NmFrac, AxTop2, RrSign, GcSpan, NmGcd, GpCommon, GpWhole, GpFrac, GpRow, GpRow2, GpMix, GpSpan, AxTop3, GcRef5x, GpRow3, GcRef11, GcRef09, GcRef06, GcRef02, GpRef02, GcRef04, GpRef04, GcRef05, GpRef05, GpRef05d, GcRef07, GpRef07, GpRef06, GcRef08, GpRef08, GpRef09, GpRef11, GpRow4, GcGrid, GcLaw09, GcLaw11, GpLaw11, GpGrid, GpGrid2, NmGrid, GpFrac2, NmRow, GpPow, GcLaw12, GcRef12, GpRef12, GpLaw12, GcPoly, GpPoly, GpRow5, NmTape, AxTop5, GpLex, NmHist, GpFrac3, GpTape, GpTape2, GpGauge, GpRun, GpRun2, GpRun3, NmSch, AxTop10, RrBase, GpSplit.)
-/
import Derived.Test.YtoppjelfghopnaaGreatDoorPart4
import Derived.Test.YtoppjelfghopnaaGreatDoorProg
import Derived.KernelRfl
import Derived.Shelf.RegionOpenPlain
import Derived.Lib.Strings
import Derived.Lib.Slices
import Derived.Lib.Walk
import Derived.Lib.Builder
import Derived.Lib.AppendStr
import Derived.Lib.UnsafeStr
import Derived.Lib.MakeNoZero
import Derived.WalkKit
import Derived.Laws.Externs
import Derived.Laws.IdiomCopy
import Derived.Laws.BitsLemmas
import GoSem.Claims
import Derived.Deep.LoopGhost
import Derived.Shelf.Strings.Builder1
import Derived.Shelf.Strings.Builder2
import Derived.Shelf.Strings.OnBuilder
import Derived.Shelf.Strings.IndexAnyAll
import Derived.Shelf.Strings.Count
import Derived.Shelf.Strings.Search2
import Derived.Laws.RangeAny
import Derived.Laws.Runes
import Derived.Lib.DecodeN
import Derived.WalkMore
import Derived.Shelf.Small.Utf8
import Derived.Shelf.Strings.Cut
import Derived.ProofKit
import Derived.OpenShut
import Derived.Deep.DeepCutAuto
import Derived.Deep.DeepFit
import Derived.Deep.CutBlock
import Derived.Lib.OthersKept
import Derived.Test.YtoppjelfghopnaaGreatDoorRows
import Derived.Test.YtoppjelfghopnaaGreatDoorCards
import Derived.Test.YtoppjelfghopnaaGreatDoorTie
import Derived.LaidMore
import Derived.Stop.Joined
import Derived.SevenTiedAt
import Derived.Lib.LaidU8

set_option linter.unusedSectionVars false
set_option linter.unusedVariables false
set_option linter.unusedSimpArgs false
set_option linter.unnecessarySimpa false

section
namespace Go.Proofs.YtoppjelfghopnaaGreatDoor
open Go Go.Ab
set_option maxRecDepth 100000
def nus:List (Nat×Nat):=[(23,53),(25,196),(27,98),(32,189),(34,74),(36,167),(37,56),(38,95),(40,210),(41,48),(55,89),(56,96),(57,97),(60,55),(62,136),(64,126),(65,205),(68,76),(70,93),(71,100),(72,49),(73,168),(85,137),(86,90),(87,75),(88,138),(89,99),(90,115),(91,170),(92,171),(93,172),(94,173),(98,164),(99,213),(100,214),(101,116),(103,117),(106,140),(115,174),(116,175),(117,139),(118,151),(119,197),(120,198),(121,199),(123,194),(125,152),(126,153),(127,154),(128,155),(172,81),(177,120),(178,121),(179,122),(183,44),(184,57),(185,158),(186,159),(187,160),(188,161),(194,141),(198,169),(199,134),(200,135),(201,94),(202,52),(203,51),(204,190),(205,22),(207,73),(208,129),(210,54),(211,131),(212,87),(215,24),(223,130),(251,43),(252,207),(253,206),(254,191),(255,192),(256,163),(258,215),(265,47),(274,39),(275,127),(344,188),(345,193),(346,165),(354,195),(356,166),(357,218),(360,208),(361,209),(362,162),(536,42),(551,46),(559,84),(560,85),(561,86),(562,88),(597,19),(598,21),(603,7),(608,20),(609,27),(610,28),(612,45),(614,80),(615,82),(616,83),(618,123),(619,124),(620,125),(621,128),(625,5),(626,6),(627,8),(632,14),(634,26),(2071,100),(2092,171),(2106,140)]
def nu(u:Nat):FuncId:=(nus.lookup u).getD 0
def Zdz(P:Program)(ν:Nat→FuncId)(τ:Nat→Nat)(u:Nat)(af:AFx):Prop:=
 match af.body.isPrim with
 | some f=>∀xs r,f xs=some r→Z6 P (ν u) xs (·=r)
 | none=>if af.body.isBad=true then (∀m∈Zg6 af,Zdb P af.np m.1=some (ν m.2))∧(af.res.isEmpty=true→af.np=ν af.nt) else Zb8 P (ν u)=some (erF ν τ af)
theorem ok_pr{P:Program}{ν:Nat→FuncId}{τ:Nat→Nat}{u:Nat}{af:AFx}{f:List AV→Option AV}(h0:af.body.isPrim=some f)(h:∀xs r,f xs=some r→Z6 P (ν u) xs (·=r)):Zdz P ν τ u af:=by unfold Zdz;rw[h0];exact h
theorem ok_fn{P:Program}{ν:Nat→FuncId}{τ:Nat→Nat}{u:Nat}{af:AFx}(h0:af.body.isPrim=none)(h1:af.body.isBad=false)(h:Zb8 P (ν u)=some (erF ν τ af)):Zdz P ν τ u af:=by unfold Zdz;rw[h0];simp only[h1];exact h
theorem ok_cons{P:Program}{ν:Nat→FuncId}{τ:Nat→Nat}{u:Nat}{af:AFx}{l:List (Nat×AFx)}(h:Zdz P ν τ u af)(hl:∀p∈l,Zdz P ν τ p.1 p.2) :
  ∀p∈(u,af)::l,Zdz P ν τ p.1 p.2:=by
 intro p hp;rcases List.mem_cons.1 hp with rfl | hp
 ·exact h
 ·exact hl p hp
theorem ok_lookup{P:Program}{ν:Nat→FuncId}{l:List (Nat×AFx)}(hl:∀p∈l,Zdz P ν (Zl fun u=>l.lookup u) p.1 p.2):TOk P ν (fun u=>l.lookup u):=fun _ _ h=>hl _ (zcy h)
theorem sub_cons{l l2:List (Nat×AFx)}{u:Nat}{af:AFx}(h:l.lookup u=some af)(h2:∀p∈l2,l.lookup p.1=some p.2):∀p∈(u,af)::l2,l.lookup p.1=some p.2:=by
 intro p hp;rcases List.mem_cons.1 hp with rfl | hp
 ·exact h
 ·exact h2 p hp
def pT(i:Nat):List (Nat×AFx):=match i with
 | 0=>[(115,row115),(116,row116),(117,row117),(118,row118),(91,row91),(86,row86),(106,row106),(71,row71),(72,row72),(73,row73),(70,row70),(87,row87),(85,row85),(56,row56),(88,row88),(57,row57),(2106,row2106),(89,row89),(100,row100),(60,row60),(92,row92),(94,row94),(90,row90),(119,row119),(120,row120)]
 | 1=>[(121,row121),(93,row93),(2071,row2071),(2092,row2092),(62,row62),(98,row98),(123,row123),(64,row64),(99,row99),(65,row65),(55,row55),(38,row38),(40,row40),(23,row23),(25,row25),(27,row27),(37,row37),(41,row41),(36,row36),(34,row34),(32,row32),(198,row198),(199,row199),(200,row200),(201,row201)]
 | 2=>[(202,row202),(203,row203),(205,row205),(207,row207),(210,row210),(211,row211),(212,row212),(215,row215),(204,row204),(208,row208),(223,row223),(346,row346),(354,row354),(362,row362),(345,row345),(258,row258),(356,row356),(357,row357),(252,row252),(253,row253),(254,row254),(255,row255),(256,row256),(251,row251),(265,row265)]
 | 3=>[(274,row274),(275,row275),(185,row185),(186,row186),(177,row177),(188,row188),(179,row179),(178,row178),(172,row172),(536,row536),(551,row551),(559,row559),(560,row560),(561,row561),(562,row562),(598,row598),(608,row608),(612,row612),(614,row614),(615,row615),(616,row616),(618,row618),(619,row619),(620,row620),(621,row621)]
 | 4=>[(597,row597),(603,row603),(609,row609),(610,row610),(627,row627),(632,row632),(634,row634),(625,row625),(626,row626)]
 | _=>[]
def Zmv:List (Nat×AFx):=[(68,row68),(344,row344),(194,row194),(361,row361),(183,row183),(187,row187),(184,row184)]
def lTab:List (Nat×AFx):=pT 0++pT 1++pT 2++pT 3++pT 4++Zmv
def gTab:List (Nat×AFx):=lTab++[(101,row101),(103,row103),(125,row125)]
def tab:Tbl:=fun u=>gTab.lookup u
def Zhq:Nat→Nat:=Zl fun u=>lTab.lookup u
def Zc6(l:List (Nat×AFx)):Prop:=(l.map fun p=>Zb8 Tryz.prog (nu p.1))=l.map fun p=>some (erF nu Zhq p.2)
theorem res_mem{l:List (Nat×AFx)}(h:Zc6 l)(h2:(l.all fun p=>p.2.body.isPrim.isNone&&!p.2.body.isBad)=true):∀p∈l,Zdz Tryz.prog nu Zhq p.1 p.2:=by
 intro p hp;have h3:=List.all_eq_true.1 h2 p hp;simp only[Bool.and_eq_true,Option.isNone_iff_eq_none,Bool.not_eq_true']at h3;exact ok_fn h3.1 h3.2 (List.map_inj_left.1 h p hp)
theorem ok_app{l r:List (Nat×AFx)}(h1:∀p∈l,Zdz Tryz.prog nu Zhq p.1 p.2)(h2:∀p∈r,Zdz Tryz.prog nu Zhq p.1 p.2):∀p∈l++r,Zdz Tryz.prog nu Zhq p.1 p.2:=fun p hp=>(List.mem_append.1 hp).elim (h1 p) (h2 p)
theorem res0:Zc6 (pT 0):=by unfold Zc6;kernel_rfl
theorem res1:Zc6 (pT 1):=by unfold Zc6;kernel_rfl
theorem res2:Zc6 (pT 2):=by unfold Zc6;kernel_rfl
theorem res3:Zc6 (pT 3):=by unfold Zc6;kernel_rfl
theorem res4:Zc6 (pT 4):=by unfold Zc6;kernel_rfl
theorem lTab_ok(hp68:∀xs r,prim68 xs=some r→Z6 Tryz.prog (nu 68) xs (·=r))(hp344:∀xs r,prim344 xs=some r→Z6 Tryz.prog (nu 344) xs (·=r))(hp194:∀xs r,prim194 xs=some r→Z6 Tryz.prog (nu 194) xs (·=r))(hp361:∀xs r,prim361 xs=some r→Z6 Tryz.prog (nu 361) xs (·=r))(hp183:∀xs r,prim183 xs=some r→Z6 Tryz.prog (nu 183) xs (·=r))(hp187:∀xs r,prim187 xs=some r→Z6 Tryz.prog (nu 187) xs (·=r))(hp184:∀xs r,prim184 xs=some r→Z6 Tryz.prog (nu 184) xs (·=r)):TOk Tryz.prog nu (fun u=>lTab.lookup u):=ok_lookup (ok_app (ok_app (ok_app (ok_app (ok_app (res_mem res0 (by kernel_rfl)) (res_mem res1 (by kernel_rfl))) (res_mem res2 (by kernel_rfl))) (res_mem res3 (by kernel_rfl))) (res_mem res4 (by kernel_rfl))) (ok_cons (ok_pr rfl hp68) (ok_cons (ok_pr rfl hp344) (ok_cons (ok_pr rfl hp194) (ok_cons (ok_pr rfl hp361) (ok_cons (ok_pr rfl hp183) (ok_cons (ok_pr rfl hp187) (ok_cons (ok_pr rfl hp184) (fun p hp=>by cases hp)))))))))
def Zjt:List Nat→Bool
 | []=>true
 | a::l=>!l.contains a&&Zjt l
theorem sub_app{l r:List (Nat×AFx)}(h:Zjt (l.map (·.1))=true):∀p∈l,(l++r).lookup p.1=some p.2:=by
 induction l with
 | nil=>intro p hp;cases hp
 | cons a l ih=>
  intro p hp;obtain⟨k,v⟩:=a;simp only[List.map_cons,Zjt,Bool.and_eq_true,Bool.not_eq_true']at h;rcases List.mem_cons.1 hp with rfl | hq
  ·simp
  ·have hne:(p.1 == k)=false:=by
    cases hb:p.1 == k with
    | false=>rfl
    | true=>
     have:=eq_of_beq hb;subst this;have h5:(l.map (·.1)).contains p.1=true:=List.contains_iff_mem.2 (List.mem_map.2 ⟨p,hq,rfl⟩);rw[h5]at h;cases h.1
   rw[List.cons_append,List.lookup_cons,hne];exact ih h.2 p hq
theorem lTab_part:Part gTab lTab:=⟨sub_app (by kernel_rfl),by kernel_rfl⟩
def sTab:List (Nat×AFx):=[(118,row118),(86,row86),(106,row106),(71,row71),(70,row70),(90,row90),(101,row101),(103,row103),(125,row125)]
def Ze8:Nat→Nat:=Zl fun u=>sTab.lookup u
theorem ress_118:Zb8 Tryz.prog (nu 118)=some (erF nu Ze8 row118):=by kernel_rfl
theorem ress_86:Zb8 Tryz.prog (nu 86)=some (erF nu Ze8 row86):=by kernel_rfl
theorem ress_106:Zb8 Tryz.prog (nu 106)=some (erF nu Ze8 row106):=by kernel_rfl
theorem ress_71:Zb8 Tryz.prog (nu 71)=some (erF nu Ze8 row71):=by kernel_rfl
theorem ress_70:Zb8 Tryz.prog (nu 70)=some (erF nu Ze8 row70):=by kernel_rfl
theorem ress_90:Zb8 Tryz.prog (nu 90)=some (erF nu Ze8 row90):=by kernel_rfl
theorem ress_101:Zb8 Tryz.prog (nu 101)=some (erF nu Ze8 row101):=by kernel_rfl
theorem ress_103:Zb8 Tryz.prog (nu 103)=some (erF nu Ze8 row103):=by kernel_rfl
theorem ress_125:Zb8 Tryz.prog (nu 125)=some (erF nu Ze8 row125):=by kernel_rfl
theorem sTab_ok:TOk Tryz.prog nu (fun u=>sTab.lookup u):=ok_lookup (ok_cons (ok_fn rfl rfl ress_118) (ok_cons (ok_fn rfl rfl ress_86) (ok_cons (ok_fn rfl rfl ress_106) (ok_cons (ok_fn rfl rfl ress_71) (ok_cons (ok_fn rfl rfl ress_70) (ok_cons (ok_fn rfl rfl ress_90) (ok_cons (ok_fn rfl rfl ress_101) (ok_cons (ok_fn rfl rfl ress_103) (ok_cons (ok_fn rfl rfl ress_125) (fun p hp=>by cases hp))))))))))
theorem sTab_part:Part gTab sTab:=⟨sub_cons (by kernel_rfl) (sub_cons (by kernel_rfl) (sub_cons (by kernel_rfl) (sub_cons (by kernel_rfl) (sub_cons (by kernel_rfl) (sub_cons (by kernel_rfl) (sub_cons (by kernel_rfl) (sub_cons (by kernel_rfl) (sub_cons (by kernel_rfl) (fun p hp=>by cases hp))))))))),by kernel_rfl⟩
instance:Z9 tab:=⟨by kernel_rfl,by kernel_rfl,by kernel_rfl,by kernel_rfl,by kernel_rfl⟩
instance:Zp tab where
 h115:=by kernel_rfl
 h116:=by kernel_rfl
 h117:=by kernel_rfl
 h118:=by kernel_rfl
 h91:=by kernel_rfl
 h86:=by kernel_rfl
 h106:=by kernel_rfl
 h71:=by kernel_rfl
 h72:=by kernel_rfl
 h73:=by kernel_rfl
 h70:=by kernel_rfl
 h87:=by kernel_rfl
 h85:=by kernel_rfl
 h56:=by kernel_rfl
 h88:=by kernel_rfl
 h57:=by kernel_rfl
 h2106:=by kernel_rfl
instance:Zv tab where
 h115:=by kernel_rfl
 h116:=by kernel_rfl
 h117:=by kernel_rfl
 h118:=by kernel_rfl
 h91:=by kernel_rfl
 h86:=by kernel_rfl
 h106:=by kernel_rfl
 h71:=by kernel_rfl
 h72:=by kernel_rfl
 h73:=by kernel_rfl
 h70:=by kernel_rfl
 h87:=by kernel_rfl
 h85:=by kernel_rfl
 h56:=by kernel_rfl
 h88:=by kernel_rfl
 h57:=by kernel_rfl
 h2106:=by kernel_rfl
 h89:=by kernel_rfl
 h100:=by kernel_rfl
 h60:=by kernel_rfl
instance:Zy tab:=⟨by kernel_rfl,by kernel_rfl⟩
instance:Zr tab:=⟨by kernel_rfl,by kernel_rfl,by kernel_rfl,by kernel_rfl,by kernel_rfl⟩
instance:Zu tab:=⟨by kernel_rfl,by kernel_rfl,by kernel_rfl⟩
instance:Zq tab:=⟨by kernel_rfl,by kernel_rfl,by kernel_rfl,by kernel_rfl,by kernel_rfl,by kernel_rfl⟩
instance:Za0 tab:=⟨by kernel_rfl⟩
instance:Zgu tab:=⟨by kernel_rfl,by kernel_rfl⟩
instance:Zf tab:=⟨by kernel_rfl,by kernel_rfl,by kernel_rfl,by kernel_rfl,by kernel_rfl,by kernel_rfl,by kernel_rfl,by kernel_rfl,by kernel_rfl,by kernel_rfl,by kernel_rfl⟩
instance:Zn tab:=⟨by kernel_rfl,by kernel_rfl,by kernel_rfl,by kernel_rfl⟩
instance:Zz tab:=⟨by kernel_rfl,by kernel_rfl,by kernel_rfl,by kernel_rfl,by kernel_rfl,by kernel_rfl,by kernel_rfl,by kernel_rfl⟩
instance:Za6 tab:=⟨by kernel_rfl⟩
instance:Zbc tab:=⟨by kernel_rfl⟩
instance:Zbk tab:=⟨by kernel_rfl⟩
instance:Zcq tab:=⟨by kernel_rfl,by kernel_rfl,by kernel_rfl⟩
instance:Zak tab:=⟨by kernel_rfl,by kernel_rfl,by kernel_rfl,by kernel_rfl⟩
instance:Zb3 tab:=⟨by kernel_rfl,by kernel_rfl,by kernel_rfl⟩
instance:Zcn tab:=⟨by kernel_rfl,by kernel_rfl,by kernel_rfl,by kernel_rfl,by kernel_rfl⟩
instance:Zc9 tab where
instance:Zco tab where
instance:Zdx tab where
instance:Zgf tab where
instance:Zge tab where
instance:Zat tab:=⟨by kernel_rfl⟩
instance:Zby tab:=⟨by kernel_rfl,by kernel_rfl,by kernel_rfl⟩
instance:Zcw tab:=⟨by kernel_rfl⟩
instance:Zfs tab where
instance:Zbn tab:=⟨by kernel_rfl,by kernel_rfl,by kernel_rfl,by kernel_rfl,by kernel_rfl,by kernel_rfl,by kernel_rfl,by kernel_rfl,by kernel_rfl⟩
instance:Zad tab:=⟨by kernel_rfl,by kernel_rfl,by kernel_rfl,by kernel_rfl,by kernel_rfl,by kernel_rfl⟩
instance:Zai tab:=⟨by kernel_rfl,by kernel_rfl,by kernel_rfl,by kernel_rfl,by kernel_rfl,by kernel_rfl,by kernel_rfl,by kernel_rfl,by kernel_rfl,by kernel_rfl⟩
instance:Ze6 tab:=⟨by kernel_rfl⟩
instance:Zfg tab where
instance:Zbo tab:=⟨by kernel_rfl,by kernel_rfl,by kernel_rfl,by kernel_rfl,by kernel_rfl,by kernel_rfl⟩
instance:Zfh tab:=⟨by kernel_rfl,by kernel_rfl⟩
end Go.Proofs.YtoppjelfghopnaaGreatDoor
end
section
namespace Go.Proofs
open Go.RowKit
theorem Tryz.sizeBuilder:(Tryz.prog.info? 130).map (·.size)=some 2:=by kernel_rfl
theorem Tryz.liesBuilder:liesAt Tryz.prog Tryz.prog.depth 130 (2/Tryz.prog.cellsOf 130) 0 130 1=true:=by kernel_rfl
theorem Tryz.infoByte:(Tryz.prog.info? 5).map (fun i=>(i.zero,i.size,i.bytes))=some (some (.int .u8 0),1,1):=by kernel_rfl
theorem Tryz.cellsByte:Tryz.prog.cellsOf 5=1:=by kernel_rfl
set_option maxHeartbeats 1000000 in
set_option maxRecDepth 100000 in
theorem Tryz.bString(B b:Nat)(l:List UInt8)(w:World)(h:Lib.IsBuilder 130 5 B b (Lib.byteCells l) w)(h0:l≠[]) :
  Calls Tryz.prog 79 #[.pointer (some ⟨b,0,none⟩)] w fun e w'=>e=.returned (.string ⟨l.toArray⟩)∧Below B w w':=by
 obtain⟨p,hB,v,hbk,hown,hne⟩:∃p,Lib.BuilderAt 130 5 B b p (Lib.byteCells l) w:=by
  rcases h with h | h
  ·exact⟨_,h⟩
  ·exact⟨_,h⟩
 have hl0:l.length≠0:=by simpa using h0
 rw[Lib.byteCells_length]at hown;obtain⟨g,cap,cur,rfl,hbg,hg,hnc,hcm,hcs,htake⟩:∃g cap cur,v=.slice (some ⟨g,0,none⟩) l.length cap∧B≤g∧w.heap[g]? = some (.cells cur 5 (0,0))∧l.length≤cap∧cap≤maxLen∧cur.size=cap*1∧cur.toList.take (l.length*1)=Lib.byteCells l:=by
  rcases hown.2 with ⟨_,hz⟩ | ⟨g,cap,cur,hv,r⟩
  ·exact absurd hz hl0
  ·exact⟨g,cap,cur,hv,r⟩
 have c1:w.drew.cell? ⟨b,1,none⟩=some (.slice (some ⟨g,0,none⟩) l.length cap):=by
  have:w.drew.heap[b]? = some (.cells #[p,.slice (some ⟨g,0,none⟩) l.length cap] 130 (0,0)):=hbk;rw[Lib.cell_of_heap this];rfl
 have hSD:(Builtin.unsafeSliceData_ #[128] 176 #[.slice (some ⟨g,0,none⟩) l.length cap]).run Tryz.prog w.drew=.ok (.pointer (some ⟨g,0,none⟩)) w.drew:=
  Lib.run_unsafeSliceData_row _ _ _ _ _ _ (by omega)
 have hUS:(Builtin.unsafeString_ #[176,3] 9 #[.pointer (some ⟨g,0,none⟩),.int .i64 l.length]).run Tryz.prog w.drew=.ok (.string ⟨l.toArray⟩) (w.drew.freeze ⟨g,0,none⟩ l.length):=by
  refine Lib.run_unsafeString_row w.drew 176 3 9 5 Tryz.underlying176 Tryz.cellsByte g cur.size (by have hg':w.drew.heap[g]? = some (.cells cur 5 (0,0)):=hg;simp[World.shape?,hg']) l h0 (by omega) (by unfold maxLen at hcm;omega) ?_;intro j x hx;have:=hown.cells (g:=g) rfl j (.int .u8 x.toNat) (by simp[Lib.byteCells,hx]);exact this
 go_enter Tryz.func79,Tryz.ntmps79
 go_wp2
 go_region
 all_goals (go_wp2;go_ret;exact⟨rfl,Lib.below_freeze (Below.drew (Below.refl B w)) (p:=⟨g,0,none⟩) hbg _⟩)
set_option maxHeartbeats 1000000 in
set_option maxRecDepth 100000 in
theorem Tryz.bCheck_used(b:Nat)(w:World)(h0:w.cell? ⟨b,0,none⟩=some (.pointer (some ⟨b,0,none⟩))) :
  Calls Tryz.prog 118 #[.pointer (some ⟨b,0,none⟩)] w fun e w'=>e=.returned (.tuple #[])∧w'=w:=by
 obtain⟨j,hj,_⟩:=Option.map_eq_some_iff.1 Tryz.sizeBuilder
 go_enter Tryz.func118,Tryz.ntmps118
 go_wp2
 rw[Lib.run_neq_ptr_same w _ Tryz.underlying127 hj]
 go_wp2
 go_end0
 exact⟨rfl,rfl⟩
set_option maxHeartbeats 1000000 in
set_option maxRecDepth 100000 in
theorem Tryz.bCheck_fresh(b:Nat)(w:World)(h0:w.cell? ⟨b,0,none⟩=some (.pointer none))(hsh:w.shape? b=some (130,2))(hfz:w.frozen? ⟨b,0,none⟩=false) :
  Calls Tryz.prog 118 #[.pointer (some ⟨b,0,none⟩)] w fun e w'=>e=.returned (.tuple #[])∧w'=w.setCell ⟨b,0,none⟩ (.pointer (some ⟨b,0,none⟩)):=by
 obtain⟨j,hj,hjs⟩:=Option.map_eq_some_iff.1 Tryz.sizeBuilder
 go_enter Tryz.func118,Tryz.ntmps118
 go_wp2
 rw[Lib.run_to_unsafe w ⟨b,0,none⟩ Tryz.underlying127 Tryz.underlying211 hj (by rw[hjs];decide) hsh (Nat.zero_lt_succ 1)];simp only[Result.andThen];rw[Oper.upon_value]
 go_wp2
 rw[run_callFunc_extern Tryz.func156 (by kernel_rfl) (by kernel_rfl) (by kernel_rfl) (e:=Extern.AbiNoEscape.same) (by kernel_rfl)];rw[Lib.run_noEscape];simp only[Result.andThen];rw[Oper.upon_value]
 go_wp2
 rw[Lib.run_from_unsafe w ⟨b,0,none⟩ Tryz.underlying211 Tryz.underlying127 hj hsh Tryz.liesBuilder];simp only[Result.andThen];rw[Oper.upon_value]
 go_wp2
 go_end0
 exact⟨rfl,rfl⟩
theorem Tryz.bCheck(B b:Nat)(bs:List Value)(w:World)(h:Lib.IsBuilder 130 5 B b bs w) :
  Calls Tryz.prog 118 #[.pointer (some ⟨b,0,none⟩)] w fun e w'=>e=.returned (.tuple #[])∧(Lib.BuilderAt 130 5 B b (.pointer (some ⟨b,0,none⟩)) bs w'∧Below B w w'):=by
 rcases h with h | h
 ·refine(Tryz.bCheck_fresh b w h.cell0 h.shape h.frozen0).mono ?_
  rintro e w' ⟨rfl,rfl⟩
  exact⟨rfl,h.used _,(Below.refl B w).setCell (p:=⟨b,0,none⟩) h.1 _⟩
 ·refine(Tryz.bCheck_used b w h.cell0).mono ?_
  rintro e w' ⟨rfl,rfl⟩
  exact⟨rfl,h,Below.refl B _⟩
set_option maxHeartbeats 2000000 in
set_option maxRecDepth 100000 in
theorem Tryz.bWrite(B b:Nat)(bs:List Value)(s:ByteArray)(w:World)(h:Lib.IsBuilder 130 5 B b bs w)(hlen:bs.length+s.size≤140737488355328)(hBw:B≤w.heap.size) :
  Calls Tryz.prog 78 #[.pointer (some ⟨b,0,none⟩),.string s] w fun e w'=>e=.returned (.tuple #[.int .i64 s.size,.nilIface])∧(Lib.BuilderAt 130 5 B b (.pointer (some ⟨b,0,none⟩)) (bs++Lib.strCells s) w'∧Below B w w'):=by
 obtain⟨i0,hi,hz0,hz1,hz2⟩:=info_parts Tryz.infoByte
 go_enter Tryz.func78,Tryz.ntmps78
 go_wp2_with (go_at_call 118;refine(Tryz.bCheck B b bs _ h).mono ?_)
 rintro e w1 ⟨rfl,h1,hb1⟩
 obtain⟨hB,v,hbk,hown,hne⟩:=h1;have c0:w1.cell? ⟨b,0,none⟩=some (.pointer (some ⟨b,0,none⟩)):=by rw[Lib.cell_of_heap hbk];rfl
 have c1:w1.cell? ⟨b,1,none⟩=some v:=by rw[Lib.cell_of_heap hbk];rfl
 go_wp2_with (at_builtin;refine Lib.wpList_append_own_string _ rfl _ _ 128 9 rfl B 5 i0 Tryz.underlying128 Tryz.underlying9 hi hz0 hz1 hz2 _ _ _ rfl hown s rfl ?c3 ?c4 ?c5 ?_)
 case c3=>unfold maxLen;omega
 case c4=>omega
 case c5=>have:=hb1.size;omega
 intro v' w2 hown' hgrow _;have hlt:b<w1.heap.size:=by
  rcases Nat.lt_or_ge b w1.heap.size with h' | h'
  ·exact h'
  ·simp[Array.getElem?_eq_none h']at hbk
 have hb2:w2.heap[b]? = some (.cells #[.pointer (some ⟨b,0,none⟩),v] 130 (0,0)):=by
  rw[hgrow.block b hlt (fun e=>hne e.symm)];exact hbk
 have d0:w2.cell? ⟨b,0,none⟩=some (.pointer (some ⟨b,0,none⟩)):=by rw[Lib.cell_of_heap hb2];rfl
 have d1:w2.cell? ⟨b,1,none⟩=some v:=by rw[Lib.cell_of_heap hb2];rfl
 have f1:w2.frozen? ⟨b,1,none⟩=false:=Lib.frozen_of_heap hb2 1;obtain⟨ao,n',cap,rfl⟩:∃ao n' cap,v'=.slice ao n' cap:=by
  rcases hown'.2 with ⟨hv,_⟩ | ⟨g,cap,cur,hv,_⟩
  ·exact⟨_,_,_,hv⟩
  ·exact⟨_,_,_,hv⟩
 go_wp2
 go_ret2
 refine⟨rfl,?_,?_⟩
 ·exact Lib.BuilderAt.put (T:=130) (e:=5) hB hb2 (bs':=bs++Lib.strCells s) (by simpa[Lib.strCells_length]using hown') (by decide)
 ·exact(hb1.grown hgrow (by have:=hb1.size;omega) (fun k hk=>(hown.lt k hk).1)).setCell (p:=⟨b,1,none⟩) hB _
end Go.Proofs
end
section
namespace Go.Ab
def pieces(n:Nat):List (List UInt8):=if h:n=0 then [] else Zc8 9 (n%1000000000)::pieces (n/1000000000)
termination_by n
decreasing_by exact Yc5 (Yaf h) (by decide)
theorem zbt:pieces 0=[]:=by unfold pieces;simp
theorem zb6{n:Nat}(h:n≠0):pieces n=Zc8 9 (n%1000000000)::pieces (n/1000000000):=by
 conv=>lhs;unfold pieces
 rw[dif_neg h]
def Zcy(l:List (List UInt8)):List (List AV):=l.map fun s=>[.s s]
@[simp] theorem zyf(l:List (List UInt8)):(Zcy l).length=l.length:=by simp[Zcy]
@[simp] theorem zxi(l:List (List UInt8)):wkL (Zcy l)=Zcy l:=by
 induction l with
 | nil=>rfl
 | cons x l ih=>simpa[Zcy,wkL,wkR]using ih
theorem zvc(l:List (List UInt8))(s:List UInt8):Zcy l++[[.s s]]=Zcy (l++[s]):=by simp[Zcy]
def txL:AX:=
 (.note
 (.seq
 (.seq
  (.reg [⟨(some 11),none,.mov (.t 0)⟩,
   ⟨(some 12),none,.call 70 [(.t 11)]⟩,
   ⟨(some 13),none,.un .not (.t 12)⟩])
  (.cond (.t 13)
  .skip
  (.exit 0)))
 (.block 1
  (.seq
  (.reg [⟨(some 15),none,.mov (.t 0)⟩,
   ⟨(some 16),none,.call 90 [(.t 15),(.c (u32 1000000000))]⟩,
   ⟨(some 14),none,.mov (.t 16)⟩,
   ⟨(some 17),none,.ext (.t 14) 0⟩,
   ⟨(some 18),none,.ext (.t 14) 1⟩,
   ⟨(some 19),none,.ext (.t 14) 2⟩,
   ⟨(some 4),none,.mov (.t 17)⟩,
   ⟨(some 5),none,.mov (.t 18)⟩,
   ⟨(some 6),none,.mov (.t 19)⟩])
  (.seq
   (.reg [⟨(some 20),none,.mov (.t 3)⟩,
    ⟨(some 21),none,.mov (.t 5)⟩,
    ⟨(some 22),none,.call 101 [(.t 21)]⟩,
    ⟨(some 23),none,.bsl 1 [(.s [])] 1 [(0,(.t 22))]⟩,
    ⟨(some 24),none,.app 1 (.t 20) (.t 23)⟩,
    ⟨(some 3),none,.mov (.t 24)⟩])
   (.reg [⟨(some 25),none,.mov (.t 4)⟩,
    ⟨(some 0),none,.mov (.t 25)⟩])))))
 (.norm false [0,3]))
def tx0:AX:=(.reg [⟨(some 2),none,.mov (.c (.s []))⟩])
def txA:AX:=
  (.seq
  (.reg [⟨(some 9),none,.mov (.t 0)⟩,
   ⟨(some 10),none,.call 70 [(.t 9)]⟩])
  (.cond (.t 10)
   (.seq
   (.reg [⟨(some 2),none,.mov (.c (.s [48]))⟩])
   (.pre (.norm false [2]) .ret))
   .skip))
def tx3:AX:=(.note (.reg [⟨(some 3),none,.mov (.c (.sl [] .nl))⟩]) (.nil 3 1))
def txP:AX:=(.lp 0 (.norm false [0,3]) txL (.norm false [3]))
section
variable{T:Tbl}
theorem zadq(x:AV):evX (orc T) T 0 tx0 ⟨Zca [x],[],1⟩=some (.n,⟨[(2,.s []),(0,x)],[],1⟩):=by
 simp -implicitDefEqProofs[tx0]
end
section
variable{T:Tbl}[Zp T]
theorem z5u(a:List UInt32)(hl:a.length≤1000)(h0:val a=0):evX (orc T) T 0 txA ⟨[(2,.s []),(0,.sl (Za a) .an)],[],1⟩=some (.r,⟨[(2,.s [48])],[],2⟩):=by
 have hz:=zdx (T:=T) a (by omega);simp -implicitDefEqProofs[txA,hz,h0]
end
section
variable{T:Tbl}[Zp T]
theorem z5v(a:List UInt32)(hl:a.length≤1000)(h0:val a≠0):evX (orc T) T 0 txA ⟨[(2,.s []),(0,.sl (Za a) .an)],[],1⟩ =
  some (.n,⟨[(10,.b false),(9,.sl (Za a) .an),(2,.s []),(0,.sl (Za a) .an)],[],1⟩):=by
 have hz:=zdx (T:=T) a (by omega);simp -implicitDefEqProofs[txA,hz,h0]
end
section
variable{T:Tbl}[Zp T][Zv T][Zy T][Zr T][Zq T]
def Zju(a:List UInt32)(l:List (List UInt8)):St:=⟨[(0,.sl (Za a) .an),(3,.bs (.loc 3) 1 1 0 l.length)],[((.loc 3),⟨1,.own,1,Zcy l⟩)],3⟩
theorem zrb(l:List (List UInt8))(s:List UInt8):wkL (List.take l.length (Zcy l)++[[AV.s s]])=Zcy (l++[s]):=by
 rw[Yb (by simp),zvc,zxi]
end
section
variable{T:Tbl}[Zp T][Zr T][Zq T]
theorem zxj(N:Nat)(hN:N≤4294967295)(L:List (List UInt8)):∀y:List UInt32×List (List UInt8),(y.1.length≤1000∧y.2++pieces (val y.1)=L∧L.length=N) →
  Zw T 0 0 (Gh.norm false [3]) txL (Zju y.1 y.2)=some (.n,⟨[(3,.bs (.loc 3) 1 1 0 L.length)],[((.loc 3),⟨1,.own,1,Zcy L⟩)],3⟩):=by
 refine zau (fun y:List UInt32×List (List UInt8)=>Zju y.1 y.2) _ (fun y=>val y.1) _ ?_
 rintro⟨a,l⟩ ⟨ha,hL,hn⟩
 simp only at ha hL hn;have hz:=zdx (T:=T) a (by omega);by_cases h0:val a=0
 ·right;rw[h0,zbt,Yat]at hL;subst hL;constructor<;>simp -implicitDefEqProofs[txL,Zju,hz,h0]
 ·left;have hq:=zlt (T:=T) a 1000000000 (by omega) (by omega) (by omega);have hn9:=znb (T:=T) (val a%1000000000) (by omega);have hlen:(ofN (val a/1000000000)).length≤a.length:=Yg (za7 (Ybs _ _)) (zad a);rw[zb6 h0]at hL;have hll:l.length≤4294967295:=by have:=congrArg List.length hL;simp at this;omega
  refine⟨(ofN (val a/1000000000),l++[Zc8 9 (val a%1000000000)]),⟨by simp only;omega,by simp only[zae,Y6,Yda];exact hL,hn⟩,?_,?_,rfl⟩
  ·simp only[zae];exact Yc5 (Yaf h0) (by decide)
  ·simp -implicitDefEqProofs[txL,Zju,hz,hq,hn9,h0,hll,zrb]
end
section
variable{T:Tbl}[Zp T][Zv T][Zy T][Zr T][Zq T]
theorem zfa:∀k n,n<1000000000^k→(pieces n).length≤k
 | 0,n,h=>by
  have:n=0:=by omega
  subst this;simp[zbt]
 | k+1,n,h=>by
  by_cases h0:n=0
  ·subst h0;simp[zbt]
  ·rw[zb6 h0];have:=zfa k (n/1000000000) (Ybe (by rw[Yac,←Y7];exact h));simp only[Yc];omega
theorem zmk(a:List UInt32):(pieces (val a)).length≤2*a.length:=by
 refine zfa _ _ (Yo (zaw a) ?_);rw[Yci];exact Ydp (by decide) _
theorem zny:∀n,∀s∈pieces n,s.length=9:=by
 intro n
 induction n using Nat.strongRecOn with
 | _ n ih=>
  intro s hs;by_cases h0:n=0
  ·subst h0;simp[zbt]at hs
  ·rw[zb6 h0]at hs;rcases Ym.1 hs with rfl | hs
   ·exact zek 9 _
   ·exact ih _ (Yc5 (Yaf h0) (by decide)) s hs
theorem zi4:∀(k n:Nat),n≠0→n<10^k→(Zc8 k n).dropWhile (· == 48)=Zs n
 | 0,n,h0,h=>by omega
 | k+1,n,h0,h=>by
  rw[zdn];by_cases h1:n<10
  ·have e:n/10=0:=by omega
   have e2:n%10=n:=by omega
   have hz:∀j,(Zc8 j 0).dropWhile (· == 48)=[]:=by
    intro j
    induction j with
    | zero=>rfl
    | succ j ih=>rw[zdn,Ydb,Nat.zero_div,ih];rfl
   rw[e,e2,Ydb,hz,zbs h1];have:∀d,d<10→d≠0→List.dropWhile (fun x=>x == 48) [UInt8.ofNat (48+d)]=[UInt8.ofNat (48+d)]:=by decide
   simpa using this n h1 h0
  ·have ih:=zi4 k (n/10) (by omega) (Ybe (by rw[Yac,←Y7];exact h));have hne:Zs (n/10)≠[]:=by
    unfold Zs;by_cases h2:n/10<10
    ·rw[zix h2];simp
    ·rw[zpf h2];simp
   rw[Ydb,ih,zdm h1];rw[if_neg (by simpa using hne)]
theorem zph(j:Nat):∀(k n:Nat),Zc8 (j+k) n=Zc8 j (n/10^k)++Zc8 k (n%10^k)
 | 0,n=>by simp[zhp]
 | k+1,n=>by
  rw[←Yap,zdn,zph j k (n/10),zdn,Y6];have e1:n/10/10^k=n/10^(k+1):=by rw[Ybv,Y7,Yac]
  have e2:n/10%10^k=n%10^(k+1)/10:=by rw[Y7,Yac,Nat.mod_mul_right_div_self]
  have e3:n%10^(k+1)%10=n%10:=by rw[Y7,Nat.mod_mul_left_mod]
  rw[e1,e2,e3]
theorem znz:∀n,(pieces n).reverse.flatten=Zc8 (9*(pieces n).length) n:=by
 intro n
 induction n using Nat.strongRecOn with
 | _ n ih=>
  by_cases h0:n=0
  ·subst h0;simp[zbt,zhp]
  ·rw[zb6 h0,Ydz,List.flatten_append,ih _ (Yc5 (Yaf h0) (by decide))];simp only[Yc,List.flatten_cons,List.flatten_nil,Yat];rw[show 9*((pieces (n/1000000000)).length+1)=9*(pieces (n/1000000000)).length+9 by omega,zph]
theorem zvd:∀n,n<10^(9*(pieces n).length):=by
 intro n
 induction n using Nat.strongRecOn with
 | _ n ih=>
  by_cases h0:n=0
  ·subst h0;simp[zbt]
  ·have h:=ih _ (Yc5 (Yaf h0) (by decide:1<1000000000));rw[zb6 h0,Yc,Yao,Ybt];exact(Ya8 (by decide:0<10^(9*1))).1 h
theorem zn0(n:Nat)(h:n≠0):((pieces n).reverse.flatten).dropWhile (· == 48)=Zs n:=by
 rw[znz];exact zi4 _ n h (zvd n)
theorem zcg:∀(l:List (List UInt8)),(∀s∈l,s.length=9)→l.flatten.length=9*l.length
 | [],_=>rfl
 | s::l,h=>by
  rw[List.flatten_cons,Yp,h s Yl,zcg l fun s hs=>h s (Yh _ hs),Yc];omega
def Zj5(a:List UInt32):St:=⟨[(3,.bs (.loc 3) 1 1 0 0),(3,.sl [] .nl),(10,.b false),(9,.sl (Za a) .an),(2,.s []),(0,.sl (Za a) .an)],[(.loc 3,⟨1,.own,1,[]⟩)],2⟩
end
section
variable{T:Tbl}
theorem zadr(a:List UInt32):evX (orc T) T 0 tx3 ⟨[(10,.b false),(9,.sl (Za a) .an),(2,.s []),(0,.sl (Za a) .an)],[],1⟩=some (.n,Zj5 a):=by
 simp -implicitDefEqProofs[tx3,Zj5]
end
section
variable{T:Tbl}[Zp T][Zr T][Zq T]
theorem zads(a:List UInt32)(hl:a.length≤1000):evX (orc T) T 0 txP (Zj5 a) =
  some (.n,⟨[(3,.bs (.loc 3) 1 1 0 (pieces (val a)).length)],[((.loc 3),⟨1,.own,1,Zcy (pieces (val a))⟩)],3⟩):=by
 have hp:=zmk a;have h:=zxj (T:=T) (pieces (val a)).length (by omega) (pieces (val a)) (a,[]) ⟨by simpa using hl,rfl,rfl⟩;unfold Zju at h;simp[Zcy]at h;simp -implicitDefEqProofs[Zj5,txP,h,Zcy]
end
end Go.Ab
end
section
namespace Go.Ab
section
variable{T:Tbl}
theorem zq0(res:List UInt8):∀l:List UInt8,(l.length≤1000000∧l.dropWhile (· == 48)=res) →
  Zw T 0 0 (.norm false [0]) l125_0 ⟨[(0,.s l),(1,u8 48)],[],2⟩=some (.n,⟨[(0,.s res)],[],2⟩):=by
 refine zau (fun l:List UInt8=>⟨[(0,.s l),(1,u8 48)],[],2⟩) _ (fun l=>l.length) _ ?_
 rintro l ⟨hl,hr⟩
 cases l with
 | nil=>
  right;simp at hr;subst hr;constructor<;>simp -implicitDefEqProofs[l125_0]
 | cons c r=>
  simp only[Yc]at hl;have h2:(0:Int)<(r.length:Int)+1:=by omega
  have h3:(1:Int)≤(r.length:Int)+1:=by omega
  by_cases hc:c=48
  ·left;subst hc;rw[List.dropWhile_cons_of_pos (by decide)]at hr;exact⟨r,⟨by omega,hr⟩,Y1 _,by simp -implicitDefEqProofs[l125_0,h2,h3],rfl⟩
  ·right;rw[List.dropWhile_cons_of_neg (by simpa using hc)]at hr;subst hr;have hc':¬ c.toNat=48:=fun h=>hc (UInt8.toNat_inj.1 h);constructor<;>simp -implicitDefEqProofs[l125_0,h2,hc']
end
section
variable{T:Tbl}[Zgu T]
theorem zut(l:List UInt8)(hl:l.length≤1000000):Zb T 103 [.s l,.s [48]]=some (.s (l.dropWhile (· == 48))):=by
 have h:=zq0 (T:=T) _ l ⟨hl,rfl⟩;have h1:Zb T 125 [.s l,u8 48]=some (.s (l.dropWhile (· == 48))):=by
  rw[zab Zgu.h125 rfl,b125];simp -implicitDefEqProofs[h]
 obtain⟨Z,hZ⟩:∃Z,b103=(.seq
 (.reg [⟨(some 4),none,.mov (.c (.s []))⟩])
 (.seq
  (.seq
  (.reg [⟨(some 7),none,.mov (.t 0)⟩,
   ⟨(some 8),none,.bin .eql (.t 7) (.c (.s []))⟩,
   ⟨(some 9),none,.mov (.t 8)⟩,
   ⟨(some 10),(some (9,false)),.mov (.t 1)⟩,
   ⟨(some 11),(some (9,false)),.bin .eql (.t 10) (.c (.s []))⟩,
   ⟨(some 12),none,.pick (.t 9) (.c (.b true)) (.t 11)⟩])
  (.cond (.t 12)
   (.seq
   (.reg [⟨(some 13),none,.mov (.t 0)⟩,
    ⟨(some 4),none,.mov (.t 13)⟩])
   (.pre (.norm false [4]) .ret))
   .skip))
  (.seq
  (.seq
   (.reg [⟨(some 14),none,.mov (.t 1)⟩,
    ⟨(some 15),none,.lens (.t 14)⟩,
    ⟨(some 16),none,.bin .eql (.t 15) (.c (.i .i64 1))⟩,
    ⟨(some 17),none,.mov (.t 16)⟩,
    ⟨(some 18),(some (17,true)),.mov (.t 1)⟩,
    ⟨(some 19),(some (17,true)),.ixs (.t 18) (.c (.i .i64 0))⟩,
    ⟨(some 20),(some (17,true)),.bin .lss (.t 19) (.c (u8 128))⟩,
    ⟨(some 21),none,.pick (.t 17) (.t 20) (.c (.b false))⟩])
   (.cond (.t 21)
   (.seq
    (.reg [⟨(some 22),none,.mov (.t 0)⟩,
     ⟨(some 23),none,.mov (.t 1)⟩,
     ⟨(some 24),none,.ixs (.t 23) (.c (.i .i64 0))⟩,
     ⟨(some 25),none,.call 125 [(.t 22),(.t 24)]⟩,
     ⟨(some 4),none,.mov (.t 25)⟩])
    (.pre (.norm false [4]) .ret))
   .skip)) Z)):AX):=⟨_,rfl⟩
 rw[zab Zgu.h103 rfl,hZ];by_cases h0:l=[]
 ·subst h0;simp -implicitDefEqProofs
 ·simp -implicitDefEqProofs[h0,h1]
end
end Go.Ab
end
section
namespace Go.Ab
variable{P:Program}{ν:Nat→FuncId}{T:Tbl}
theorem zs2(hT:TOk P ν T)(hm:P.follows .mixedOrders=true){cx:Cx}(hP:cx.P=P)(hk:cx.clk0=1)(c:AX){code:Code}{nt:Nat}(hnt:cx.nt=nt)(hres:Zm P nt code=some (er ν (Zl T) c)){st:St}{e:Ex}{st':St}
  (h:evX (orc T) T 0 c st=some (e,st')) {a:Act} {w:World} (hr:Rel cx st a w) {K:Exit→Act→World→Prop} (hK:∀a' w',Rel cx st' a' w'→K e.out a' w'):code.wp P K a w:=by
 obtain⟨L,h1,h2⟩:=zbo T 0 c st _ _ h;obtain⟨n,hn⟩:=zm8 T h1;have hev:=zax (GoodO.orcN hT hm n) (k:=0) (cx:=cx) hP hk c st e st' (h2 _ hn);subst hP hnt;refine wp_mono (hev code hres hm a w hr) ?_
 rintro ex a' w' ⟨s,⟨rfl,rfl⟩,hr'⟩
 exact hK a' w' hr'
theorem zs3{nt:Nat}{w:World}{S:Nat→Nat→Prop}{cargs:Array Value}{args:List AV}(hl:cargs.size=args.length)(hn:args.length≤nt)
  (hC:∀(j:Nat) (v:Value) (c:AV),cargs[j]? = some v→args[j]? = some c→CP w S v c) (hS:∀k o,S k o→k<w.heap.size) :
  Rel ⟨P,nt,w,S,fun _=>none,1⟩ ⟨Zca args,[],1⟩ { tmps:=cargs++Array.replicate (nt-cargs.size) undef,defers:=[] } w:=by
 refine⟨S,fun _=>none,by simp;omega,rfl,fun t=>?_,⟨⟨fun b bx hb=>(by simp at hb),fun g m hm=>(by cases hm),fun b bx b' bx' h1=>(by simp at h1),fun g g' k h1=>(by cases h1)⟩,
  Ext.refl _ _ _ _,⟨rfl,rfl,rfl,Yi _,fun _ _ _=>rfl⟩,fun k o hs=>.inl hs,hS,fun g k hm=>(by cases hm)⟩⟩
 rw[zic];cases ha:args[t]? with
 | none=>exact .p (.dead _)
 | some x=>
  have htl:=za3 ha;have hv:cargs[t]? = some (cargs[t]'(by omega)):=Yy _;have e1:(cargs++Array.replicate (nt-cargs.size) undef).getD t undef=cargs[t]'(by omega):=by
   simp only[Ydk];rw[Yaw (by omega),hv]
   rfl
  rw[e1];exact .p (hC t _ x hv ha)
theorem Rel.below{nt:Nat}{w0:World}{S:Nat→Nat→Prop}{st:St}{a:Act}{w:World}(h:Rel ⟨P,nt,w0,S,fun _=>none,1⟩ st a w):RowKit.Below w0.heap.size w0 w:=by
 obtain⟨S',M',hr⟩:=h;exact⟨hr.wr.fr.os,hr.wr.fr.tape,hr.wr.fr.output,hr.wr.fr.size,fun k hk=>hr.wr.fr.block k hk fun⟨g,hg⟩=>(by cases hg)⟩
theorem Rel.strAt{cx:Cx}{st:St}{a:Act}{w:World}(h:Rel cx st a w){t:Nat}{l:List UInt8}(he:st.env.get t=.s l):a.tmps.getD t undef=.string ⟨l.toArray⟩:=by
 obtain⟨S',M',hr⟩:=h;have:=hr.env t;rw[he]at this;generalize a.tmps.getD t undef=v at *
 cases this with
 | p h=>cases h;rfl
theorem Rel.strs{cx:Cx}{st:St}{a:Act}{w:World}(h:Rel cx st a w){t:Nat}{b:BId}{g n:Nat}{ls:List (List UInt8)}(hne:ls≠[])(he:st.env.get t=.bs b g 1 0 n)
  (hb:st.heap.lookup b=some ⟨g,.own,1,ls.map fun s=>[.s s]⟩):∃k arr e cap,a.tmps.getD t undef=.slice (some ⟨k,0,none⟩) n cap∧w.heap[k]? = some (.cells arr e (0,0))∧n≤cap∧cap≤maxLen∧cap≤arr.size ∧
   ∀(i:Nat) (s:List UInt8),ls[i]? = some s→arr[i]? = some (Value.string ⟨s.toArray⟩):=by
 obtain⟨S',M',hr⟩:=h;have h1:=hr.env t;rw[he]at h1;obtain⟨_,_,m,hm,h2⟩:=hr.wr.heap.box b _ hb;simp only at hm h2;generalize a.tmps.getD t undef=v at *
 cases h1 with
 | p h=>cases h
 | bs _ _ _ _ _ _ hg hB h1=>
  unfold Zer at hB;rw[hm]at hB;cases m with
  | none=>exact absurd (by simpa using h2.1) hne
  | some k=>
   obtain⟨arr,e,cap,hk,hv,c1,c2,c3⟩:=hB;obtain⟨arr',e',hk',_,hcells,_⟩:=h2;rw[hk]at hk';cases hk';refine⟨k,arr,e,cap,by rw[hv],hk,c1,c2,by omega,fun i s hi=>?_⟩;obtain⟨u,hu,_,_,hc⟩:=hcells i [.s s] 0 (.s s) (by simp[hi]) rfl;have:=hc (by simp);rw[Ydl,Y2]at hu;cases this;exact hu
end Go.Ab
end
section
namespace Go.Proofs.YtoppjelfghopnaaGreatDoor
open Go Go.Ab Go.RowKit
theorem list_cons{α:Type}{n:Nat}{l:List α}(h:l.length=n+1):∃x t,l=x::t∧t.length=n:=by
 cases l with
 | nil=>simp at h
 | cons x t=>exact⟨x,t,rfl,by simpa using h⟩
set_option maxHeartbeats 2000000 in
set_option maxRecDepth 100000 in
theorem text_calls(hm:Tryz.prog.follows .mixedOrders=true)(a:List UInt32)(hl:a.length≤1000){w0:World}{S:Nat→Nat→Prop}{cargs:Array Value}(hsz:cargs.size=1)
  (hC:∀(j:Nat) (v:Value) (c:AV),cargs[j]? = some v→[AV.sl (Za a) .an][j]? = some c→CP w0 S v c) (hS:∀k o,S k o→k<w0.heap.size) :
  Calls Tryz.prog 76 cargs w0 fun e w'=>e=.returned (.string ⟨(Zs (val a)).toArray⟩)∧Below w0.heap.size w0 w':=by
 refine calls_of_wp Tryz.func76 rfl ?_;have h0:=zs3 (P:=Tryz.prog) (nt:=40) (w:=w0) (S:=S) (cargs:=cargs) (args:=[AV.sl (Za a) .an]) (by simpa using hsz) (by simp) hC hS;refine wp_seq (zs2 sTab_ok hm (cx:=⟨Tryz.prog,40,w0,S,fun _=>none,1⟩) rfl rfl tx0 (nt:=40) rfl (by kernel_rfl) (sTab_part.ev (by kernel_rfl) (zadq (T:=tab) _)) h0 fun a1 w1 h1=>?_);refine wp_seq ?_;by_cases hz:val a=0
 ·refine zs2 sTab_ok hm (cx:=⟨Tryz.prog,40,w0,S,fun _=>none,1⟩) rfl rfl txA (nt:=40) rfl (by kernel_rfl) (sTab_part.ev (by kernel_rfl) (z5u (T:=tab) a hl hz)) h1 fun a2 w2 h2=>?_;have hv:=h2.strAt (t:=2) (l:=[48]) rfl;have hb:=h2.below;have ht:Zs (val a)=[48]:=by rw[hz];exact zbs (by decide)
  obtain⟨_,_,hr2⟩:=h2;refine(show bodyPost Tryz.prog Tryz.f76 (fun e w'=>e=.returned (.string ⟨(Zs (val a)).toArray⟩)∧Below w0.heap.size w0 w') .ret a2 w2 from ?_);refine⟨hr2.defers,.string ⟨[48].toArray⟩,?_,by rw[ht],hb⟩;rw[←hv];exact results_tmp rfl _ _ _
 ·refine zs2 sTab_ok hm (cx:=⟨Tryz.prog,40,w0,S,fun _=>none,1⟩) rfl rfl txA (nt:=40) rfl (by kernel_rfl) (sTab_part.ev (by kernel_rfl) (z5v (T:=tab) a hl hz)) h1 fun a2 w2 h2=>?_;refine wp_seq (zs2 sTab_ok hm (cx:=⟨Tryz.prog,40,w0,S,fun _=>none,1⟩) rfl rfl tx3 (nt:=40) rfl (by kernel_rfl) (sTab_part.ev (by kernel_rfl) (zadr (T:=tab) a)) h2 fun a3 w3 h3=>?_);refine wp_seq (zs2 sTab_ok hm (cx:=⟨Tryz.prog,40,w0,S,fun _=>none,1⟩) rfl rfl txP (nt:=40) rfl (by kernel_rfl) (sTab_part.ev (by kernel_rfl) (zads (T:=tab) a hl)) h3 fun a4 w4 h4=>?_);have hb4:=h4.below;have hne:pieces (val a)≠[]:=by rw[zb6 hz];simp
  obtain⟨k,arr,e,cap,hv,hk,hc1,hc2,hc3,hcells⟩:=h4.strs (t:=3) (ls:=pieces (val a)) hne rfl (by simp[Zcy]);obtain⟨_,_,hr4⟩:=h4;have hdf:=hr4.defers;have hsz:=hr4.size;have hpl:=zmk a;clear hr4 h0 h1 h2 h3
  change Code.wp _ _ _ a4 w4
  obtain⟨tm,df⟩:=a4;obtain⟨l,rfl⟩:∃l:List Value,tm=l.toArray:=⟨tm.toList,by simp⟩;simp only[Yd0]at hsz;simp only at hdf;subst hdf;obtain⟨x0,l0,rfl,s0⟩:=list_cons hsz;obtain⟨x1,l1,rfl,s1⟩:=list_cons s0;obtain⟨x2,l2,rfl,s2⟩:=list_cons s1;obtain⟨x3,l3,rfl,s3⟩:=list_cons s2;obtain⟨x4,l4,rfl,s4⟩:=list_cons s3;obtain⟨x5,l5,rfl,s5⟩:=list_cons s4;obtain⟨x6,l6,rfl,s6⟩:=list_cons s5;obtain⟨x7,l7,rfl,s7⟩:=list_cons s6;obtain⟨x8,l8,rfl,s8⟩:=list_cons s7;obtain⟨x9,l9,rfl,s9⟩:=list_cons s8;obtain⟨x10,l10,rfl,s10⟩:=list_cons s9;obtain⟨x11,l11,rfl,s11⟩:=list_cons s10;obtain⟨x12,l12,rfl,s12⟩:=list_cons s11;obtain⟨x13,l13,rfl,s13⟩:=list_cons s12;obtain⟨x14,l14,rfl,s14⟩:=list_cons s13;obtain⟨x15,l15,rfl,s15⟩:=list_cons s14;obtain⟨x16,l16,rfl,s16⟩:=list_cons s15;obtain⟨x17,l17,rfl,s17⟩:=list_cons s16;obtain⟨x18,l18,rfl,s18⟩:=list_cons s17;obtain⟨x19,l19,rfl,s19⟩:=list_cons s18;obtain⟨x20,l20,rfl,s20⟩:=list_cons s19;obtain⟨x21,l21,rfl,s21⟩:=list_cons s20;obtain⟨x22,l22,rfl,s22⟩:=list_cons s21;obtain⟨x23,l23,rfl,s23⟩:=list_cons s22;obtain⟨x24,l24,rfl,s24⟩:=list_cons s23;obtain⟨x25,l25,rfl,s25⟩:=list_cons s24;obtain⟨x26,l26,rfl,s26⟩:=list_cons s25;obtain⟨x27,l27,rfl,s27⟩:=list_cons s26;obtain⟨x28,l28,rfl,s28⟩:=list_cons s27;obtain⟨x29,l29,rfl,s29⟩:=list_cons s28;obtain⟨x30,l30,rfl,s30⟩:=list_cons s29;obtain⟨x31,l31,rfl,s31⟩:=list_cons s30;obtain⟨x32,l32,rfl,s32⟩:=list_cons s31;obtain⟨x33,l33,rfl,s33⟩:=list_cons s32;obtain⟨x34,l34,rfl,s34⟩:=list_cons s33;obtain⟨x35,l35,rfl,s35⟩:=list_cons s34;obtain⟨x36,l36,rfl,s36⟩:=list_cons s35;obtain⟨x37,l37,rfl,s37⟩:=list_cons s36;obtain⟨x38,l38,rfl,s38⟩:=list_cons s37;obtain⟨x39,l39,rfl,s39⟩:=list_cons s38;cases Yaq s39;have hx3:x3=.slice (some ⟨k,0,none⟩) (pieces (val a)).length cap:=hv;subst hx3;have hjoin:=zn0 (val a) hz;have hall:=zny (val a);generalize pieces (val a)=ps at *
  have HC:Aside (∀(i:Nat) (s:List UInt8),ps[i]? = some s→arr[i]? = some (Value.string ⟨s.toArray⟩)):=hcells;have HJ:Aside (List.dropWhile (fun x=>x == 48) ps.reverse.flatten=Zs (val a)):=hjoin;have HN:Aside (∀s∈ps,s.length=9):=hall;have HB:Aside (Below w0.heap.size w0 w4):=hb4;have HK:Aside (w4.heap[k]? = some (.cells arr e (0,0))):=hk;have hk4:k<w4.heap.size:=by
   rcases Yq k w4.heap.size with h' | h'
   ·exact h'
   ·simp[Ybu h']at hk
  clear hcells hjoin hall hb4 hk
  go_wp2
  go_loopg [8] ps.length (fun g s8 wx=>s8=.int .i64 ((g:Int)-1)∧g≤ps.length∧Aside (Lib.IsBuilder 130 5 w4.heap.size w4.heap.size (Lib.byteCells (ps.drop g).reverse.flatten) wx∧Below w4.heap.size w4 wx))
  case atStart=>exact⟨rfl,Yi _,by rw[Yar];exact Lib.fresh_isBuilder 130 5 w4,(Below.refl _ _).alloc (Yi _) _⟩
  case round=>
   obtain⟨rfl,hg,HW⟩:=hrel;cases gk with
   | zero=>
    obtain⟨hBld,hBel⟩:=HW.out;rw[Yba]at hBld;have hne':ps.reverse.flatten≠[]:=by
     intro h;have:=zcg ps.reverse (fun s hs=>HN.out s (Ydd.1 hs));rw[h]at this;simp at this;exact hne (Yaq (by omega))
    have HT:Aside (ps.reverse.flatten≠[]):=hne';clear hne';have hlenF:ps.reverse.flatten.length≤1000000:=by
     rw[zcg ps.reverse (fun s hs=>HN.out s (Ydd.1 hs)),Ycs];omega
    have hT:∀W:World,Calls Tryz.prog 117 #[.string ⟨ps.reverse.flatten.toArray⟩,.string ⟨#[48]⟩] W fun e w'=>e=.returned (.string ⟨(Zs (val a)).toArray⟩)∧Below W.heap.size W w':=by
     intro W;have h1:=zg4 sTab_ok hm (u:=103) rfl rfl (sTab_part.call (by kernel_rfl) (zut (T:=tab) ps.reverse.flatten hlenF));rw[HJ.out]at h1;refine(h1.2 W (fun _ _=>False) #[.string ⟨ps.reverse.flatten.toArray⟩,.string ⟨#[48]⟩] rfl (fun j v c hv hc=>?_) (fun _ _ h=>h.elim)).mono ?_
     ·match j,hv,hc with
      | 0,hv,hc=>cases hv;cases hc;exact .s _
      | 1,hv,hc=>cases hv;cases hc;exact .s _
     ·rintro e w' ⟨v,r,rfl,rfl,hb,hc⟩
      cases hc;exact⟨rfl,hb⟩
    have HTT:=hT;clear hT
    go_wp2_with (go_at_call 79;refine(Tryz.bString w4.heap.size w4.heap.size ps.reverse.flatten wr hBld HT.out).mono ?_)
    rintro e1 w5 ⟨rfl,hb5⟩
    go_wp2_with (go_at_call 117;refine(HTT w5).mono ?_)
    rintro e2 w6 ⟨rfl,hb6⟩
    go_wp2
    go_ret
    refine⟨rfl,?_⟩;have hs1:=HB.out.size;have hs5:=(hBel.trans hb5).size;exact HB.out.trans (((hBel.trans hb5).mono hs1).trans (hb6.mono (by omega)))
   | succ j=>
    obtain⟨hBld,hBel⟩:=HW.out;obtain⟨s,hs⟩:∃s,ps[j]? = some s:=⟨_,Ya (by omega)⟩;have hcell:wr.cell? ⟨k,j,none⟩=some (.string ⟨s.toArray⟩):=by
     rw[hBel.cell (p:=⟨k,j,none⟩) hk4,Lib.cell_of_heap HK.out];exact HC.out j s hs
    have hs9:s.length=9:=HN.out s (Yf hs);have hflen:=zcg (ps.drop (j+1)).reverse (fun s hs=>HN.out s (Ybp (Ydd.1 hs)));have HS:Aside (ps[j]? = some s):=hs;clear hs;rw[Ycs,Yan]at hflen;have hbound:(Lib.byteCells (ps.drop (j+1)).reverse.flatten).length+(⟨s.toArray⟩:ByteArray).size≤140737488355328:=by
     rw[Lib.byteCells_length,hflen];show _+s.toArray.size≤_;simp only[Yd0];omega
    have HF:Aside ((Lib.byteCells (ps.drop (j+1)).reverse.flatten).length+(⟨s.toArray⟩:ByteArray).size≤140737488355328):=hbound;clear hflen hbound
    go_wp2_with (go_at_call 78;refine(Tryz.bWrite w4.heap.size w4.heap.size _ ⟨s.toArray⟩ wr hBld HF.out hBel.size).mono ?_)
    rintro e1 w5 ⟨rfl,h5,hb5⟩
    go_wp2
    go_roundg j
    case measure=>omega
    case rel=>
     refine⟨by congr 1,by omega,?_,hBel.trans hb5⟩;have e1:(ps.drop j).reverse.flatten=(ps.drop (j+1)).reverse.flatten++s:=by
      obtain⟨hj,he⟩:=Yal.1 HS.out;rw[Yw hj,he];simp
     rw[e1,Lib.byteCells_append];exact .inr h5
theorem word_rows:∀(els:List (List AV)) (l:List UInt32),els.mapM Ze0=some l→els=Za l
 | [],l,h=>by cases h;rfl
 | r::els,l,h=>by
  rw[Ya5]at h;obtain⟨x,hx,h1⟩:=bind_some h;obtain⟨y,hy,h2⟩:=bind_some h1;cases h2;rw[word_rows els y hy];unfold Ze0 at hx;split at hx
  ·split at hx
   ·cases hx;rename_i n hn;have:(w32 n.toNat).toNat=n.toNat:=zag (by omega);simp only[Za,Ys,this,u32];rw[Int.toNat_of_nonneg hn.1]
   ·cases hx
  ·cases hx
theorem text_ok(hm:Tryz.prog.follows .mixedOrders=true):∀xs r,prim68 xs=some r→Z6 Tryz.prog (nu 68) xs (·=r):=by
 intro xs r h;unfold prim68 at h;split at h
 ·split at h
  ·rename_i els hl;cases hw:els.mapM Ze0 with
   | none=>rw[hw]at h;cases h
   | some l=>
    rw[hw]at h;cases h;have he:=word_rows els l hw;subst he;rw[zg5]at hl;refine⟨enters_of Tryz.func76 (by kernel_rfl) rfl,fun w S cargs hsz hC hS=>?_⟩;refine(text_calls hm l hl (by simpa using hsz) hC hS).mono ?_
    rintro e w' ⟨rfl,hb⟩
    exact⟨_,_,rfl,rfl,hb,.s _⟩
  ·cases h
 ·cases h
#print axioms text_ok
end Go.Proofs.YtoppjelfghopnaaGreatDoor
end
section
set_option linter.unusedVariables false
namespace Go.Proofs
open Go.Shelf Go.RowKit
variable{P:Program}{ρ:Ren}
structure JL (P:Program) (ρ:Ren):Prop extends Lays.n169 P ρ,Lays.n241 P ρ,Builder.Extra P ρ where
 f156:P.funcs[ρ.f 156]? = some (Body.n156 ρ)
 f165:P.funcs[ρ.f 165]? = some (Body.n165 ρ)
 f166:P.funcs[ρ.f 166]? = some (Body.n166 ρ)
 t4:P.underlying (ρ.t 4)=some (TypeDesc.bool)
 a4:∀w,(isAgg (ρ.t 4)).run P w=.ok false w
 z4:∀w,(Go.sizeOf (ρ.t 4)).run P w=.ok 1 w
 v4:∀w,(zeroValue (ρ.t 4)).run P w=.ok (Value.bool false) w
 t20:P.underlying (ρ.t 20)=some (TypeDesc.interface #[])
 a20:∀w,(isAgg (ρ.t 20)).run P w=.ok false w
 z20:∀w,(Go.sizeOf (ρ.t 20)).run P w=.ok 1 w
 v20:∀w,(zeroValue (ρ.t 20)).run P w=.ok (Value.nilIface) w
 t31:P.underlying (ρ.t 31)=some (TypeDesc.slice (ρ.t 9))
 a31:∀w,(isAgg (ρ.t 31)).run P w=.ok false w
 z31:∀w,(Go.sizeOf (ρ.t 31)).run P w=.ok 1 w
 v31:∀w,(zeroValue (ρ.t 31)).run P w=.ok (Value.slice none 0 0) w
 t75:P.underlying (ρ.t 75)=some (TypeDesc.interface #[("Error",ρ.t 80)])
 a75:∀w,(isAgg (ρ.t 75)).run P w=.ok false w
 z75:∀w,(Go.sizeOf (ρ.t 75)).run P w=.ok 1 w
 v75:∀w,(zeroValue (ρ.t 75)).run P w=.ok (Value.nilIface) w
 t76:P.underlying (ρ.t 76)=some (TypeDesc.tuple #[ρ.t 3,ρ.t 75])
 a76:∀w,(isAgg (ρ.t 76)).run P w=.ok false w
 z76:∀w,(Go.sizeOf (ρ.t 76)).run P w=.ok 1 w
 v76:∀w,(zeroValue (ρ.t 76)).run P w=.ok (Value.tuple #[Value.int IntKind.i64 0,Value.nilIface]) w
 t164:P.underlying (ρ.t 164)=some (TypeDesc.unsafePointer)
 a164:∀w,(isAgg (ρ.t 164)).run P w=.ok false w
 z164:∀w,(Go.sizeOf (ρ.t 164)).run P w=.ok 1 w
 v164:∀w,(zeroValue (ρ.t 164)).run P w=.ok (Value.pointer none) w
 e240:∀args w,(callFunc (ρ.f 240) args).run P w=.ok (.enter (ρ.f 240) args) w
 c240:∀(B b:Nat) (bs:List Value) (w:World),Lib.IsBuilder (ρ.t 72) (ρ.t 5) B b bs w →
  Calls P (ρ.f 240) #[.pointer (some ⟨b,0,none⟩)] w fun e w'=>e=.returned (.tuple #[])∧(Lib.BuilderAt (ρ.t 72) (ρ.t 5) B b (.pointer (some ⟨b,0,none⟩)) bs w'∧Below B w w')
 c240f:∀(b:Nat) (w:World),w.cell? ⟨b,0,none⟩=some (.pointer none)→w.shape? b=some ((ρ.t 72),2)→w.frozen? ⟨b,0,none⟩=false →
  Calls P (ρ.f 240) #[.pointer (some ⟨b,0,none⟩)] w fun e w'=>e=.returned (.tuple #[])∧w'=w.setCell ⟨b,0,none⟩ (.pointer (some ⟨b,0,none⟩))
theorem Jl.hid{p:Prop}(h:p):Hid p:=h
set_option maxHeartbeats 2000000 in
set_option maxRecDepth 100000 in
theorem Jl.Builder_WriteString(L:JL P ρ)(B b:Nat)(bs:List Value)(s:ByteArray)(w:World)(h:Lib.IsBuilder (ρ.t 72) (ρ.t 5) B b bs w)(hlen:bs.length+s.size≤140737488355328)(hBw:B≤w.heap.size) :
  Calls P (ρ.f 166) #[.pointer (some ⟨b,0,none⟩),.string s] w fun e w'=>e=.returned (.tuple #[.int .i64 s.size,.nilIface])∧(Lib.BuilderAt (ρ.t 72) (ρ.t 5) B b (.pointer (some ⟨b,0,none⟩)) (bs++Lib.strCells s) w'∧Below B w w'):=by
 obtain⟨i0,hi,hz0,hz1,hz2⟩:=info_parts L.infoByte;have mixed:=L.mixed;have t72:=L.t72;have a72:=L.a72;have z72:=L.z72;have v72:=L.v72;have u72:=run_underlying L.t72;have t70:=L.t70;have a70:=L.a70;have z70:=L.z70;have v70:=L.v70;have u70:=run_underlying L.t70;have t37:=L.t37;have a37:=L.a37;have z37:=L.z37;have v37:=L.v37;have u37:=run_underlying L.t37;have t3:=L.t3;have a3:=L.a3;have z3:=L.z3;have v3:=L.v3;have u3:=run_underlying L.t3;have t9:=L.t9;have a9:=L.a9;have z9:=L.z9;have v9:=L.v9;have u9:=run_underlying L.t9;have t4:=L.t4;have a4:=L.a4;have z4:=L.z4;have v4:=L.v4;have u4:=run_underlying L.t4;have t164:=L.t164;have a164:=L.a164;have z164:=L.z164;have v164:=L.v164;have u164:=run_underlying L.t164;have t5:=L.t5;have a5:=L.a5;have z5:=L.z5;have v5:=L.v5;have u5:=run_underlying L.t5;have e240:∀args w,(callFunc (ρ.f 240) args).run P w=.ok (.enter (ρ.f 240) args) w:=L.e240
 go_enter L.f166,Body.n166_ntmps ρ
 go_wp2_with (go_at_fn (ρ.f 240);refine(L.c240 B b bs _ h).mono ?_)
 rintro e w1 ⟨rfl,h1,hb1⟩
 obtain⟨hB,v,hbk,hown,hne⟩:=h1;have c0:w1.cell? ⟨b,0,none⟩=some (.pointer (some ⟨b,0,none⟩)):=by rw[Lib.cell_of_heap hbk];rfl
 have c1:w1.cell? ⟨b,1,none⟩=some v:=by rw[Lib.cell_of_heap hbk];rfl
 go_wp2_with (at_builtin;refine Lib.wpList_append_own_string _ rfl _ _ (ρ.t 37) (ρ.t 9) rfl B (ρ.t 5) i0 L.t37 L.t9 hi hz0 hz1 hz2 _ _ _ rfl hown s rfl ?c3 ?c4 ?c5 ?_)
 case c3=>unfold maxLen;omega
 case c4=>omega
 case c5=>have:=hb1.size;omega
 intro v' w2 hown' hgrow _;have hlt:b<w1.heap.size:=by
  rcases Nat.lt_or_ge b w1.heap.size with h' | h'
  ·exact h'
  ·simp[Array.getElem?_eq_none h']at hbk
 have hb2:w2.heap[b]? = some (.cells #[.pointer (some ⟨b,0,none⟩),v] (ρ.t 72) (0,0)):=by
  rw[hgrow.block b hlt (fun e=>hne e.symm)];exact hbk
 have d0:w2.cell? ⟨b,0,none⟩=some (.pointer (some ⟨b,0,none⟩)):=by rw[Lib.cell_of_heap hb2];rfl
 have d1:w2.cell? ⟨b,1,none⟩=some v:=by rw[Lib.cell_of_heap hb2];rfl
 have f1:w2.frozen? ⟨b,1,none⟩=false:=Lib.frozen_of_heap hb2 1;obtain⟨ao,n',cap,rfl⟩:∃ao n' cap,v'=.slice ao n' cap:=by
  rcases hown'.2 with ⟨hv,_⟩ | ⟨g,cap,cur,hv,_⟩
  ·exact⟨_,_,_,hv⟩
  ·exact⟨_,_,_,hv⟩
 go_wp2
 go_ret2
 refine⟨rfl,?_,?_⟩
 ·exact Lib.BuilderAt.put (T:=(ρ.t 72)) (e:=(ρ.t 5)) hB hb2 (bs':=bs++Lib.strCells s) (by simpa[Lib.strCells_length]using hown') L.neB5
 ·exact(hb1.grown hgrow (by have:=hb1.size;omega) (fun k hk=>(hown.lt k hk).1)).setCell (p:=⟨b,1,none⟩) hB _
set_option maxHeartbeats 2000000 in
set_option maxRecDepth 1000000 in
theorem Jl.Builder_Grow_fresh(L:JL P ρ)(B b n:Nat)(w:World)(hB:B≤b)(hbk:w.heap[b]? = some (.cells #[.pointer none,.slice none 0 0] (ρ.t 72) (0,0)))(hBw:B≤w.heap.size)(hn:n≤281474976710656) :
  Calls P (ρ.f 165) #[.pointer (some ⟨b,0,none⟩),.int .i64 n] w fun e w'=>e=.returned (.tuple #[])∧(Lib.BuilderAt (ρ.t 72) (ρ.t 5) B b (.pointer (some ⟨b,0,none⟩)) [] w'∧Below B w w'):=by
 have hbk1:(w.setCell ⟨b,0,none⟩ (.pointer (some ⟨b,0,none⟩))).heap[b]? = some (.cells #[.pointer (some ⟨b,0,none⟩),.slice none 0 0] (ρ.t 72) (0,0)):=by
  simp[World.setCell,Array.getElem?_modify,hbk]
 have c1:(w.setCell ⟨b,0,none⟩ (.pointer (some ⟨b,0,none⟩))).cell? ⟨b,1,none⟩=some (.slice none 0 0):=by rw[Lib.cell_of_heap hbk1];rfl
 have hb1:Below B w (w.setCell ⟨b,0,none⟩ (.pointer (some ⟨b,0,none⟩))):=(Below.refl B w).setCell (p:=⟨b,0,none⟩) hB _;have mixed:=L.mixed;have t72:=L.t72;have a72:=L.a72;have z72:=L.z72;have v72:=L.v72;have u72:=run_underlying L.t72;have t70:=L.t70;have a70:=L.a70;have z70:=L.z70;have v70:=L.v70;have u70:=run_underlying L.t70;have t37:=L.t37;have a37:=L.a37;have z37:=L.z37;have v37:=L.v37;have u37:=run_underlying L.t37;have t3:=L.t3;have a3:=L.a3;have z3:=L.z3;have v3:=L.v3;have u3:=run_underlying L.t3;have t9:=L.t9;have a9:=L.a9;have z9:=L.z9;have v9:=L.v9;have u9:=run_underlying L.t9;have t4:=L.t4;have a4:=L.a4;have z4:=L.z4;have v4:=L.v4;have u4:=run_underlying L.t4;have t164:=L.t164;have a164:=L.a164;have z164:=L.z164;have v164:=L.v164;have u164:=run_underlying L.t164;have t5:=L.t5;have a5:=L.a5;have z5:=L.z5;have v5:=L.v5;have u5:=run_underlying L.t5;have e240:∀args w,(callFunc (ρ.f 240) args).run P w=.ok (.enter (ρ.f 240) args) w:=L.e240;have e241:∀args w,(callFunc (ρ.f 241) args).run P w=.ok (.enter (ρ.f 241) args) w:=enters_of L.f241 (by kernel_rfl) rfl
 go_enter L.f165,Body.n165_ntmps ρ
 have hU:Lib.BuilderAt (ρ.t 72) (ρ.t 5) B b (.pointer (some ⟨b,0,none⟩)) [] (w.setCell ⟨b,0,none⟩ (.pointer (some ⟨b,0,none⟩))):=⟨hB,.slice none 0 0,hbk1,World.ownsRow_nil _ _ _ _,by simp[Value.ownBlock]⟩;have c1':(w.setCell ⟨b,0,none⟩ (.pointer (some ⟨b,0,none⟩))).drew.cell? ⟨b,1,none⟩=some (.slice none 0 0):=c1
 go_wp2_with (go_at_fn (ρ.f 240);refine(L.c240f b w (by rw[Lib.cell_of_heap hbk];rfl) (by simp[World.shape?,hbk]) (Lib.frozen_of_heap hbk 0)).mono ?_;rintro e w' ⟨rfl,rfl⟩)
 go_region_o
 all_goals go_wp2_with (go_at_fn (ρ.f 241);refine(Any.Builder_grow_fresh L.ton241 L.toExtra B b n (w.setCell ⟨b,0,none⟩ (.pointer (some ⟨b,0,none⟩))).drew hB hbk1 (by simpa[World.setCell,World.drew,-World.drew_eq]using hBw) hn).mono ?_;rintro e w' ⟨rfl,h1,h2⟩)
 all_goals first
  | (go_end0;exact⟨rfl,h1,hb1.drew.trans h2⟩)
  | (go_end0;exact⟨rfl,hU.drew,hb1.drew⟩)
theorem Jl.strings_Join_none(L:JL P ρ)(a:Option Addr)(c:Nat)(sep:ByteArray)(w:World) :
  Calls P (ρ.f 156) #[.slice a 0 c,.string sep] w fun e w'=>e=.returned (.string ⟨#[]⟩)∧w'=w:=by
 have mixed:=L.mixed;have t72:=L.t72;have a72:=L.a72;have z72:=L.z72;have v72:=L.v72;have u72:=run_underlying L.t72;have t70:=L.t70;have a70:=L.a70;have z70:=L.z70;have v70:=L.v70;have u70:=run_underlying L.t70;have t37:=L.t37;have a37:=L.a37;have z37:=L.z37;have v37:=L.v37;have u37:=run_underlying L.t37;have t127:=L.t127;have a127:=L.a127;have z127:=L.z127;have v127:=L.v127;have u127:=run_underlying L.t127;have t3:=L.t3;have a3:=L.a3;have z3:=L.z3;have v3:=L.v3;have u3:=run_underlying L.t3;have t9:=L.t9;have a9:=L.a9;have z9:=L.z9;have v9:=L.v9;have u9:=run_underlying L.t9;have t4:=L.t4;have a4:=L.a4;have z4:=L.z4;have v4:=L.v4;have u4:=run_underlying L.t4;have t164:=L.t164;have a164:=L.a164;have z164:=L.z164;have v164:=L.v164;have u164:=run_underlying L.t164;have t31:=L.t31;have a31:=L.a31;have z31:=L.z31;have v31:=L.v31;have u31:=run_underlying L.t31;have t5:=L.t5;have a5:=L.a5;have z5:=L.z5;have v5:=L.v5;have u5:=run_underlying L.t5;have e240:∀args w,(callFunc (ρ.f 240) args).run P w=.ok (.enter (ρ.f 240) args) w:=L.e240;have e241:∀args w,(callFunc (ρ.f 241) args).run P w=.ok (.enter (ρ.f 241) args) w:=enters_of L.f241 (by kernel_rfl) rfl;have e165:∀args w,(callFunc (ρ.f 165) args).run P w=.ok (.enter (ρ.f 165) args) w:=enters_of L.f165 (by kernel_rfl) rfl;have e166:∀args w,(callFunc (ρ.f 166) args).run P w=.ok (.enter (ρ.f 166) args) w:=enters_of L.f166 (by kernel_rfl) rfl;have e169:∀args w,(callFunc (ρ.f 169) args).run P w=.ok (.enter (ρ.f 169) args) w:=enters_of L.f169 (by kernel_rfl) rfl
 go_enter L.f156,Body.n156_ntmps ρ
 go_wp2
 go_ret
 exact⟨rfl,rfl⟩
theorem Jl.strings_Join_one(L:JL P ρ)(bk o c:Nat)(x sep:ByteArray)(w:World)(hc:w.cell? ⟨bk,o,none⟩=some (.string x)) :
  Calls P (ρ.f 156) #[.slice (some ⟨bk,o,none⟩) 1 c,.string sep] w fun e w'=>e=.returned (.string x)∧w'=w:=by
 have mixed:=L.mixed;have t72:=L.t72;have a72:=L.a72;have z72:=L.z72;have v72:=L.v72;have u72:=run_underlying L.t72;have t70:=L.t70;have a70:=L.a70;have z70:=L.z70;have v70:=L.v70;have u70:=run_underlying L.t70;have t37:=L.t37;have a37:=L.a37;have z37:=L.z37;have v37:=L.v37;have u37:=run_underlying L.t37;have t127:=L.t127;have a127:=L.a127;have z127:=L.z127;have v127:=L.v127;have u127:=run_underlying L.t127;have t3:=L.t3;have a3:=L.a3;have z3:=L.z3;have v3:=L.v3;have u3:=run_underlying L.t3;have t9:=L.t9;have a9:=L.a9;have z9:=L.z9;have v9:=L.v9;have u9:=run_underlying L.t9;have t4:=L.t4;have a4:=L.a4;have z4:=L.z4;have v4:=L.v4;have u4:=run_underlying L.t4;have t164:=L.t164;have a164:=L.a164;have z164:=L.z164;have v164:=L.v164;have u164:=run_underlying L.t164;have t31:=L.t31;have a31:=L.a31;have z31:=L.z31;have v31:=L.v31;have u31:=run_underlying L.t31;have t5:=L.t5;have a5:=L.a5;have z5:=L.z5;have v5:=L.v5;have u5:=run_underlying L.t5;have e240:∀args w,(callFunc (ρ.f 240) args).run P w=.ok (.enter (ρ.f 240) args) w:=L.e240;have e241:∀args w,(callFunc (ρ.f 241) args).run P w=.ok (.enter (ρ.f 241) args) w:=enters_of L.f241 (by kernel_rfl) rfl;have e165:∀args w,(callFunc (ρ.f 165) args).run P w=.ok (.enter (ρ.f 165) args) w:=enters_of L.f165 (by kernel_rfl) rfl;have e166:∀args w,(callFunc (ρ.f 166) args).run P w=.ok (.enter (ρ.f 166) args) w:=enters_of L.f166 (by kernel_rfl) rfl;have e169:∀args w,(callFunc (ρ.f 169) args).run P w=.ok (.enter (ρ.f 169) args) w:=enters_of L.f169 (by kernel_rfl) rfl
 go_enter L.f156,Body.n156_ntmps ρ
 go_wp2
 go_ret
 exact⟨rfl,rfl⟩
set_option maxHeartbeats 4000000 in
set_option maxRecDepth 100000 in
theorem Jl.strings_Join_many(L:JL P ρ)(bk o c:Nat)(xs:List ByteArray)(sep:ByteArray)(w:World)
  (hcells:∀(j:Nat) x,xs[j]? = some x→w.cell? ⟨bk,o+j,none⟩=some (.string x))
  (hbk:bk<w.heap.size) (h2:2≤xs.length) (hN:xs.length≤140737488355328) (hcap:xs.length≤c)
  (hlen:(Lib.join (xs.map (·.data.toList)) sep.data.toList).length≤140737488355328) :
  Calls P (ρ.f 156) #[.slice (some ⟨bk,o,none⟩) xs.length c,.string sep] w fun e w'=>e=.returned (.string ⟨(Lib.join (xs.map (·.data.toList)) sep.data.toList).toArray⟩)∧Below w.heap.size w w':=by
 have HC:=Jl.hid hcells;clear hcells
 -- the lengths
 obtain⟨x0,r,hxs⟩:∃x0 r,xs=x0::r:=by
  cases xs with
  | nil=>simp at h2
  | cons a t=>exact⟨a,t,rfl⟩
 have hjl:sep.size*(xs.length-1)+Lib.lens (xs.map (·.data.toList))≤140737488355328:=by
  have:=Lib.join_length x0.data.toList (r.map (·.data.toList)) sep.data.toList;rw[hxs]at hlen ⊢;simp only[List.map_cons]at hlen ⊢;rw[this,List.length_map]at hlen;rw[Lib.size_eq,List.length_cons,Nat.add_sub_cancel];exact hlen
 have hmul:sep.size*(xs.length-1)≤140737488355328:=by omega
 generalize hM:sep.size*(xs.length-1)=M at hjl hmul;have hcast:((xs.length:Int)-1)=((xs.length-1:Nat):Int):=by omega
 have hlt:sep.size<9223372036854775807/(xs.length-1):=by
  have:sep.size+1≤9223372036854775807/(xs.length-1):=by
   rw[Nat.le_div_iff_mul_le (by omega),Nat.add_mul,hM];omega
  omega
 have hdv:¬ (9223372036854775807/((xs.length:Int)-1)≤(sep.size:Int)):=by
  have e:(9223372036854775807:Int)/((xs.length-1:Nat):Int)=((9223372036854775807/(xs.length-1):Nat):Int):=IntWalk.up_div (x:=9223372036854775807) rfl rfl;rw[hcast,e];generalize 9223372036854775807/(xs.length-1)=q at hlt;omega
 have hprod:wrap64 ((sep.size:Int)*((xs.length:Int)-1))=(M:Int):=by
  have e:(sep.size:Int)*((xs.length-1:Nat):Int)=((sep.size*(xs.length-1):Nat):Int):=IntWalk.up_mul rfl rfl;rw[hcast,e,hM];exact IntWalk.wrap64_in _ ⟨by omega,by omega⟩
 have hM0:sep.size=0→M=0:=fun h=>by rw[←hM,h,Nat.zero_mul]
 clear hlt hcast;have hne0:((xs.length:Int) == 0)=false:=beq_eq_false_iff_ne.2 (by omega);have hne1:((xs.length:Int) == 1)=false:=beq_eq_false_iff_ne.2 (by omega);have Hxs:=Jl.hid hxs;have Hlen:=Jl.hid hlen;clear hxs hlen;have mixed:=L.mixed;have t72:=L.t72;have a72:=L.a72;have z72:=L.z72;have v72:=L.v72;have u72:=run_underlying L.t72;have t70:=L.t70;have a70:=L.a70;have z70:=L.z70;have v70:=L.v70;have u70:=run_underlying L.t70;have t37:=L.t37;have a37:=L.a37;have z37:=L.z37;have v37:=L.v37;have u37:=run_underlying L.t37;have t127:=L.t127;have a127:=L.a127;have z127:=L.z127;have v127:=L.v127;have u127:=run_underlying L.t127;have t3:=L.t3;have a3:=L.a3;have z3:=L.z3;have v3:=L.v3;have u3:=run_underlying L.t3;have t9:=L.t9;have a9:=L.a9;have z9:=L.z9;have v9:=L.v9;have u9:=run_underlying L.t9;have t4:=L.t4;have a4:=L.a4;have z4:=L.z4;have v4:=L.v4;have u4:=run_underlying L.t4;have t164:=L.t164;have a164:=L.a164;have z164:=L.z164;have v164:=L.v164;have u164:=run_underlying L.t164;have t31:=L.t31;have a31:=L.a31;have z31:=L.z31;have v31:=L.v31;have u31:=run_underlying L.t31;have t5:=L.t5;have a5:=L.a5;have z5:=L.z5;have v5:=L.v5;have u5:=run_underlying L.t5;have e240:∀args w,(callFunc (ρ.f 240) args).run P w=.ok (.enter (ρ.f 240) args) w:=L.e240;have e241:∀args w,(callFunc (ρ.f 241) args).run P w=.ok (.enter (ρ.f 241) args) w:=enters_of L.f241 (by kernel_rfl) rfl;have e165:∀args w,(callFunc (ρ.f 165) args).run P w=.ok (.enter (ρ.f 165) args) w:=enters_of L.f165 (by kernel_rfl) rfl;have e166:∀args w,(callFunc (ρ.f 166) args).run P w=.ok (.enter (ρ.f 166) args) w:=enters_of L.f166 (by kernel_rfl) rfl;have e169:∀args w,(callFunc (ρ.f 169) args).run P w=.ok (.enter (ρ.f 169) args) w:=enters_of L.f169 (by kernel_rfl) rfl
 go_enter L.f156,Body.n156_ntmps ρ
 go_wp2_with fail
 all_goals (
  go_loop [5,41] (fun n i=>∃k:Nat,k≤xs.length∧i=.int .i64 k∧n=.int .i64 ((M+Lib.lens ((xs.map (·.data.toList)).take k):Nat):Int)) (fun _ i=>xs.length-(intOf i).toNat)
  case atStart=>exact⟨0,Nat.zero_le _,rfl,by first | (simp[Lib.lens];done) | (have:=hM0 (by omega);simp[Lib.lens,this])⟩
  case round=>
   obtain⟨k,hk,rfl,rfl⟩:=hrel;by_cases hkn:k<xs.length
   ·obtain⟨x,hx⟩:∃x,xs[k]? = some x:=⟨xs[k],List.getElem?_eq_getElem hkn⟩;have hc:=HC.out k x hx;have hstep:=Lib.lens_take_succ (xs.map (·.data.toList)) k x.data.toList (by simp[hx]);have hbound:Lib.lens ((xs.map (·.data.toList)).take (k+1))≤Lib.lens (xs.map (·.data.toList)):=Lib.lens_take_le _ _;rw[←Lib.size_eq]at hstep;generalize hA1:Lib.lens ((xs.map (·.data.toList)).take (k+1))=A1 at hstep hbound;generalize Lib.lens ((xs.map (·.data.toList)).take k)=A0 at hstep;have HA1:=Jl.hid hA1;clear hA1
    go_wp2
    exact⟨⟨k+1,by omega,by go_num,by rw[HA1.out];refine congrArg _ ?_;omega⟩,by simp[intOf];omega⟩
   ·have hke:k=xs.length:=by omega
    subst hke;have hall:(xs.map (·.data.toList)).take xs.length=xs.map (·.data.toList):=List.take_of_length_le (by simp);rw[hall];generalize hT:Lib.lens (xs.map (·.data.toList))=T at hjl;have HT:=Jl.hid hT;clear hT hall
    go_wp2_with fail
    have hMT:((M:Int)+(T:Int))=((M+T:Nat):Int):=by omega
    rw[hMT];refine(Jl.Builder_Grow_fresh L w.heap.size w.heap.size (M+T) _ (Nat.le_refl _) (heap_alloc_new w _) (by simp) (by omega)).mono ?_
    rintro e w1 ⟨rfl,h1,hb1⟩
    have hb1':Below w.heap.size w w1:=((Below.refl w.heap.size w).alloc (Nat.le_refl _) _).trans hb1
    -- the first element
    have hx0:xs[0]? = some x0:=by rw[Hxs.out];rfl
    have hc0:w1.cell? ⟨bk,o,none⟩=some (.string x0):=by
     rw[hb1'.cell (p:=⟨bk,o,none⟩) hbk];exact HC.out 0 x0 hx0
    have H1:=Jl.hid (Or.inr h1:Lib.IsBuilder (ρ.t 72) (ρ.t 5) w.heap.size w.heap.size [] w1);have Hb1:=Jl.hid hb1';have hBw1:w.heap.size≤w1.heap.size:=hb1'.size;clear h1 hb1 hb1' hMT
    -- what the builder holds behind k rounds of the second loop;and that it is never longer than the whole
    have hwhole:Lib.join (xs.map (·.data.toList)) sep.data.toList=x0.data.toList++Lib.joinTail sep.data.toList (r.map (·.data.toList)):=by
     rw[Hxs.out,List.map_cons,Lib.join_cons]
    have hCle:∀k,(x0.data.toList++Lib.joinTail sep.data.toList ((r.map (·.data.toList)).take k)).length≤140737488355328:=fun k=>by
     have h1:=Hlen.out;rw[hwhole,List.length_append]at h1;have h2:=Lib.joinTail_take_le sep.data.toList (r.map (·.data.toList)) k;rw[List.length_append];omega
    have HCle:=Jl.hid hCle;have Hwhole:=Jl.hid hwhole;clear hCle hwhole
    go_wp2_with fail
    refine(Jl.Builder_WriteString L w.heap.size w.heap.size [] x0 w1 H1.out (by have:=HCle.out 0;simp[Lib.joinTail]at this ⊢;omega) hBw1).mono ?_
    rintro e w2 ⟨rfl,h2',hb2⟩
    have hstart:([]:List Value)++Lib.strCells x0=Lib.byteCells (x0.data.toList++Lib.joinTail sep.data.toList ((r.map (·.data.toList)).take 0)):=by
     simp[Lib.joinTail,Lib.strCells_eq]
    rw[hstart]at h2';have H2:=Jl.hid (Or.inr h2':Lib.IsBuilder (ρ.t 72) (ρ.t 5) w.heap.size w.heap.size _ w2);have Hb2:=Jl.hid (Hb1.out.trans hb2);clear h2' hb2 hstart;have hrl:r.length=xs.length-1:=by rw[Hxs.out];simp
    go_wp2_with fail
    go_loopw [65] (fun i wr=>∃k:Nat,k≤r.length∧i=.int .i64 k∧Hid (Lib.IsBuilder (ρ.t 72) (ρ.t 5) w.heap.size w.heap.size (Lib.byteCells (x0.data.toList++Lib.joinTail sep.data.toList ((r.map (·.data.toList)).take k))) wr)∧Hid (Below w.heap.size w wr)) (fun i _=>r.length-(intOf i).toNat)
    case atStart=>exact⟨0,Nat.zero_le _,rfl,H2,Hb2⟩
    case round=>
     obtain⟨k,hk',rfl,HB,HW⟩:=hrel;by_cases hkr:k<r.length
     ·obtain⟨y,hy⟩:∃y,r[k]? = some y:=⟨r[k],List.getElem?_eq_getElem hkr⟩;have hxy:xs[k+1]? = some y:=by rw[Hxs.out];simpa using hy
      have hcy:wr.cell? ⟨bk,o+1+k,none⟩=some (.string y):=by
       rw[HW.out.cell (p:=⟨bk,o+1+k,none⟩) hbk,show o+1+k=o+(k+1) by omega];exact HC.out (k+1) y hxy
      have hBw:w.heap.size≤wr.heap.size:=HW.out.size;have hnext:Lib.byteCells (x0.data.toList++Lib.joinTail sep.data.toList ((r.map (·.data.toList)).take k))++Lib.strCells sep++Lib.strCells y=Lib.byteCells (x0.data.toList++Lib.joinTail sep.data.toList ((r.map (·.data.toList)).take (k+1))):=by
       rw[Lib.joinTail_take_succ sep.data.toList (r.map (·.data.toList)) k y.data.toList (by simp[hy]),Lib.strCells_eq,Lib.strCells_eq,←Lib.byteCells_append,←Lib.byteCells_append,List.append_assoc,List.append_assoc,List.append_assoc]
      have hl1:=HCle.out (k+1);rw[Lib.joinTail_take_succ sep.data.toList (r.map (·.data.toList)) k y.data.toList (by simp[hy])]at hl1;simp only[List.length_append,←Lib.size_eq]at hl1;have hl0:(Lib.byteCells (x0.data.toList++Lib.joinTail sep.data.toList ((r.map (·.data.toList)).take k))).length=x0.size+(Lib.joinTail sep.data.toList ((r.map (·.data.toList)).take k)).length:=by
       rw[Lib.byteCells_length,List.length_append,←Lib.size_eq]
      generalize (Lib.joinTail sep.data.toList ((r.map (·.data.toList)).take k)).length=J at hl0 hl1;have Hn:=Jl.hid hnext;clear hnext hy hxy
      go_wp2_with fail
      refine(Jl.Builder_WriteString L w.heap.size w.heap.size _ sep wr HB.out (by rw[hl0];omega) hBw).mono ?_
      rintro e w3 ⟨rfl,h3,hb3⟩
      have hBw3:w.heap.size≤w3.heap.size:=Nat.le_trans hBw hb3.size;have H3:=Jl.hid h3;have Hb3:=Jl.hid hb3;clear h3 hb3
      go_wp2_with fail
      refine(Jl.Builder_WriteString L w.heap.size w.heap.size _ y w3 (Or.inr H3.out) (by rw[List.length_append,hl0,Lib.strCells_length];omega) hBw3).mono ?_
      rintro e w4 ⟨rfl,h4,hb4⟩
      rw[Hn.out]at h4;have H4:=Jl.hid (Or.inr h4:Lib.IsBuilder (ρ.t 72) (ρ.t 5) w.heap.size w.heap.size _ w4);have Hb4:=Jl.hid ((HW.out.trans Hb3.out).trans hb4);clear h4 hb4
      go_wp2
      exact⟨⟨k+1,by omega,by go_num,H4,Hb4⟩,by simp[intOf];omega⟩
     ·have hke:k=r.length:=by omega
      subst hke;have hfull:(r.map (·.data.toList)).take r.length=r.map (·.data.toList):=List.take_of_length_le (by simp);have hB':=HB.out;rw[hfull,←Hwhole.out]at hB';have hBw:w.heap.size≤wr.heap.size:=HW.out.size
      go_wp2_with fail
      refine(Any.Builder_String_any L.ton169 L.toExtra w.heap.size w.heap.size _ wr hB' hBw).mono ?_
      rintro e w5 ⟨rfl,hb5⟩
      have Hb5:=Jl.hid (HW.out.trans hb5);clear hb5 hB'
      go_wp2
      go_ret
      exact⟨rfl,Hb5.out⟩)
theorem Jl.strings_Join(L:JL P ρ)(bk o c:Nat)(xs:List ByteArray)(sep:ByteArray)(w:World)
  (hcells:∀(j:Nat) x,xs[j]? = some x→w.cell? ⟨bk,o+j,none⟩=some (.string x))
  (hbk:bk<w.heap.size) (hN:xs.length≤140737488355328) (hcap:xs.length≤c)
  (hlen:(Lib.join (xs.map (·.data.toList)) sep.data.toList).length≤140737488355328) :
  Calls P (ρ.f 156) #[.slice (some ⟨bk,o,none⟩) xs.length c,.string sep] w fun e w'=>e=.returned (.string ⟨(Lib.join (xs.map (·.data.toList)) sep.data.toList).toArray⟩)∧Below w.heap.size w w':=by
 match xs,hcells,hN,hcap,hlen with
 | [],_,_,_,_=>exact(Jl.strings_Join_none L _ c sep w).mono fun e w' ⟨he,hw⟩=>⟨he,hw▸Below.refl _ _⟩
 | [x],hcells,_,_,_=>
  refine(Jl.strings_Join_one L bk o c x sep w (hcells 0 x rfl)).mono fun e w' ⟨he,hw⟩=>⟨?_,hw▸Below.refl _ _⟩;rw[he,List.map_cons,List.map_nil,Lib.join_one,Lib.mk_data]
 | x::y::r,hcells,hN,hcap,hlen=>exact Jl.strings_Join_many L bk o c (x::y::r) sep w hcells hbk (by simp) hN hcap hlen
end Go.Proofs
end
section
namespace Go.Proofs
open Go.Shelf Go.RowKit Go.Ab
variable{P:Program}{ρ:Ren}
theorem sl_inv{w:World}{S:Nat→Nat→Prop}{v:Value}{els:List (List AV)}{f:Fl}(h:CP w S v (.sl els f)) :
  (els=[]∧∃a,v=.slice a 0 0)∨∃(blk off z cap:Nat) (u:Nat→Nat→Value),v=.slice (some ⟨blk,off,none⟩) els.length cap∧els.length≤cap∧cap≤maxLen ∧
   (∀(i:Nat) (r:List AV),els[i]? = some r→r.length=z) ∧
   (∀i j,i<els.length→j<z→S blk (off+i*z+j)∧w.cell? ⟨blk,off+i*z+j,none⟩=some (u i j)) ∧
   (∀(i:Nat) (r:List AV) (j:Nat) (c:AV),els[i]? = some r→r[j]? = some c→CP w S (u i j) c):=by
 cases h with
 | slnil f hf=>exact .inl ⟨rfl,_,rfl⟩
 | slz a f hf=>exact .inl ⟨rfl,_,rfl⟩
 | sl blk off z cap els f u hf hfull hcap hmax hz hS hc=>exact .inr ⟨blk,off,z,cap,u,rfl,hcap,hmax,hz,fun i j hi hj=>⟨(hS i j hi hj).1,(hS i j hi hj).2.1⟩,hc⟩
theorem s_inv{w:World}{S:Nat→Nat→Prop}{v:Value}{l:List UInt8}(h:CP w S v (.s l)):v=.string ⟨l.toArray⟩:=by
 cases h with
 | s=>rfl
theorem two_args{cargs:Array Value}(h:cargs.size=2):∃a b,cargs=#[a,b]:=by
 obtain⟨l⟩:=cargs
 match l,h with
 | [a,b],_=>exact⟨a,b,rfl⟩
theorem one_arg{cargs:Array Value}(h:cargs.size=1):∃a,cargs=#[a]:=by
 obtain⟨l⟩:=cargs
 match l,h with
 | [a],_=>exact⟨a,rfl⟩
theorem inter_len(sep:List UInt8)(hs:sep.length≤100):∀ts:List (List UInt8),(∀t∈ts,t.length≤10000)→(Lib.join ts sep).length≤20000*ts.length
 | [],_=>by simp[Lib.join,List.intercalate]
 | x::r,h=>by
  have key:∀r:List (List UInt8),(∀t∈r,t.length≤10000)→Lib.lens r≤10000*r.length:=by
   intro r
   induction r with
   | nil=>intro _;simp[Lib.lens]
   | cons y r ih=>
    intro h;have h1:=ih fun t ht=>h t (List.mem_cons_of_mem _ ht);have h2:=h y List.mem_cons_self;simp only[Lib.lens,List.map_cons,List.sum_cons,List.length_cons]at h1 ⊢;omega
  rw[Lib.join_length];have h1:=key (x::r) h;have h2:=Nat.mul_le_mul_right r.length hs;simp only[List.length_cons]at h1 ⊢;omega
theorem join_pcall(L:JL P ρ):∀xs r,prim183 xs=some r→Z6 P (ρ.f 156) xs (·=r):=by
 intro xs r h;unfold prim183 at h;split at h
 ·split at h
  ·rename_i els sep hl;cases ht:els.mapM textOf with
   | none=>rw[ht]at h;cases h
   | some ts=>
    rw[ht]at h;cases h;obtain⟨he,hb⟩:=zi0 ht;refine⟨enters_of L.f156 (by kernel_rfl) rfl,fun w S cargs hsz hC hS=>?_⟩;obtain⟨v0,v1,rfl⟩:=two_args hsz;have c0:=hC 0 _ _ rfl rfl;have c1:=s_inv (hC 1 _ _ rfl rfl);subst c1;have htl:ts.length≤1000:=by rw[he,zar]at hl;exact hl.1
    have done:∀{Q:World→Prop},(∀w',Q w'→Below w.heap.size w w')→Calls P (ρ.f 156) #[v0,.string ⟨sep.toArray⟩] w (fun e w'=>e=.returned (.string ⟨(List.intercalate sep ts).toArray⟩)∧Q w') →
      Calls P (ρ.f 156) #[v0,.string ⟨sep.toArray⟩] w fun e w'=>∃v r,e=.returned v∧r=AV.s (List.intercalate sep ts)∧Below w.heap.size w w'∧CP w' (fun k o=>S k o∨(w.heap.size≤k∧k<w'.heap.size)) v r:=by
     intro Q hQ hc;refine hc.mono ?_
     rintro e w' ⟨rfl,hb⟩
     exact⟨_,_,rfl,rfl,hQ _ hb,.s _⟩
    rcases sl_inv c0 with ⟨h0,a,rfl⟩ | ⟨blk,off,z,cap,u,rfl,hcap,hmax,hz,hcell,hcp⟩
    ·have h1:ts=[]:=by
      rw[he]at h0;exact List.eq_nil_of_length_eq_zero (by rw[←zar ts,h0];rfl)
     subst h1;refine done (Q:=fun w'=>w'=w) (fun w' h=>h▸Below.refl _ _) ?_;exact Jl.strings_Join_none L a 0 ⟨sep.toArray⟩ w
    ·have hel:els.length=ts.length:=by rw[he,zar]
     have hcells:∀(j:Nat) x,(ts.map fun t=>(⟨t.toArray⟩:ByteArray))[j]? = some x→S blk (off+j)∧w.cell? ⟨blk,off+j,none⟩=some (.string x):=by
      intro j x hx;rw[List.getElem?_map]at hx;cases ht2:ts[j]? with
      | none=>rw[ht2]at hx;cases hx
      | some t=>
       rw[ht2]at hx;cases hx;have hj:els[j]? = some [.s t]:=by rw[he];simp[Zo,ht2]
       have hz1:1=z:=hz j _ hj;subst hz1;have hjl:j<els.length:=(List.getElem?_eq_some_iff.1 hj).1;obtain⟨h1,h2⟩:=hcell j 0 hjl Nat.one_pos;have h3:=s_inv (hcp j _ 0 (.s t) hj rfl);rw[h3]at h2;simp only[Nat.mul_one,Nat.add_zero]at h1 h2;exact⟨h1,h2⟩
     cases hts:ts with
     | nil=>
      subst hts;rw[show els.length=0 from hel]at done ⊢;refine done (Q:=fun w'=>w'=w) (fun w' h=>h▸Below.refl _ _) ?_;exact Jl.strings_Join_none L _ cap ⟨sep.toArray⟩ w
     | cons t0 tr=>
      rw[←hts];have hblk:blk<w.heap.size:=hS _ _ (hcells 0 ⟨t0.toArray⟩ (by rw[hts];rfl)).1;have hm:(ts.map fun t=>(⟨t.toArray⟩:ByteArray)).map (·.data.toList)=ts:=by rw[List.map_map];simp[Function.comp_def]
      have hj:=Jl.strings_Join L blk off cap (ts.map fun t=>(⟨t.toArray⟩:ByteArray)) ⟨sep.toArray⟩ w (fun j x hx=>(hcells j x hx).2) hblk (by rw[List.length_map];omega) (by rw[List.length_map];omega)
       (by rw[hm];have:=inter_len sep hl.2 ts hb;show (Lib.join ts sep).length≤_;omega)
      rw[hm,List.length_map,←hel]at hj;exact done (fun _ h=>h) hj
  ·cases h
 ·cases h
end Go.Proofs
end
section
namespace Go.Proofs
open Go.Shelf Go.RowKit Go.Ab
variable{P:Program}{ρ:Ren}
theorem bytes_size(s:List UInt8):(⟨s.toArray⟩:ByteArray).size=s.length:=by simp[ByteArray.size]
theorem bytes_list(s:List UInt8):(⟨s.toArray⟩:ByteArray).data.toList=s:=by simp
theorem all_ascii{s:List UInt8}(h:s.all (fun c=>decide (c.toNat<128))=true):∀(j:Nat) b,(⟨s.toArray⟩:ByteArray).data.toList[j]? = some b→b.toNat<128:=by
 intro j b hb;rw[bytes_list]at hb;exact of_decide_eq_true (List.all_eq_true.1 h b (List.mem_of_getElem? hb))
theorem index_pcall(L:Lays.n219 P ρ):∀xs r,prim194 xs=some r→Z6 P (ρ.f 219) xs (·=r):=by
 intro xs r h;unfold prim194 at h;split at h
 ·rename_i s c;cases h;refine⟨enters_of L.f219 (by kernel_rfl) rfl,fun w S cargs hsz hC hS=>?_⟩;obtain⟨v0,v1,rfl⟩:=two_args hsz;have c0:=s_inv (hC 0 _ _ rfl rfl);have c1:=s_inv (hC 1 _ _ rfl rfl);subst c0 c1;have:=Any.stringslite_Index_one L ⟨s.toArray⟩ c w;rw[bytes_list]at this;refine this.mono ?_
  rintro e w' ⟨rfl,rfl⟩
  exact⟨_,_,rfl,rfl,Below.refl _ _,.i _ _⟩
 ·cases h
theorem count_pcall(L:Lays.n138 P ρ):∀xs r,prim361 xs=some r→Z6 P (ρ.f 138) xs (·=r):=by
 intro xs r h;unfold prim361 at h;split at h
 ·rename_i s c;cases h;refine⟨enters_of L.f138 (by kernel_rfl) rfl,fun w S cargs hsz hC hS=>?_⟩;obtain⟨v0,v1,rfl⟩:=two_args hsz;have c0:=s_inv (hC 0 _ _ rfl rfl);have c1:=s_inv (hC 1 _ _ rfl rfl);subst c0 c1;have:=Any.strings_Count_one L ⟨s.toArray⟩ c w;rw[bytes_list]at this;refine this.mono ?_
  rintro e w' ⟨rfl,rfl⟩
  exact⟨_,_,rfl,rfl,Below.refl _ _,.i _ _⟩
 ·cases h
end Go.Proofs
end
section
namespace Go.Proofs
open Go.Shelf Go.RowKit Go.Lib
variable{P:Program}{ρ:Ren}
abbrev Zah:ByteArray:=⟨#[47,46]⟩
set_option maxHeartbeats 2000000 in
set_option maxRecDepth 1000000 in
theorem rune_invalid(L:Lays.n152 P ρ)(r:Int)(w:World)(h0:128≤r)(h1:r≤2147483647)(h2:r≠65533)(hv:Lib.validRune r=false) :
  Calls P (ρ.f 152) #[.string Zah,.int .i32 r] w fun e w'=>e=.returned (.int .i64 (-1))∧w'=w:=by
 have t3:=L.t3;have a3:=L.a3;have z3:=L.z3;have v3:=L.v3;have t4:=L.t4;have a4:=L.a4;have z4:=L.z4;have v4:=L.v4;have t5:=L.t5;have a5:=L.a5;have z5:=L.z5;have v5:=L.v5;have t9:=L.t9;have a9:=L.a9;have z9:=L.z9;have v9:=L.v9;have t21:=L.t21;have a21:=L.a21;have z21:=L.z21;have v21:=L.v21;have e119:∀args w,(callFunc (ρ.f 119) args).run P w=.ok (.enter (ρ.f 119) args) w:=enters_of L.f119 (by kernel_rfl) rfl
 go_enter L.f152,Body.n152_ntmps ρ
 go_wp2_with (go_at_fn (ρ.f 119);refine(Any.utf8_ValidRune { L with } _ _).mono ?_;rintro e w' ⟨rfl,hw⟩;rw[hw,hv])
 go_ret
 exact⟨rfl,rfl⟩
theorem next_slash(w:World)(ty:TypeId):(Instr.next (.pointer (some ⟨w.heap.size,0,none⟩)) true ty).run P (w.iter Zah 0)=.ok (.tuple #[.bool true,.int .i64 0,.int .i32 47]) (w.iter Zah 1):=
 run_next_ascii (P:=P) w Zah 0 ty (by decide) (by decide)
theorem next_dot(w:World)(ty:TypeId):(Instr.next (.pointer (some ⟨w.heap.size,0,none⟩)) true ty).run P (w.iter Zah 1)=.ok (.tuple #[.bool true,.int .i64 1,.int .i32 46]) (w.iter Zah 2):=
 run_next_ascii (P:=P) w Zah 1 ty (by decide) (by decide)
set_option maxHeartbeats 2000000 in
set_option maxRecDepth 1000000 in
theorem rune_error(L:Lays.n152 P ρ)(w:World) :
  Calls P (ρ.f 152) #[.string Zah,.int .i32 65533] w fun e w'=>e=.returned (.int .i64 (-1))∧∃pos,w'=w.iter Zah pos:=by
 have t3:=L.t3;have a3:=L.a3;have z3:=L.z3;have v3:=L.v3;have t4:=L.t4;have a4:=L.a4;have z4:=L.z4;have v4:=L.v4;have t5:=L.t5;have a5:=L.a5;have z5:=L.z5;have v5:=L.v5;have t9:=L.t9;have a9:=L.a9;have z9:=L.z9;have v9:=L.v9;have t21:=L.t21;have a21:=L.a21;have z21:=L.z21;have v21:=L.v21
 go_enter L.f152,Body.n152_ntmps ρ
 go_wp2
 go_loopg [5,6] 2 (fun g _ _ wx=>∃i:Nat,i+g=2∧wx=w.iter Zah i)
 case atStart=>exact⟨0,by omega,rfl⟩
 case round=>
  obtain⟨i,hig,rfl⟩:=hrel
  match gk,i,hig with
  | 0,2,_=>
   have hnx:=fun ty=>run_next_end (P:=P) w Zah 2 ty (by decide)
   go_wp2
   go_ret
   exact⟨rfl,_,rfl⟩
  | 1,1,_=>
   have hnx:=next_dot (P:=P) w
   go_wp2
   go_roundg 0
   case measure=>omega
   case rel=>exact⟨2,by omega,rfl⟩
  | 2,0,_=>
   have hnx:=next_slash (P:=P) w
   go_wp2
   go_roundg 1
   case measure=>omega
   case rel=>exact⟨1,by omega,rfl⟩
set_option maxHeartbeats 4000000 in
set_option maxRecDepth 1000000 in
theorem rune_three(L:Lays.n152 P ρ)(r:Int)(w:World)(h0:128≤r)(h1:r≤2147483647)(h2:r≠65533)(hv:Lib.validRune r=true)(hk:3≤(Utf8.encode r).size)(hk4:(Utf8.encode r).size≤4) :
  Calls P (ρ.f 152) #[.string Zah,.int .i32 r] w fun e w'=>e=.returned (.int .i64 (-1))∧w'=w:=by
 have t3:=L.t3;have a3:=L.a3;have z3:=L.z3;have v3:=L.v3;have t4:=L.t4;have a4:=L.a4;have z4:=L.z4;have v4:=L.v4;have t5:=L.t5;have a5:=L.a5;have z5:=L.z5;have v5:=L.v5;have t9:=L.t9;have a9:=L.a9;have z9:=L.z9;have v9:=L.v9;have t21:=L.t21;have a21:=L.a21;have z21:=L.z21;have v21:=L.v21;have e119:∀args w,(callFunc (ρ.f 119) args).run P w=.ok (.enter (ρ.f 119) args) w:=enters_of L.f119 (by kernel_rfl) rfl;have hcv:∀w,(convert (ρ.t 21) (ρ.t 9) (.int .i32 r)).run P w=.ok (.string (Utf8.encode r)) w:=fun w=>run_convert_int_string w _ _ _ _ (by rw[L.t21];rfl) L.t9;generalize Utf8.encode r=b at *
 go_enter L.f152,Body.n152_ntmps ρ
 go_wp2_with (first | (go_at_fn (ρ.f 119);refine(Any.utf8_ValidRune { L with } _ _).mono ?_;rintro e w' ⟨rfl,hw⟩;rw[hw,hv]) | simp only[hcv])
 go_step3
 go_wp2_with (simp only[hcv])
 go_loopg [9] 0 (fun g i wx=>i=.int .i64 ((b.size:Int)-1)∧wx=w)
 case atStart=>exact⟨rfl,rfl⟩
 case round=>
  obtain⟨rfl,rfl⟩:=hrel;have hge:decide (((b.size:Int)-1)<2)=false:=decide_eq_false (by omega)
  go_wp2
  rw[Exit.noGoto_ret]
  go_ret
  exact⟨rfl,rfl⟩
set_option maxHeartbeats 4000000 in
set_option maxRecDepth 1000000 in
theorem rune_two(L:Lays.n152 P ρ)(r:Int)(w:World)(h0:128≤r)(h1:r≤2147483647)(h2:r≠65533)(hv:Lib.validRune r=true)(x:UInt8)(hk:(Utf8.encode r).size=2)(hx:∀h:1<(Utf8.encode r).size,(Utf8.encode r)[1]'h=x)(hx128:128≤x.toNat) :
  Calls P (ρ.f 152) #[.string Zah,.int .i32 r] w fun e w'=>e=.returned (.int .i64 (-1))∧Below w.heap.size w w':=by
 have mixed:=L.mixed;have t3:=L.t3;have a3:=L.a3;have z3:=L.z3;have v3:=L.v3;have t4:=L.t4;have a4:=L.a4;have z4:=L.z4;have v4:=L.v4;have t5:=L.t5;have a5:=L.a5;have z5:=L.z5;have v5:=L.v5;have t9:=L.t9;have a9:=L.a9;have z9:=L.z9;have v9:=L.v9;have t21:=L.t21;have a21:=L.a21;have z21:=L.z21;have v21:=L.v21;have e119:∀args w,(callFunc (ρ.f 119) args).run P w=.ok (.enter (ρ.f 119) args) w:=enters_of L.f119 (by kernel_rfl) rfl;have e137:∀args w,(callFunc (ρ.f 137) args).run P w=.ok (.enter (ρ.f 137) args) w:=enters_of L.f137 (by kernel_rfl) rfl;have hcv:∀w,(convert (ρ.t 21) (ρ.t 9) (.int .i32 r)).run P w=.ok (.string (Utf8.encode r)) w:=fun w=>run_convert_int_string w _ _ _ _ (by rw[L.t21];rfl) L.t9;generalize Utf8.encode r=b at *
 go_enter L.f152,Body.n152_ntmps ρ
 go_wp2_with (first | (go_at_fn (ρ.f 119);refine(Any.utf8_ValidRune { L with } _ _).mono ?_;rintro e w' ⟨rfl,hw⟩;rw[hw,hv]) | simp only[hcv])
 go_step3
 go_wp2_with (simp only[hcv])
 go_loopg [9] 0 (fun g i wx=>i=.int .i64 1∧wx=w)
 case atStart=>exact⟨rfl,rfl⟩
 case round=>
  obtain⟨rfl,rfl⟩:=hrel;have hb:1<b.size:=by omega
  have hxx:=hx hb;have hne:((46:Int) == (x.toNat:Int))=false:=beq_eq_false_iff_ne.2 (by omega);have hsz:(b.size:Int)=2:=by omega
  have hg:Zah[1]'(by decide)=46:=rfl
  go_wp2
  go_step3
  go_wp2_with (go_at_fn (ρ.f 137);refine(Any.strings_IndexByte { L with } _ _ _).mono ?_;rintro e w' ⟨rfl,hw⟩;rw[hw])
  go_region_o
  have hne2:((46:Int) != (x.toNat:Int))=true:=by rw[bne,hne];rfl
  try rw[hne2]
  go_wp2
  go_region_with_o (go_at_fn (ρ.f 137);refine(Any.strings_IndexByte { L with } _ _ _).mono ?_;rintro e w' ⟨rfl,hw⟩;rw[hw])
  all_goals go_wp2
  all_goals rw[Exit.noGoto_ret]
  all_goals go_wp2
  all_goals rw[Exit.noGoto_ret]
  all_goals go_ret
  all_goals exact⟨rfl,⟨rfl,rfl,rfl,Nat.le_refl _,fun _ _=>rfl⟩⟩
theorem rune_wide(L:Lays.n152 P ρ)(r:Int)(w:World)(h0:128≤r)(h1:r≤2147483647) :
  Calls P (ρ.f 152) #[.string Zah,.int .i32 r] w fun e w'=>e=.returned (.int .i64 (-1))∧Below w.heap.size w w':=by
 by_cases h2:r=65533
 ·subst h2;refine(rune_error L w).mono ?_
  rintro e w' ⟨h,pos,rfl⟩
  exact⟨h,(Below.refl _ _).alloc (Nat.le_refl _) _⟩
 ·cases hv:Lib.validRune r with
  | false=>
   refine(rune_invalid L r w h0 h1 h2 hv).mono ?_
   rintro e w' ⟨h,rfl⟩
   exact⟨h,Below.refl _ _⟩
  | true=>
   have hu:Utf8.valid r=true:=by rw[Go.validRune_eq];exact hv
   obtain⟨k2,k4,kx⟩:=encode_facts r hu h0;by_cases h3:(Utf8.encode r).size=2
   ·have hk:=kx (by omega);have he:(Utf8.encode r).size-1=1:=by omega
    simp only[he]at hk;exact rune_two L r w h0 h1 h2 hv ((Utf8.encode r)[1]'(by omega)) h3 (fun _=>rfl) hk
   ·refine(rune_three L r w h0 h1 h2 hv (by omega) k4).mono ?_
    rintro e w' ⟨h,rfl⟩
    exact⟨h,Below.refl _ _⟩
theorem wide_n(n b0 b1 b2 b3:Nat)(hn:1≤n)(h:128≤b0):1≤(decodeN n b0 b1 b2 b3).2∧(decodeN n b0 b1 b2 b3).2≤4∧(decodeN n b0 b1 b2 b3).2≤n ∧
  (2≤(decodeN n b0 b1 b2 b3).2→128≤b1)∧(3≤(decodeN n b0 b1 b2 b3).2→128≤b2)∧(4≤(decodeN n b0 b1 b2 b3).2→128≤b3):=by
 unfold decodeN;rw[if_neg (by omega)]
 (repeat' split)<;>simp only<;>omega
theorem wide_bytes(s:ByteArray)(i:Nat)(hi:i<s.size)(h:128≤(s[i]'hi).toNat):1≤(Utf8.decode s i).2∧i+(Utf8.decode s i).2≤s.size ∧
  ∀(j:Nat) (b:UInt8),i≤j→j<i+(Utf8.decode s i).2→s.data.toList[j]? = some b→128≤b.toNat:=by
 have hg:∀(j:Nat) (b:UInt8),s.data.toList[j]? = some b→s.get! j=b:=by
  intro j b hb;obtain⟨hj,hb⟩:=List.getElem?_eq_some_iff.1 hb;have hj2:j<s.size:=by simpa using hj
  have:s.get! j=s[j]'hj2:=by
   simp[ByteArray.get!,getElem!_pos,hj2]
   rfl
  rw[this,←hb]
  rfl
 have h0:s.get! i=s[i]'hi:=get_at s i hi;have hw:=wide_n (s.size-i) (s.get! i).toNat (s.get! (i+1)).toNat (s.get! (i+2)).toNat (s.get! (i+3)).toNat (by omega) (by rw[h0];exact h);rw[←decode_at]at hw;obtain⟨w1,w2,w3,w4,w5,w6⟩:=hw;refine⟨w1,by omega,fun j b hij hj hb=>?_⟩;have hgb:=hg j b hb;rw[←hgb];have hc:j=i∨j=i+1∨j=i+2∨j=i+3:=by omega
 rcases hc with rfl | rfl | rfl | rfl
 ·rw[h0];exact h
 ·exact w4 (by omega)
 ·exact w5 (by omega)
 ·exact w6 (by omega)
theorem next_at(wx:World)(B:Nat)(s:ByteArray)(pos:Nat)(ty:TypeId)(hB:wx.heap[B]? = some (.stringIter s pos))(h:pos<s.size) :
  (Instr.next (.pointer (some ⟨B,0,none⟩)) true ty).run P wx=.ok (.tuple #[.bool true,.int .i64 pos,.int .i32 (Utf8.decode s pos).1]) { wx with heap:=wx.heap.setIfInBounds B (.stringIter s (pos+(Utf8.decode s pos).2)) }:=by
 simp only[Instr.next,getObj,setObj,Sem.run_bind,Sem.run,hB,Result.andThen,h,if_true];simp[goInt]
theorem next_none(wx:World)(B:Nat)(s:ByteArray)(pos:Nat)(ty:TypeId)(hB:wx.heap[B]? = some (.stringIter s pos))(h:¬ pos<s.size) :
  (Instr.next (.pointer (some ⟨B,0,none⟩)) true ty).run P wx=.ok (.tuple #[.bool false]) wx:=by
 simp[Instr.next,getObj,Sem.run,hB,h]
theorem below_iter{B:Nat}{w wx:World}(h:Below B w wx)(o:Obj):Below B w { wx with heap:=wx.heap.setIfInBounds B o }:=
 h.trans ⟨rfl,rfl,rfl,by simp,fun k hk=>by
  show (wx.heap.setIfInBounds B o)[k]? = wx.heap[k]?;rw[Array.getElem?_setIfInBounds_ne (by omega)]⟩
set_option maxHeartbeats 8000000 in
set_option maxRecDepth 1000000 in
theorem indexAny_short_any(L:Lays.n153 P ρ)(s:ByteArray)(w:World)(h8:s.size≤8) :
  Calls P (ρ.f 153) #[.string s,.string Zah] w fun e w'=>e=.returned (.int .i64 (Lib.indexAny s.data.toList [47,46]))∧Below w.heap.size w w':=by
 have h8z:decide ((8:Int)<(s.size:Int))=false:=decide_eq_false (by omega);have t3:=L.t3;have a3:=L.a3;have z3:=L.z3;have v3:=L.v3;have t4:=L.t4;have a4:=L.a4;have z4:=L.z4;have v4:=L.v4;have t5:=L.t5;have a5:=L.a5;have z5:=L.z5;have v5:=L.v5;have t9:=L.t9;have a9:=L.a9;have z9:=L.z9;have v9:=L.v9;have t21:=L.t21;have a21:=L.a21;have z21:=L.z21;have v21:=L.v21;have e152:∀args w,(callFunc (ρ.f 152) args).run P w=.ok (.enter (ρ.f 152) args) w:=enters_of L.f152 (by kernel_rfl) rfl;have e226:∀args w,(callFunc (ρ.f 226) args).run P w=.ok (.enter (ρ.f 226) args) w:=enters_of L.f226 (by kernel_rfl) rfl
 go_enter L.f153,Body.n153_ntmps ρ
 go_wp2_with (go_at_fn (ρ.f 226);refine(Any.strings_shouldUseASCIISet { L with } _ _).mono ?_;rintro e w' ⟨rfl,hw⟩;rw[hw,h8z])
 go_loopg [9,10] s.size (fun g _ _ wx=>∃i:Nat,s.size≤i+g∧i≤s.size∧wx.heap[w.heap.size]? = some (.stringIter s i)∧Below w.heap.size w wx∧Lib.NoAny s.data.toList [47,46] i)
 case atStart=>exact⟨0,by omega,by omega,World.iter_heap w s 0,(Below.refl _ _).alloc (Nat.le_refl _) _,Lib.NoAny.zero _ _⟩
 case round=>
  obtain⟨i,hig,his,hit,hbel,hno⟩:=hrel;have HN:Aside (Lib.NoAny s.data.toList [47,46] i):=hno;have HB:Aside (Below w.heap.size w wr):=hbel;have HI:Aside (wr.heap[w.heap.size]? = some (.stringIter s i)):=hit;clear hno hbel;by_cases hi:i<s.size
  ·cases gk with
   | zero=>omega
   | succ g=>
   have hlt:w.heap.size<wr.heap.size:=(Array.getElem?_eq_some_iff.1 hit).1;obtain⟨x,hx⟩:∃x:UInt8,s[i]'hi=x:=⟨_,rfl⟩;have hxl:s.data.toList[i]? = some x:=by rw[←hx];exact Lib.data_getElem? s i hi
   have hnx:=fun ty=>next_at (P:=P) wr w.heap.size s i ty hit hi;by_cases h128:x.toNat<128
   ·have hd:=decode_ascii s i hi (by rw[hx];exact h128);rw[hx]at hd;rw[hd]at hnx;simp only at hnx;have Hx:Aside (s.data.toList[i]? = some x):=hxl;clear hxl hx hit;have hcon:=Lib.contains_iff_indexByte [47,46] x;have hback:((x.toNat:Int)).toNat.toUInt8=x:=by simp
    cases hin:([47,46]:List UInt8).contains x
    ·rw[hin]at hcon;have hlt0:¬ ((0:Int)≤Lib.indexByte [47,46] x):=of_decide_eq_false hcon.symm;clear hcon
     go_wp2_with (go_at_fn (ρ.f 152);refine(Any.strings_IndexRune_ascii { L with } _ _ _ (by omega) (by omega)).mono ?_;rintro e w' ⟨rfl,hw⟩;rw[hw,hback])
     go_roundg g
     case measure=>omega
     case rel=>exact⟨i+1,by omega,by omega,by simp[hlt],below_iter HB.out _,HN.out.succ Hx.out hin⟩
    ·rw[hin]at hcon;have hge:(0:Int)≤Lib.indexByte [47,46] x:=of_decide_eq_true hcon.symm;clear hcon
     go_wp2_with (go_at_fn (ρ.f 152);refine(Any.strings_IndexRune_ascii { L with } _ _ _ (by omega) (by omega)).mono ?_;rintro e w' ⟨rfl,hw⟩;rw[hw,hback])
     go_ret
     exact⟨by rw[Lib.indexAny_hit HN.out Hx.out hin];rfl,below_iter HB.out _⟩
   ·have hwb:=wide_bytes s i hi (by rw[hx];omega);have hdh:=decode_high s i hi (by rw[hx];omega);have hdl:=decode_le s i;obtain⟨r,hr⟩:∃r,r=(Utf8.decode s i).1:=⟨_,rfl⟩;obtain⟨k,hk⟩:∃k,k=(Utf8.decode s i).2:=⟨_,rfl⟩;rw[←hr,←hk]at hnx;rw[←hk]at hwb hdh;rw[←hr]at hdh hdl;obtain⟨wb1,wb2,wb3⟩:=hwb;have HW:Aside (∀(j:Nat) (b:UInt8),i≤j→j<i+k→s.data.toList[j]? = some b→128≤b.toNat):=wb3;clear wb3 hxl hx hit hr hk;have r1:(128:Int)≤(r:Int):=by omega
    have r2:(r:Int)≤2147483647:=by omega
    go_wp2_with (go_at_fn (ρ.f 152);refine(rune_wide { L with } _ _ r1 r2).mono ?_;rintro e w' ⟨rfl,hw⟩)
    go_roundg g
    case measure=>omega
    case rel=>
     refine⟨i+k,by omega,by omega,?_,(below_iter HB.out _).trans (hw.mono (by simp;omega)),?_⟩
     ·rw[hw.block _ (by simpa using hlt)];simp[hlt]
     ·intro j b hj hb;by_cases hji:j<i
      ·exact HN.out j b hji hb
      ·have h3:=HW.out j b (by omega) hj hb;have e1:¬ b=47:=fun e=>by rw[e]at h3;exact absurd h3 (by decide)
       have e2:¬ b=46:=fun e=>by rw[e]at h3;exact absurd h3 (by decide)
       simp[e1,e2]
  ·obtain rfl:i=s.size:=by omega
   have hnx:=fun ty=>next_none (P:=P) wr w.heap.size s s.size ty hit hi;clear hit
   go_wp2
   go_ret
   exact⟨by rw[Lib.indexAny_none (by rw[←Lib.size_eq];exact HN.out)];rfl,HB.out⟩
open Go.Ab in
theorem indexAny_pcall(L:Lays.n153 P ρ)(h116:(P.info? (ρ.t 116)).map (fun i=>(i.zero,i.size))=some (some (.agg (Array.replicate 256 (.bool false))),256)):∀xs r,prim344 xs=some r→Z6 P (ρ.f 153) xs (·=r):=by
 intro xs r h;unfold prim344 at h;split at h
 ·split at h
  ·rename_i s hs;cases h;refine⟨enters_of L.f153 (by kernel_rfl) rfl,fun w S cargs hsz hC hS=>?_⟩;obtain⟨v0,v1,rfl⟩:=two_args hsz;have c0:=s_inv (hC 0 _ _ rfl rfl);have c1:=s_inv (hC 1 _ _ rfl rfl);subst c0 c1;have key:Calls P (ρ.f 153) #[.string ⟨s.toArray⟩,.string Zah] w fun e w'=>e=.returned (.int .i64 (Lib.indexAny s [47,46]))∧Below w.heap.size w w':=by
    by_cases h8:s.length≤8
    ·have:=indexAny_short_any L ⟨s.toArray⟩ w (by rw[bytes_size];exact h8)
     rwa [bytes_list]at this
    ·have:=Any.strings_IndexAny_long L (zero_of_info h116).1 (zero_of_info h116).2 ⟨s.toArray⟩ Zah w (by decide) (by rw[bytes_size];omega) (by rw[bytes_size];omega) (by decide) (all_ascii (s:=[47,46]) (by decide));rw[bytes_list]at this;refine this.mono fun e w' ⟨h1,h2⟩=>⟨h1,?_⟩;rw[h2];exact((Below.refl _ _).alloc (Nat.le_refl _) _).alloc (by simp) _
   exact key.mono fun e w' ⟨he,hb⟩=>⟨_,_,he,rfl,hb,.i _ _⟩
  ·cases h
 ·cases h
end Go.Proofs
end
section
set_option linter.unusedVariables false
namespace Go.Proofs
open Go.Shelf Go.RowKit Go.Lib Go.Ab
variable{P:Program}{ρ:Ren}
set_option maxHeartbeats 2000000 in
set_option maxRecDepth 100000 in
theorem cut_one_lite(L:Lays.n220 P ρ)(b:UInt8)(s:ByteArray)(w:World)(hs:s.size<4294967281) :
  Calls P (ρ.f 220) #[.string s,.string ⟨#[b]⟩] w fun e w'=>e=.returned (.tuple #[.string ⟨(Lib.cut s.data.toList [b]).1.toArray⟩,.string ⟨(Lib.cut s.data.toList [b]).2.1.toArray⟩,.bool (Lib.cut s.data.toList [b]).2.2])∧∃n,w'=w.drewN n:=by
 have hone:Lib.index s.data.toList [b]=Lib.indexByte s.data.toList b:=Lib.index_one _ _;rcases Lib.indexB_cases s ⟨#[b]⟩ with hix | ⟨i,hix,hroom⟩
 ·obtain⟨e1,e2,e3⟩:=Lib.cutB_miss s ⟨#[b]⟩ hix;have hib:Lib.indexByte s.data.toList b=-1:=hone.symm.trans hix
  change (⟨(Lib.cut s.data.toList [b]).1.toArray⟩:ByteArray)=s at e1
  change (⟨(Lib.cut s.data.toList [b]).2.1.toArray⟩:ByteArray)=ByteArray.empty at e2
  change (Lib.cut s.data.toList [b]).2.2=false at e3
  rw[e1,e2,e3];have t3:=L.t3;have t4:=L.t4;have t9:=L.t9;have a3:∀w,(isAgg (ρ.t 3)).run P w=.ok false w:=run_isAgg_plain L.t3 rfl;have a4:∀w,(isAgg (ρ.t 4)).run P w=.ok false w:=run_isAgg_plain L.t4 rfl;have a9:∀w,(isAgg (ρ.t 9)).run P w=.ok false w:=run_isAgg_plain L.t9 rfl;have e219:∀args w,(callFunc (ρ.f 219) args).run P w=.ok (.enter (ρ.f 219) args) w:=enters_of L.f219 (by kernel_rfl) rfl;have mixed:=L.mixed;have z3:=L.z3;have v3:=L.v3;have z4:=L.z4;have v4:=L.v4;have z9:=L.z9;have v9:=L.v9
  go_enter L.f220,Body.n220_ntmps ρ
  go_wp2_with (go_at_fn (ρ.f 219);refine(Any.stringslite_Index_one { L with } _ b _).mono ?_;rintro e w' ⟨rfl,rfl⟩;rw[hib])
  go_ret3
  exact⟨rfl,0,rfl⟩
 ·obtain⟨e1,e2,e3⟩:=Lib.cutB_hit s ⟨#[b]⟩ i hix;have hib:Lib.indexByte s.data.toList b=(i:Int):=hone.symm.trans hix;have hsz:(⟨#[b]⟩:ByteArray).size=1:=rfl;rw[hsz]at hroom e2
  change (⟨(Lib.cut s.data.toList [b]).1.toArray⟩:ByteArray)=s.extract 0 i at e1
  change (⟨(Lib.cut s.data.toList [b]).2.1.toArray⟩:ByteArray)=s.extract (i+1) s.size at e2
  change (Lib.cut s.data.toList [b]).2.2=true at e3
  rw[e1,e2,e3];have c1:(0:Int)≤↑i:=by omega
  have c2:(↑i:Int)≤↑s.size:=by omega
  have c3:(0:Int)≤↑i+1:=by omega
  have c4:(↑i+1:Int)≤↑s.size:=by omega
  have t3:=L.t3;have t4:=L.t4;have t9:=L.t9;have a3:∀w,(isAgg (ρ.t 3)).run P w=.ok false w:=run_isAgg_plain L.t3 rfl;have a4:∀w,(isAgg (ρ.t 4)).run P w=.ok false w:=run_isAgg_plain L.t4 rfl;have a9:∀w,(isAgg (ρ.t 9)).run P w=.ok false w:=run_isAgg_plain L.t9 rfl;have e219:∀args w,(callFunc (ρ.f 219) args).run P w=.ok (.enter (ρ.f 219) args) w:=enters_of L.f219 (by kernel_rfl) rfl;have mixed:=L.mixed;have z3:=L.z3;have v3:=L.v3;have z4:=L.z4;have v4:=L.v4;have z9:=L.z9;have v9:=L.v9
  go_enter L.f220,Body.n220_ntmps ρ
  go_wp2_with (go_at_fn (ρ.f 219);refine(Any.stringslite_Index_one { L with } _ b _).mono ?_;rintro e w' ⟨rfl,rfl⟩;rw[hib])
  go_region_o
  go_wp2
  go_ret3
  exact⟨rfl,1,rfl⟩
set_option maxHeartbeats 1000000 in
theorem cut_one(L:Lays.n145 P ρ)(b:UInt8)(s:ByteArray)(w:World)(hs:s.size<4294967281) :
  Calls P (ρ.f 145) #[.string s,.string ⟨#[b]⟩] w fun e w'=>e=.returned (.tuple #[.string ⟨(Lib.cut s.data.toList [b]).1.toArray⟩,.string ⟨(Lib.cut s.data.toList [b]).2.1.toArray⟩,.bool (Lib.cut s.data.toList [b]).2.2])∧∃n,w'=w.drewN n:=by
 have t4:=L.t4;have t9:=L.t9;have t59:=L.t59;have a4:∀w,(isAgg (ρ.t 4)).run P w=.ok false w:=run_isAgg_plain L.t4 rfl;have a9:∀w,(isAgg (ρ.t 9)).run P w=.ok false w:=run_isAgg_plain L.t9 rfl;have a59:∀w,(isAgg (ρ.t 59)).run P w=.ok false w:=run_isAgg_plain L.t59 rfl;have e220:∀args w,(callFunc (ρ.f 220) args).run P w=.ok (.enter (ρ.f 220) args) w:=enters_of L.f220 (by kernel_rfl) rfl;have mixed:=L.mixed;have z4:=L.z4;have v4:=L.v4;have z9:=L.z9;have v9:=L.v9;have z59:=L.z59;have v59:=L.v59
 go_enter L.f145,Body.n145_ntmps ρ
 go_wp2_with (go_at_fn (ρ.f 220);refine(cut_one_lite { L with } b _ _ hs).mono ?_;rintro e w' ⟨rfl,n,rfl⟩)
 go_ret3
 exact⟨rfl,n,rfl⟩
theorem indexByte_tw(b:UInt8):∀(l:List UInt8),(Lib.indexByte l b=-1∧l.takeWhile (· != b)=l∧l.dropWhile (· != b)=[]∧l.contains b=false) ∨
  (∃i:Nat,Lib.indexByte l b=i∧l.takeWhile (· != b)=l.take i∧(l.dropWhile (· != b)).drop 1=l.drop (i+1)∧l.contains b=true)
 | []=>.inl ⟨rfl,rfl,rfl,rfl⟩
 | c::r=>by
  by_cases hc:c=b
  ·subst hc;right;exact⟨0,by simp[Lib.indexByte],by simp,by simp,by simp⟩
  ·have hb:(c != b)=true:=by simpa using hc
   have hb2:(b == c)=false:=by
    rw[beq_eq_false_iff_ne];exact fun h=>hc h.symm
   rcases indexByte_tw b r with ⟨h1,h2,h3,h4⟩ | ⟨i,h1,h2,h3,h4⟩
   ·left;refine⟨by simp[Lib.indexByte,hc,h1],?_,?_,?_⟩
    ·rw[List.takeWhile_cons_of_pos (p:=(· != b)) hb,h2]
    ·rw[List.dropWhile_cons_of_pos (p:=(· != b)) hb,h3]
    ·rw[List.contains_cons,hb2,h4];rfl
   ·right;refine⟨i+1,?_,?_,?_,?_⟩
    ·have hne:¬ (i:Int)=-1:=by omega
     simp[Lib.indexByte,hc,h1,hne]
    ·rw[List.takeWhile_cons_of_pos (p:=(· != b)) hb,h2];rfl
    ·rw[List.dropWhile_cons_of_pos (p:=(· != b)) hb,h3];rfl
    ·rw[List.contains_cons,hb2,h4];rfl
theorem cut_lines(b:UInt8)(l:List UInt8):Lib.cut l [b]=(l.takeWhile (· != b),(l.dropWhile (· != b)).drop 1,l.contains b):=by
 unfold Lib.cut;rw[Lib.index_one];rcases indexByte_tw b l with ⟨h1,h2,h3,h4⟩ | ⟨i,h1,h2,h3,h4⟩
 ·rw[h1,if_neg (by decide),h2,h3,h4];rfl
 ·rw[h1,if_pos (by omega),h2,h3,h4];rfl
theorem cut_pcall(L:Lays.n145 P ρ):∀xs r,prim184 xs=some r→Z6 P (ρ.f 145) xs (·=r):=by
 intro xs r h;unfold prim184 at h;split at h
 ·rename_i l b;split at h
  ·rename_i hl;cases h;refine⟨enters_of L.f145 (by kernel_rfl) rfl,fun w S cargs hsz hC hS=>?_⟩;obtain⟨v0,v1,rfl⟩:=two_args hsz;have c0:=s_inv (hC 0 _ _ rfl rfl);have c1:=s_inv (hC 1 _ _ rfl rfl);subst c0 c1;have:=cut_one L b ⟨l.toArray⟩ w (by rw[bytes_size];omega);rw[bytes_list,cut_lines]at this;refine this.mono ?_
   rintro e w' ⟨rfl,n,rfl⟩
   refine⟨_,_,rfl,rfl,⟨rfl,rfl,rfl,Nat.le_refl _,fun _ _=>rfl⟩,.tup _ _ rfl fun j v c hv hc=>?_⟩
   match j,hv,hc with
   | 0,hv,hc=>cases hv;cases hc;exact .s _
   | 1,hv,hc=>cases hv;cases hc;exact .s _
   | 2,hv,hc=>cases hv;cases hc;exact .b _
  ·cases h
 ·cases h
end Go.Proofs
end
section
namespace Go.Proofs
open Go.Shelf Go.RowKit
set_option maxRecDepth 100000
def Tryz.sren:Ren:=⟨fun | 119=>212 | 137=>211 | 138=>209 | 143=>162 | 145=>57 | 152=>203 | 153=>188 | 195=>216 | 217=>176 | 218=>217 | 219=>141 | 220=>101 | 224=>178 | 225=>177 | 226=>204 | 227=>153 | 228=>185 | 266=>200 | 267=>179 | 314=>201 | n=>n,fun | 0=>0 | 3=>3 | 4=>4 | 5=>5 | 9=>9 | 21=>21 | 46=>153 | 51=>114 | 59=>104 | 116=>206 | 117=>207 | 124=>210 | 146=>192 | n=>n,fun | 1=>0 | n=>n⟩
theorem Tryz.lays153:Lays.n153 Tryz.prog Tryz.sren:={
 mixed:=by kernel_rfl,
 f119:=Tryz.func212.trans (congrArg some (by kernel_rfl)),
 f137:=Tryz.func211.trans (congrArg some (by kernel_rfl)),
 f152:=Tryz.func203.trans (congrArg some (by kernel_rfl)),
 f153:=Tryz.func188.trans (congrArg some (by kernel_rfl)),
 f217:=Tryz.func176.trans (congrArg some (by kernel_rfl)),
 f224:=Tryz.func178.trans (congrArg some (by kernel_rfl)),
 f225:=Tryz.func177.trans (congrArg some (by kernel_rfl)),
 f226:=Tryz.func204.trans (congrArg some (by kernel_rfl)),
 f227:=Tryz.func153.trans (congrArg some (by kernel_rfl)),
 f228:=Tryz.func185.trans (congrArg some (by kernel_rfl)),
 f266:=Tryz.func200.trans (congrArg some (by kernel_rfl)),
 t0:=Tryz.underlying0,
 a0:=Tryz.isAgg0,
 z0:=Tryz.sizeOf0,
 v0:=Tryz.zeroValue0,
 t3:=Tryz.underlying3,
 a3:=Tryz.isAgg3,
 z3:=Tryz.sizeOf3,
 v3:=Tryz.zeroValue3,
 t4:=Tryz.underlying4,
 a4:=Tryz.isAgg4,
 z4:=Tryz.sizeOf4,
 v4:=Tryz.zeroValue4,
 t5:=Tryz.underlying5,
 a5:=Tryz.isAgg5,
 z5:=Tryz.sizeOf5,
 v5:=Tryz.zeroValue5,
 t9:=Tryz.underlying9,
 a9:=Tryz.isAgg9,
 z9:=Tryz.sizeOf9,
 v9:=Tryz.zeroValue9,
 t21:=Tryz.underlying21,
 a21:=Tryz.isAgg21,
 z21:=Tryz.sizeOf21,
 v21:=Tryz.zeroValue21,
 t46:=Tryz.underlying153,
 a46:=Tryz.isAgg153,
 z46:=Tryz.sizeOf153,
 v46:=Tryz.zeroValue153,
 t116:=Tryz.underlying206,
 a116:=Tryz.isAgg206,
 z116:=Tryz.sizeOf206,
 t117:=Tryz.underlying207,
 a117:=Tryz.isAgg207,
 z117:=Tryz.sizeOf207,
 v117:=Tryz.zeroValue207,
 t124:=Tryz.underlying210,
 a124:=Tryz.isAgg210,
 z124:=Tryz.sizeOf210,
 v124:=Tryz.zeroValue210 }
theorem Tryz.lays219:Lays.n219 Tryz.prog Tryz.sren:={
 mixed:=by kernel_rfl,
 f217:=Tryz.func176.trans (congrArg some (by kernel_rfl)),
 f219:=Tryz.func141.trans (congrArg some (by kernel_rfl)),
 f224:=Tryz.func178.trans (congrArg some (by kernel_rfl)),
 f225:=Tryz.func177.trans (congrArg some (by kernel_rfl)),
 f266:=Tryz.func200.trans (congrArg some (by kernel_rfl)),
 f267:=Tryz.func179.trans (congrArg some (by kernel_rfl)),
 f314:=Tryz.func201.trans (congrArg some (by kernel_rfl)),
 t3:=Tryz.underlying3,
 a3:=Tryz.isAgg3,
 z3:=Tryz.sizeOf3,
 v3:=Tryz.zeroValue3,
 t4:=Tryz.underlying4,
 a4:=Tryz.isAgg4,
 z4:=Tryz.sizeOf4,
 v4:=Tryz.zeroValue4,
 t5:=Tryz.underlying5,
 a5:=Tryz.isAgg5,
 z5:=Tryz.sizeOf5,
 v5:=Tryz.zeroValue5,
 t9:=Tryz.underlying9,
 a9:=Tryz.isAgg9,
 z9:=Tryz.sizeOf9,
 v9:=Tryz.zeroValue9,
 t46:=Tryz.underlying153,
 a46:=Tryz.isAgg153,
 z46:=Tryz.sizeOf153,
 v46:=Tryz.zeroValue153,
 t51:=Tryz.underlying114,
 a51:=Tryz.isAgg114,
 z51:=Tryz.sizeOf114,
 v51:=Tryz.zeroValue114,
 t146:=Tryz.underlying192,
 a146:=Tryz.isAgg192,
 z146:=Tryz.sizeOf192,
 v146:=Tryz.zeroValue192,
 g1:=by kernel_rfl }
theorem Tryz.lays138:Lays.n138 Tryz.prog Tryz.sren:={
 mixed:=by kernel_rfl,
 f138:=Tryz.func209.trans (congrArg some (by kernel_rfl)),
 f143:=Tryz.func162.trans (congrArg some (by kernel_rfl)),
 f195:=Tryz.func216.trans (congrArg some (by kernel_rfl)),
 f217:=Tryz.func176.trans (congrArg some (by kernel_rfl)),
 f218:=Tryz.func217.trans (congrArg some (by kernel_rfl)),
 f219:=Tryz.func141.trans (congrArg some (by kernel_rfl)),
 f224:=Tryz.func178.trans (congrArg some (by kernel_rfl)),
 f225:=Tryz.func177.trans (congrArg some (by kernel_rfl)),
 f266:=Tryz.func200.trans (congrArg some (by kernel_rfl)),
 f267:=Tryz.func179.trans (congrArg some (by kernel_rfl)),
 f314:=Tryz.func201.trans (congrArg some (by kernel_rfl)),
 t0:=Tryz.underlying0,
 a0:=Tryz.isAgg0,
 z0:=Tryz.sizeOf0,
 v0:=Tryz.zeroValue0,
 t3:=Tryz.underlying3,
 a3:=Tryz.isAgg3,
 z3:=Tryz.sizeOf3,
 v3:=Tryz.zeroValue3,
 t4:=Tryz.underlying4,
 a4:=Tryz.isAgg4,
 z4:=Tryz.sizeOf4,
 v4:=Tryz.zeroValue4,
 t5:=Tryz.underlying5,
 a5:=Tryz.isAgg5,
 z5:=Tryz.sizeOf5,
 v5:=Tryz.zeroValue5,
 t9:=Tryz.underlying9,
 a9:=Tryz.isAgg9,
 z9:=Tryz.sizeOf9,
 v9:=Tryz.zeroValue9,
 t46:=Tryz.underlying153,
 a46:=Tryz.isAgg153,
 z46:=Tryz.sizeOf153,
 v46:=Tryz.zeroValue153,
 t51:=Tryz.underlying114,
 a51:=Tryz.isAgg114,
 z51:=Tryz.sizeOf114,
 v51:=Tryz.zeroValue114,
 t146:=Tryz.underlying192,
 a146:=Tryz.isAgg192,
 z146:=Tryz.sizeOf192,
 v146:=Tryz.zeroValue192,
 g1:=by kernel_rfl }
theorem Tryz.lays145:Lays.n145 Tryz.prog Tryz.sren:={
 mixed:=by kernel_rfl,
 f145:=Tryz.func57.trans (congrArg some (by kernel_rfl)),
 f217:=Tryz.func176.trans (congrArg some (by kernel_rfl)),
 f219:=Tryz.func141.trans (congrArg some (by kernel_rfl)),
 f220:=Tryz.func101.trans (congrArg some (by kernel_rfl)),
 f224:=Tryz.func178.trans (congrArg some (by kernel_rfl)),
 f225:=Tryz.func177.trans (congrArg some (by kernel_rfl)),
 f266:=Tryz.func200.trans (congrArg some (by kernel_rfl)),
 f267:=Tryz.func179.trans (congrArg some (by kernel_rfl)),
 f314:=Tryz.func201.trans (congrArg some (by kernel_rfl)),
 t3:=Tryz.underlying3,
 a3:=Tryz.isAgg3,
 z3:=Tryz.sizeOf3,
 v3:=Tryz.zeroValue3,
 t4:=Tryz.underlying4,
 a4:=Tryz.isAgg4,
 z4:=Tryz.sizeOf4,
 v4:=Tryz.zeroValue4,
 t5:=Tryz.underlying5,
 a5:=Tryz.isAgg5,
 z5:=Tryz.sizeOf5,
 v5:=Tryz.zeroValue5,
 t9:=Tryz.underlying9,
 a9:=Tryz.isAgg9,
 z9:=Tryz.sizeOf9,
 v9:=Tryz.zeroValue9,
 t46:=Tryz.underlying153,
 a46:=Tryz.isAgg153,
 z46:=Tryz.sizeOf153,
 v46:=Tryz.zeroValue153,
 t51:=Tryz.underlying114,
 a51:=Tryz.isAgg114,
 z51:=Tryz.sizeOf114,
 v51:=Tryz.zeroValue114,
 t59:=Tryz.underlying104,
 a59:=Tryz.isAgg104,
 z59:=Tryz.sizeOf104,
 v59:=Tryz.zeroValue104,
 t146:=Tryz.underlying192,
 a146:=Tryz.isAgg192,
 z146:=Tryz.sizeOf192,
 v146:=Tryz.zeroValue192,
 g1:=by kernel_rfl }
end Go.Proofs
namespace Go.Proofs.YtoppjelfghopnaaGreatDoor
open Go.Ab
theorem str344_ok:∀xs r,prim344 xs=some r→Z6 Tryz.prog (nu 344) xs (·=r):=by
 have e:nu 344=Tryz.sren.f 153:=by kernel_rfl
 rw[e];exact indexAny_pcall Tryz.lays153 (by kernel_rfl)
theorem str194_ok:∀xs r,prim194 xs=some r→Z6 Tryz.prog (nu 194) xs (·=r):=by
 have e:nu 194=Tryz.sren.f 219:=by kernel_rfl
 rw[e];exact index_pcall Tryz.lays219
theorem str361_ok:∀xs r,prim361 xs=some r→Z6 Tryz.prog (nu 361) xs (·=r):=by
 have e:nu 361=Tryz.sren.f 138:=by kernel_rfl
 rw[e];exact count_pcall Tryz.lays138
theorem str184_ok:∀xs r,prim184 xs=some r→Z6 Tryz.prog (nu 184) xs (·=r):=by
 have e:nu 184=Tryz.sren.f 145:=by kernel_rfl
 rw[e];exact cut_pcall Tryz.lays145
end Go.Proofs.YtoppjelfghopnaaGreatDoor
end
section
namespace Go.Proofs
open Go.Shelf Go.RowKit
set_option maxRecDepth 100000
def Tryz.jren:Ren:=⟨fun | 156=>44 | 165=>77 | 166=>78 | 169=>79 | 240=>118 | 241=>119 | 277=>157 | n=>n,fun | 0=>0 | 1=>1 | 2=>2 | 3=>3 | 4=>4 | 5=>5 | 6=>6 | 7=>7 | 8=>8 | 9=>9 | 10=>10 | 11=>11 | 12=>12 | 13=>13 | 14=>14 | 15=>15 | 16=>16 | 17=>17 | 18=>18 | 19=>19 | 20=>20 | 21=>21 | 22=>178 | 23=>175 | 24=>50 | 25=>182 | 27=>195 | 28=>68 | 31=>45 | 37=>128 | 40=>250 | 41=>196 | 46=>153 | 48=>165 | 51=>114 | 52=>221 | 53=>94 | 55=>223 | 59=>104 | 60=>105 | 61=>216 | 63=>228 | 64=>240 | 67=>89 | 69=>67 | 70=>127 | 71=>129 | 72=>130 | 73=>131 | 74=>132 | 75=>133 | 76=>134 | 77=>135 | 80=>136 | 81=>258 | 101=>44 | 103=>73 | 104=>47 | 105=>226 | 106=>227 | 111=>241 | 113=>235 | 114=>166 | 115=>205 | 116=>206 | 117=>207 | 118=>208 | 119=>246 | 122=>204 | 123=>209 | 124=>210 | 127=>176 | 137=>247 | 138=>248 | 139=>249 | 146=>192 | 150=>245 | 151=>239 | 164=>211 | 165=>212 | 166=>213 | n=>n,fun n=>n⟩
theorem Tryz.joinLaid:JL Tryz.prog Tryz.jren:={
 mixed:=by kernel_rfl,
 f169:=Tryz.func79.trans (congrArg some (by kernel_rfl)),
 t0:=Tryz.underlying0,
 a0:=Tryz.isAgg0,
 z0:=Tryz.sizeOf0,
 v0:=Tryz.zeroValue0,
 t3:=Tryz.underlying3,
 a3:=Tryz.isAgg3,
 z3:=Tryz.sizeOf3,
 v3:=Tryz.zeroValue3,
 t9:=Tryz.underlying9,
 a9:=Tryz.isAgg9,
 z9:=Tryz.sizeOf9,
 v9:=Tryz.zeroValue9,
 t37:=Tryz.underlying128,
 a37:=Tryz.isAgg128,
 z37:=Tryz.sizeOf128,
 v37:=Tryz.zeroValue128,
 t70:=Tryz.underlying127,
 a70:=Tryz.isAgg127,
 z70:=Tryz.sizeOf127,
 v70:=Tryz.zeroValue127,
 t72:=Tryz.underlying130,
 a72:=Tryz.isAgg130,
 z72:=Tryz.sizeOf130,
 v72:=Tryz.zeroValue130,
 t127:=Tryz.underlying176,
 a127:=Tryz.isAgg176,
 z127:=Tryz.sizeOf176,
 v127:=Tryz.zeroValue176,
 f241:=Tryz.func119.trans (congrArg some (by kernel_rfl)),
 f277:=Tryz.func157.trans (congrArg some (by kernel_rfl)),
 sizeBuilder:=by kernel_rfl,
 liesBuilder:=by kernel_rfl,
 t5:=Tryz.underlying5,
 a5:=Tryz.isAgg5,
 z5:=Tryz.sizeOf5,
 v5:=Tryz.zeroValue5,
 infoByte:=by kernel_rfl,
 cellsByte:=by kernel_rfl,
 sizeByte:=by kernel_rfl,
 neB5:=by decide,
 f156:=Tryz.func44.trans (congrArg some (by kernel_rfl)),
 f165:=Tryz.func77.trans (congrArg some (by kernel_rfl)),
 f166:=Tryz.func78.trans (congrArg some (by kernel_rfl)),
 t4:=Tryz.underlying4,
 a4:=Tryz.isAgg4,
 z4:=Tryz.sizeOf4,
 v4:=Tryz.zeroValue4,
 t20:=Tryz.underlying20,
 a20:=Tryz.isAgg20,
 z20:=Tryz.sizeOf20,
 v20:=Tryz.zeroValue20,
 t31:=Tryz.underlying45,
 a31:=Tryz.isAgg45,
 z31:=Tryz.sizeOf45,
 v31:=Tryz.zeroValue45,
 t75:=Tryz.underlying133,
 a75:=Tryz.isAgg133,
 z75:=Tryz.sizeOf133,
 v75:=Tryz.zeroValue133,
 t76:=Tryz.underlying134,
 a76:=Tryz.isAgg134,
 z76:=Tryz.sizeOf134,
 v76:=Tryz.zeroValue134,
 t164:=Tryz.underlying211,
 a164:=Tryz.isAgg211,
 z164:=Tryz.sizeOf211,
 v164:=Tryz.zeroValue211,
 e240:=enters_of Tryz.func118 (by kernel_rfl) rfl,
 c240:=fun B b bs w h=>Tryz.bCheck B b bs w h,
 c240f:=fun b w h0 h1 h2=>Tryz.bCheck_fresh b w h0 h1 h2 }
end Go.Proofs
namespace Go.Proofs.YtoppjelfghopnaaGreatDoor
open Go.Ab
theorem join_ok:∀xs r,prim183 xs=some r→Z6 Tryz.prog (nu 183) xs (·=r):=by
 have e:nu 183=Tryz.jren.f 156:=by kernel_rfl
 rw[e];exact join_pcall Tryz.joinLaid
end Go.Proofs.YtoppjelfghopnaaGreatDoor
end
section
namespace Go.Ab
open Go.ChangeShapes Go.WideShapes Go.ChangeAt Go.RowKit
theorem zi9{H:Type}{enc:TypeId×Value→H}{P:Program}{f:Func}{s:ChangeSpec}{apart fresh handsOn again:Bool}{W W':World}{args:Array Value}{v:Value}{ds gs:List (DataW H)}{before pa pv:List MemPlace}
  (hW:DataW.Whole enc P f.params.toList s.vars apart W args.toList ds gs before)
  (hres:∀(b:Nat) (sp:Nat→Bool) (hd:Bool),DataW.TrodAll enc P W' b sp hd f.resultTypes.toList (v.resultList f.resultTypes.size) (s.fn H (ds++gs)).results [])
  (hargs:∀sp:Nat→Bool,(∀p∈before,sp p.block=true)→DataW.TrodAll enc P W' 0 sp true f.params.toList args.toList (s.fn H (ds++gs)).args pa)
  (hvars:∀sp:Nat→Bool,(∀p∈before,sp p.block=true)→DataW.TrodVars enc P W' sp s.vars (s.fn H (ds++gs)).vars pv)
  (hps:before=pa++pv) (hw:Below W.heap.size W W')
  (hok:∀(j:Nat) (t:TypeId) (r:Value),f.resultTypes[j]? = some t→(v.resultList f.resultTypes.size)[j]? = some r→Value.okWide P W' .any 0 t r) :
  s.post enc P f apart fresh handsOn again W args v W':=by
 have hold:∀p∈before,(fun b=>decide (b<W.heap.size)) p.block=true:=fun p hp=>by simpa using hW.lt p hp
 have hlt:∀p∈before,p.block<W.heap.size:=fun p hp=>hW.lt p hp;refine⟨ds,gs,before,[],pa,pv,hW,hres _ _ _,hargs _ hold,hvars _ hold,World.keptBut_mono (fun p hp=>⟨hp,?_⟩) (hw.frame (·∈before)),fun _=>?_⟩
 ·rw[hps,Y4]at hp;exact Or.inr hp
 ·obtain⟨_,_,_,_,_,hz,hn⟩:=hW;refine⟨hok,_,_,([]++pa)++pv,⟨[]++pa,pv,trodAll_append (hargs _ (fun _ _=>rfl)) (hres _ _ _),hvars _ (fun _ _=>rfl),rfl,?_,?_⟩,?_⟩
  ·intro b off hp;have hp':MemPlace.cell b off∈before:=by rw[hps];simpa using hp
   rw[hw.frozen (p:=⟨b,off,none⟩) (hlt _ hp')];exact hz b off hp'
  ·intro ha;have:=hn ha;rw[hps]at this;simpa using this
  ·intro p hp _;rw[hps];simpa using hp
end Go.Ab
end
section
namespace Go.Ab
open Go.ChangeShapes Go.WideShapes Go.ChangeAt Go.RowKit
inductive Ty where
 | int (k:IntKind)
 | bool
 | str
 | sl (r:Ty)
 | nil
 | cons (a:Ty) (r:Ty)
def Ty.z:Ty→Nat
 | .nil=>0
 | .cons a r=>a.z+r.z
 | _=>1
def Ok:Ty→List AV→Prop
 | .int k,cs=>∃n,cs=[.i k n]∧(Lit.int k n).wf=true
 | .bool,cs=>∃b,cs=[.b b]
 | .str,cs=>∃l,cs=[.s l]∧l.length≤maxLen
 | .sl r,cs=>∃els f,cs=[.sl els f]∧els.length≤maxLen∧(f=.nl∧els=[]∨f=.so)∧∀row∈els,Ok r row
 | .nil,cs=>cs=[]
 | .cons a r,cs=>∃c1 c2,cs=c1++c2∧Ok a c1∧Ok r c2
theorem Ok.len:∀{ty:Ty} {cs:List AV},Ok ty cs→cs.length=ty.z
 | .int _,_,⟨_,h,_⟩=>by rw[h];rfl
 | .bool,_,⟨_,h⟩=>by rw[h];rfl
 | .str,_,⟨_,h,_⟩=>by rw[h];rfl
 | .sl _,_,⟨_,_,h,_⟩=>by rw[h];rfl
 | .nil,_,h=>by rw[show _=[] from h];rfl
 | .cons _ _,_,⟨_,_,h,h1,h2⟩=>by rw[h,Yp,h1.len,h2.len];rfl
def Zc7(w:World)(S:Nat→Nat→Prop)(cs:List Value)(xs:List AV):Prop:=
 xs.length=cs.length∧∀(j:Nat) (v:Value) (c:AV),cs[j]? = some v→xs[j]? = some c→CP w S v c∧v.oneCell'=true
section
variable{H:Type}{enc:TypeId×Value→H}{P:Program}{w:World}{base:Nat}{held:Bool}{S:Nat→Nat→Prop}
theorem Zc7.nil:Zc7 w S [] []:=⟨rfl,fun j v c h=>by grind⟩
theorem Zc7.one{v:Value}{c:AV}(h:CP w S v c)(h1:v.oneCell'=true):Zc7 w S [v] [c]:=by
 refine⟨rfl,fun j v' c' hv hc=>?_⟩
 grind
theorem Zc7.append{cs cs':List Value}{xs xs':List AV}(h:Zc7 w S cs xs)(h':Zc7 w S cs' xs'):Zc7 w S (cs++cs') (xs++xs'):=by
 refine⟨by rw[Yp,Yp,h.1,h'.1],fun j v c hv hc=>?_⟩;by_cases hj:j<cs.length
 ·rw[Yn hj]at hv;rw[Yn (by rw[h.1];omega)]at hc;exact h.2 j v c hv hc
 ·rw[Yj (by omega)]at hv;rw[Yj (by rw[h.1];omega),h.1]at hc;exact h'.2 _ v c hv hc
def Ze4(P:Program)(g:TypeId→Option Ty)(tot:Nat):Nat→List Field→Option Ty
 | off,[]=>if off=tot then some .nil else none
 | off,f::fs=>(g f.type).bind fun a=>if f.offset=off∧a.z=P.cellsOf f.type then (Ze4 P g tot (off+a.z) fs).map (.cons a) else none
def Zi0:Nat→Ty→Ty
 | 0,_=>.nil
 | n+1,a=>.cons a (Zi0 n a)
def Zft(P:Program):Nat→TypeId→Option Ty
 | 0,_=>none
 | n+1,t=>
  match P.underlying t with
  | some .bool=>some .bool
  | some (.int k)=>some (.int k)
  | some .string=>some .str
  | some (.slice e)=>(Zft P n e).bind fun r=>if r.z=P.cellsOf e∧0<r.z then some (.sl r) else none
  | some (.struct fs)=>Ze4 P (Zft P n) (P.cellsOf t) 0 fs.toList
  | some (.array k e)=>(Zft P n e).bind fun a=>if a.z=P.cellsOf e∧k*a.z=P.cellsOf t then some (Zi0 k a) else none
  | _=>none
theorem zr4{α:Type}{Q:Nat→α→Prop}:∀(n:Nat),(∀i,i<n→∃x,Q i x)→∃l:List α,l.length=n∧∀i x,l[i]? = some x→Q i x
 | 0,_=>⟨[],rfl,fun i x h=>by grind⟩
 | n+1,h=>by
  obtain⟨l,hl,hq⟩:=zr4 n fun i hi=>h i (by omega);obtain⟨x,hx⟩:=h n (by omega);refine⟨l++[x],by grind,fun i y hy=>?_⟩
  grind
def Zew(S:Nat→Nat→Prop)(ps:List MemPlace):Prop:=∀k o,MemPlace.cell k o∈ps→S k o
theorem zgp{n:Nat}{g:TypeId→Option Ty}{cs:List Value}
  (ih:∀t cs x ty,DataW.trod enc P w base (fun _=>true) held n t cs=some x→g t=some ty→Zew S x.2→∃xs,Ok ty xs∧Zc7 w S cs xs) :
  ∀(fs:List Field) (off:Nat) (ty:Ty) (ys:List (DataW H×List MemPlace)),
   ys.length=fs.length→(∀(i:Nat) (f:Field),fs[i]? = some f→DataW.trod enc P w base (fun _=>true) held n f.type ((cs.drop f.offset).take (P.cellsOf f.type))=ys[i]?) →
   Ze4 P g cs.length off fs=some ty→Zew S (ys.flatMap (·.2))→∃xs,Ok ty xs∧Zc7 w S (cs.drop off) xs
 | [],off,ty,ys,hl,hm,ht,hp=>by
  simp only[Ze4]at ht;split at ht<;>cases ht;rename_i ho;exact⟨[],rfl,by rw[ho,Yar];exact Zc7.nil⟩
 | f::fs,off,ty,[],hl,hm,ht,hp=>by grind
 | f::fs,off,ty,y::ys1,hl,hm,ht,hp=>by
  obtain⟨a,ha,ht1⟩:=bind_some ht;split at ht1
  ·rename_i hc;obtain⟨ho,hz⟩:=hc;obtain⟨r,hr,rfl⟩:=map_some ht1;have hy:=hm 0 f rfl;rw[ho,←hz]at hy;obtain⟨xs1,ho1,hr1⟩:=ih _ _ _ _ hy ha fun k o h=>hp k o (by grind);obtain⟨xs2,ho2,hr2⟩:=zgp ih fs _ r ys1 (by grind) (fun i f' hf=>by simpa using hm (i+1) f' (by grind)) hr fun k o h=>hp k o (by
    grind)
   refine⟨xs1++xs2,⟨xs1,xs2,rfl,ho1,ho2⟩,?_⟩;have e:cs.drop off=(cs.drop off).take a.z++cs.drop (off+a.z):=by rw[←Ydx,Yav]
   rw[e];exact hr1.append hr2
  grind
theorem zid{n:Nat}{e:TypeId}{r:Ty}(ih:∀cs x,DataW.trod enc P w base (fun _=>true) held n e cs=some x→Zew S x.2→∃xs,Ok r xs∧Zc7 w S cs xs) :
  ∀(k:Nat) (cs:List Value) (ys:List (DataW H×List MemPlace)),ys.length=k→cs.length=k*r.z →
   (∀(i:Nat),i<k→DataW.trod enc P w base (fun _=>true) held n e ((cs.drop (i*r.z)).take r.z)=ys[i]?)→Zew S (ys.flatMap (·.2))→∃xs,Ok (Zi0 k r) xs∧Zc7 w S cs xs
 | 0,cs,ys,hl,hc,hm,hp=>by
  rw[Yc8,Yc1]at hc;subst hc;exact⟨[],rfl,Zc7.nil⟩
 | k+1,cs,[],hl,hc,hm,hp=>by grind
 | k+1,cs,y::ys,hl,hc,hm,hp=>by
  have hy:=hm 0 (by omega);rw[Yc8,Yba]at hy;obtain⟨xs1,ho1,hr1⟩:=ih _ _ hy fun k o h=>hp k o (by grind);obtain⟨xs2,ho2,hr2⟩:=zid ih k (cs.drop r.z) ys (by grind) (by grind) (fun i hi=>by
   grind[List.drop_drop]) fun k o h=>hp k o (by
    grind)
  refine⟨xs1++xs2,⟨xs1,xs2,rfl,ho1,ho2⟩,?_⟩;have e:cs=cs.take r.z++cs.drop r.z:=(Yav ..).symm;rw[e];exact hr1.append hr2
theorem zoj{a:Addr}{m z:Nat}{cs:List Value}(h:w.cells? base (a.add m) z=some cs)(j:Nat)(hj:j<z):w.cell? ((a.add m).add j)=cs[j]? := (World.cells?_some h).2.2 j hj
theorem zr5{a:Addr}{v:Value}(h:w.cell? a=some v):a.spot=none:=by
 unfold World.cell? at h;split at h
 all_goals simp_all
theorem zeu:∀(n m:Nat) (t:TypeId) (cs:List Value) (x:DataW H×List MemPlace) (ty:Ty),
  DataW.trod enc P w base (fun _=>true) held n t cs=some x→Zft P m t=some ty→Zew S x.2→∃xs,Ok ty xs∧Zc7 w S cs xs
 | 0,_,_,_,_,_,h,_,_=>by simp[DataW.trod]at h
 | n+1,0,_,_,_,_,_,ht,_=>by simp[Zft]at ht
 | n+1,m+1,t,cs,x,ty,h,ht,hp=>by
  simp only[Zft]at ht;split at ht
  ·rename_i hu;cases ht;obtain⟨b,rfl,rfl⟩:=DataW.trod_bool hu h;exact⟨[.b b],⟨b,rfl⟩,Zc7.one (.b b) rfl⟩
  ·rename_i k hu;cases ht;obtain⟨z,rfl,rfl,hw⟩:=DataW.trod_int hu h;exact⟨[.i k z],⟨z,rfl,hw⟩,Zc7.one (.i k z) rfl⟩
  ·rename_i hu;cases ht;obtain⟨s,rfl,rfl,hs⟩:=DataW.trod_string hu h;exact⟨[.s s.data.toList],⟨_,rfl,by simp_all⟩,Zc7.one (.s s.data.toList) rfl⟩
  ·rename_i e hu;obtain⟨r,hr,ht1⟩:=bind_some ht;split at ht1
   ·rename_i hz;cases ht1;obtain⟨hz,hzp⟩:=hz;rcases DataW.trod_slice hu h with ⟨rfl,rfl⟩ | ⟨a,len,cap,elems,rest,n',hn',rfl,rfl,hb,hl,hmx,hlen,hel,hsp,hns⟩
    ·exact⟨[.sl [] .nl],⟨[],.nl,rfl,Yz _,.inl ⟨rfl,rfl⟩,fun row h=>by grind⟩,Zc7.one (.slnil _ (.inl rfl)) rfl⟩
    ·obtain⟨hrl,hrest⟩:=hsp rfl;have hall:∀i,i<cap→∃y cs',y∈elems++rest∧w.cells? base (a.add (i*P.cellsOf e)) (P.cellsOf e)=some cs'∧DataW.trod enc P w base (fun _=>true) held n e cs'=some y:=by
      intro i hi;by_cases hil:i<len
      ·have h1:=hel i hil;rw[Ya (by omega)]at h1;obtain⟨cs',h2,h3⟩:=bind_some h1
       grind
      ·have h1:=hrest (i-len) (by omega);rw[Ya (by omega),show len+(i-len)=i by omega]at h1;obtain⟨cs',h2,h3⟩:=bind_some h1
       grind
     by_cases hcap:cap=0
     ·have hl0:len=0:=by omega
      subst hcap;subst hl0;exact⟨[.sl [] .so],⟨[],.so,rfl,Yz _,.inr rfl,fun row h=>by grind⟩,Zc7.one (.slz a _ (.inl rfl)) rfl⟩
     ·have hspot:a.spot=none:=by
       obtain⟨y,cs',_,h2,_⟩:=hall 0 (by omega);have h3:=zoj h2 0 (by omega)
       grind[World.cells?_some,zr5,Addr.add]
      obtain⟨blk,off,sp⟩:=a;have hrows:∀i,i<len→∃xs,Ok r xs∧∃cs',w.cells? base ((⟨blk,off,none⟩:Addr).add (i*P.cellsOf e)) (P.cellsOf e)=some cs'∧Zc7 w S cs' xs:=by
       intro i hi;obtain⟨y,cs',hy,h2,h3⟩:=hall i (by omega);obtain⟨xs,ho,hrc⟩:=zeu n m e cs' y r h3 hr fun k o hk=>hp k o (by
        grind)
       grind
      obtain⟨els,hels,hq⟩:=zr4 len hrows;refine⟨[.sl els .so],⟨els,.so,rfl,by omega,.inr rfl,fun row hrow=>?_⟩,Zc7.one ?_ rfl⟩
      ·grind[List.getElem?_of_mem]
      ·have hcell:∀i j,i<els.length→j<r.z→∃v,w.cell? ⟨blk,off+i*r.z+j,none⟩=some v∧v.oneCell'=true∧∀row c,els[i]? = some row→row[j]? = some c→CP w S v c:=by
        intro i j hi hj;obtain⟨ho,cs',h2,hrc⟩:=hq i _ (Ya hi);have h3:=zoj h2 j (by omega);have h4:=(World.cells?_some h2).2.1;rw[za8,za8,←hz,Ya (by omega)]at h3;have hlr:=ho.len;have h5:=hrc.2 j _ _ (Ya (by omega)) (Ya (by omega))
        grind
       have hS:∀i j,i<els.length→j<r.z→S blk (off+i*r.z+j):=by
        intro i j hi hj;refine hp _ _ ?_;rw[Y4];left;unfold MemPlace.row;rw[Y3];refine⟨i*r.z+j,?_,by rw[Yap]⟩;have h1:(i+1)*r.z≤(elems.length+rest.length)*r.z:=Y0 _ (by omega)
        grind
       have:=CP.sl (w:=w) (S:=S) blk off r.z cap els .so (fun i j=>(w.cell? ⟨blk,off+i*r.z+j,none⟩).getD undef) (by simp) (by simp) (by omega) hmx
        (fun i row hrow=>(hq i row hrow).1.len) (fun i j hi hj=>?_) (fun i row j c hrow hc=>?_)
       ·grind
       ·grind
       ·have hi:=(Yal.1 hrow).1;have hj:=(Yal.1 hc).1;rw[(hq i row hrow).1.len]at hj
        grind
   grind
  ·rename_i fs hu;obtain⟨xs,n',hn',rfl,hcl,hxl,hx⟩:=DataW.trod_struct hu h;cases hn';rw[←hcl]at ht;have:=zgp (S:=S) (g:=Zft P m) (cs:=cs) (n:=n) (fun t cs x ty h1 h2 h3=>zeu n m t cs x ty h1 h2 h3) fs.toList 0 ty xs (by omega) (fun i f hf=>hx i f (by grind)) ht hp
   grind
  ·rename_i k e hu;obtain⟨r,hr,ht1⟩:=bind_some ht;split at ht1
   ·rename_i hz;cases ht1;obtain⟨hz,hzt⟩:=hz;obtain⟨xs,n',hn',rfl,hcl,hxl,hx⟩:=DataW.trod_array hu h;cases hn';rw[←hz]at hx;exact zid (S:=S) (n:=n) (e:=e) (r:=r) (fun cs x h1 h3=>zeu n m e cs x r h1 hr h3) k cs xs hxl (by omega) hx hp
   grind
  grind
end
end Go.Ab
end
section
namespace Go.Ab
open Go.ChangeShapes Go.WideShapes Go.ChangeAt Go.RowKit
def isAgg(P:Program)(t:TypeId):Bool:=match P.underlying t with | some (.struct _)=>true | some (.array _ _)=>true | _=>false
def Zi1(P:Program)(m:Nat):List TypeId→Option (List (Bool×Ty))
 | []=>some []
 | t::ts=>(Zft P m t).bind fun a=>(Zi1 P m ts).map fun r=>(isAgg P t,a)::r
def Zi2:Bool×Ty→AV→Prop
 | (true,ty),x=>∃cs,x=.agg cs∧Ok ty cs
 | (false,ty),x=>Ok ty [x]
def Zg2:List (Bool×Ty)→List AV→Prop
 | [],xs=>xs=[]
 | a::r,xs=>∃x ys,xs=x::ys∧Zi2 a x∧Zg2 r ys
section
variable{H:Type}{enc:TypeId×Value→H}{P:Program}{w:World}{S:Nat→Nat→Prop}
theorem zvs{m:Nat}{t:TypeId}{v:Value}{d:DataW H}{p:List MemPlace}{ty:Ty}{base:Nat}(hA:DataW.Trod enc P w 0 (fun _=>true) true t v d p)(hT:Zft P m t=some ty)
  (hval:Value.okWide P w .any base t v) (hp:Zew S p):∃x,Zi2 (isAgg P t,ty) x∧CP w S v x:=by
 obtain⟨fuel,hf⟩:=hA;obtain⟨xs,ho,hrc⟩:=zeu (S:=S) fuel m t _ _ ty hf hT hp;have hlen:=ho.len;cases hu:P.underlying t with
 | none=>cases m<;>simp[Zft,hu]at hT
 | some desc=>
  have one:∀(hag:isAgg P t=false) (hz:ty.z=1) (hv:v.cells=#[v]),∃x,Zi2 (isAgg P t,ty) x∧CP w S v x:=by
   intro hag hz hv;rw[hag]
   match xs,hlen with
   | [x],_=>
    refine⟨x,ho,?_⟩;have:=hrc.2 0 v x (by grind) rfl
    grind
   | [],h=>grind
   | _::_::_,h=>grind
  cases m with
  | zero=>simp[Zft]at hT
  | succ m=>
  cases desc<;>simp only[Zft,hu]at hT<;>try (cases hT;done)
  case struct fs=>
   have hag:isAgg P t=true:=by simp[isAgg,hu]
   rw[hag];unfold Value.okWide at hval;rw[hu]at hval;obtain⟨cs,rfl,hcs,_⟩:=hval;refine⟨.agg xs,⟨xs,rfl,ho⟩,.agg cs xs ?_ ?_ ?_⟩
   ·have:=hrc.1;simpa[Value.cells]using this.symm
   ·intro j u hu;have hl:=hrc.1;have hj:j<cs.size:=(Ycn.1 hu).1;have hj':j<xs.length:=by rw[hl];simpa[Value.cells]using hj
    exact(hrc.2 j u _ (by simpa[Value.cells]using hu) (Ya hj')).2
   ·intro j u c hu hc;exact(hrc.2 j u c (by simpa[Value.cells]using hu) hc).1
  case array k e=>
   have hag:isAgg P t=true:=by simp[isAgg,hu]
   rw[hag];unfold Value.okWide at hval;rw[hu]at hval;obtain⟨cs,rfl,hcs,_⟩:=hval;refine⟨.agg xs,⟨xs,rfl,ho⟩,.agg cs xs ?_ ?_ ?_⟩
   ·have:=hrc.1;simpa[Value.cells]using this.symm
   ·intro j u hu;have hl:=hrc.1;have hj:j<cs.size:=(Ycn.1 hu).1;have hj':j<xs.length:=by rw[hl];simpa[Value.cells]using hj
    exact(hrc.2 j u _ (by simpa[Value.cells]using hu) (Ya hj')).2
   ·intro j u c hu hc;exact(hrc.2 j u c (by simpa[Value.cells]using hu) hc).1
  case bool=>
   cases hT;unfold Value.okWide Cell.okWide Cell.ok at hval;refine one (by simp[isAgg,hu]) rfl ?_;cases v<;>first | rfl | grind
  case int k=>
   cases hT;unfold Value.okWide Cell.okWide Cell.ok at hval;rw[hu]at hval;refine one (by simp[isAgg,hu]) rfl ?_;cases v<;>first | rfl | grind
  case string=>
   cases hT;unfold Value.okWide Cell.okWide Cell.ok at hval;rw[hu]at hval;refine one (by simp[isAgg,hu]) rfl ?_;cases v<;>first | rfl | grind
  case slice e=>
   obtain⟨r,hr,ht1⟩:=bind_some hT;split at ht1<;>cases ht1;unfold Value.okWide Cell.okWide Cell.ok at hval;rw[hu]at hval;refine one (by simp[isAgg,hu]) rfl ?_;cases v<;>first | rfl | grind
theorem zkq{m base:Nat}:∀(ts:List TypeId) (vs:List Value) (ds:List (DataW H)) (p:List MemPlace) (tys:List (Bool×Ty)),DataW.TrodAll enc P w 0 (fun _=>true) true ts vs ds p→Zi1 P m ts=some tys →
  (∀(j:Nat) t v,ts[j]? = some t→vs[j]? = some v→Value.okWide P w .any base t v)→Zew S p →
  ∃xs,Zg2 tys xs∧vs.length=xs.length∧∀(j:Nat) (v:Value) (c:AV),vs[j]? = some v→xs[j]? = some c→CP w S v c
 | [],vs,ds,p,tys,hA,hT,hval,hp=>by
  obtain⟨rfl,_,_⟩:=trodAll_nil hA;cases hT;exact⟨[],rfl,rfl,fun j v c h=>by grind⟩
 | t::ts,vs,ds,p,tys,hA,hT,hval,hp=>by
  obtain⟨v,vs1,d,ds1,a,b,rfl,rfl,rfl,h1,h2⟩:=trodAll_cons hA;obtain⟨ty,hty,hT1⟩:=bind_some hT;obtain⟨r,hr,rfl⟩:=map_some hT1;obtain⟨x,hx,hC⟩:=zvs (S:=S) h1 hty (hval 0 t v rfl rfl) fun k o h=>hp k o (Yak _ h);obtain⟨xs,ho,hl,hc⟩:=zkq (m:=m) (base:=base) ts vs1 ds1 b r h2 hr (fun j t v ht hv=>hval (j+1) t v (by grind) (by grind)) fun k o h=>hp k o (Yad _ h);refine⟨x::xs,⟨x,xs,rfl,hx,ho⟩,by grind,fun j u c hu hcc=>?_⟩
  grind
theorem zok(hl:laidOutB P=true){W W':World}(hb:Below W.heap.size W W'){sp:Nat→Bool}:∀(ts:List TypeId) (vs:List Value) (ds:List (DataW H)) (p:List MemPlace),
  (ts.all fun t=>P.readableRec t&&decide (t<P.types.size))=true→DataW.TrodAll enc P W 0 (fun _=>true) true ts vs ds p→(∀x∈p,x.block<W.heap.size)→(∀x∈p,sp x.block=true)→DataW.TrodAll enc P W' 0 sp true ts vs ds p
 | [],_,_,_,_,hA,_,_=>by
  obtain⟨rfl,rfl,rfl⟩:=trodAll_nil hA;exact rfl
 | t::ts,vs,ds,p,hr,hA,hlt,hsp=>by
  obtain⟨v,vs1,d,ds1,a,b,rfl,rfl,rfl,h1,h2⟩:=trodAll_cons hA;rw[Ybx,Yk,Yk,decide_eq_true_eq]at hr;exact⟨a,b,WideElems.Trod_stays hl hr.1.1 hr.1.2 h1 (fun x hx=>hb.same (hlt x (Yak _ hx))) (fun x hx=>hsp x (Yak _ hx)),
   zok hl hb ts vs1 ds1 b hr.2 h2 (fun x hx=>hlt x (Yad _ hx)) (fun x hx=>hsp x (Yad _ hx)),rfl⟩
theorem zr6:∀(ts:List TypeId) (vs:List Value) (ds:List (DataW H)) (p:List MemPlace),DataW.TrodAll enc P w 0 (fun _=>true) true ts vs ds p→ds.length=ts.length
 | [],_,_,_,hA=>by
  obtain⟨rfl,rfl,rfl⟩:=trodAll_nil hA
  rfl
 | t::ts,vs,ds,p,hA=>by
  obtain⟨v,vs1,d,ds1,a,b,rfl,rfl,rfl,h1,h2⟩:=trodAll_cons hA;simp[zr6 ts vs1 ds1 b h2]
theorem zvt{f:FuncId}{fn:Func}{s:ChangeSpec}{m tb:Nat}{tys:List (Bool×Ty)}{fresh handsOn again:Bool}(hvars:s.vars=[])(hT:Zi1 P m fn.params.toList=some tys)(hl:laidOutB P=true)
  (hread:(fn.params.toList.all fun t=>P.readableRec t&&decide (t<P.types.size))=true) (hr:fn.resultTypes=#[tb]) (hb:P.underlying tb=some .bool)
  (hfn:∀ds:List (DataW H),ds.length=fn.params.toList.length→s.fn H ds={ results:=[.lit (.bool true)],args:=ds })
  (hcall:∀xs,Zg2 tys xs→Z6 P f xs (·=.b true)) {W:World} {args:Array Value} {ds gs:List (DataW H)} {before:List MemPlace} {base:Nat}
  (hval:∀(j:Nat) t v,fn.params[j]? = some t→args[j]? = some v→Value.okWide P W .any base t v) (hW:DataW.Whole enc P fn.params.toList s.vars false W args.toList ds gs before) :
  Calls P f args W fun e W'=>∃v,e=.returned v∧s.post enc P fn false fresh handsOn again W args v W':=by
 have hW':=hW;obtain⟨p,q,hA,hV,rfl,hfz,hnd⟩:=hW;rw[hvars]at hV;obtain⟨rfl,rfl⟩:=trodVars_none hV;have hlt:∀x∈p,x.block<W.heap.size:=fun x hx=>hW'.lt x (Yak _ hx);obtain⟨xs,ho,hlen,hC⟩:=zkq (S:=fun k o=>MemPlace.cell k o∈p) _ _ _ _ _ hA hT (fun j t v ht hv=>hval j t v (by grind) (by grind)) (fun k o h=>h);have hc:=(hcall xs ho).2 W (fun k o=>MemPlace.cell k o∈p) args (by omega) (fun j v c hv hc=>hC j v c (by grind) hc) (fun k o h=>hlt _ h);refine hc.mono fun e W' ⟨v,r,he,hrr,hbel,hCr⟩=>?_;subst he hrr;have hv:v=.bool true:=by cases hCr;rfl
 subst hv;have hlf:=hfn ds (zr6 _ _ _ _ hA);refine⟨_,rfl,zi9 (pa:=p) (pv:=[]) hW' (fun b sp hd=>?_) (fun sp hsp=>?_) (fun sp _=>?_) rfl hbel (ok_one hr rfl (okWide_bool_mk hb _))⟩
 ·rw[Yat,hlf,hr];exact trodAll_mk1 (shut_bool hb _)
 ·grind[zok]
 ·rw[Yat,hlf,hvars];exact rfl
end
end Go.Ab
end
section
namespace Go.Ab
theorem zv4{P:Program}{ν:Nat→FuncId}{T:Tbl}(hT:TOk P ν T)(hm:P.follows .mixedOrders=true){u:Nat}{af:AFx}{xs ys:List AV}{r:AV}(hu:T u=some af)(hl:af.lent=none)(h:Zb T u ys=some r)(hx:xs.map wkA=ys):Z6 P (ν u) xs (·=r):=by
 subst hx;have h1:=zg4 hT hm hu hl h;exact Z6.wk (ex:=false) h1
end Go.Ab
end
section
namespace Go.Ab
abbrev Fz:=Bool×List UInt32×List UInt32
abbrev Zeb(x:Fz):List AV:=[.b x.1,.sl (Za x.2.1) .an,.sl (Za x.2.2) .an]
abbrev efz(x:Fz):AV:=.agg (Zeb x)
def fv(x:Fz):Rat:=mkRat (wv x.1 x.2.1) (val x.2.2)
def fz(q:Rat):Fz:=(decide (q.num<0),ofN q.num.natAbs,ofN q.den)
@[simp] theorem zj7(q:Rat):fv (fz q)=q:=by
 unfold fv fz;rw[zj5,zae,Yek]
def fsz(x:Fz):Nat:=max x.2.1.length x.2.2.length
theorem zh0(x:Fz):x.2.1.length≤fsz x:=Yc2 ..
theorem zh1(x:Fz):x.2.2.length≤fsz x:=Ycq ..
def sz(q:Rat):Nat:=max (ofN q.num.natAbs).length (ofN q.den).length
theorem ziy(q:Rat):(ofN q.num.natAbs).length≤sz q:=Yc2 ..
theorem zhr(q:Rat):(ofN q.den).length≤sz q:=Ycq ..
theorem znv{n:Nat}(h:n≠0):1≤(ofN n).length:=by
 have:ofN n≠[]:=fun e=>h (za2.1 e);exact Ycu.2 this
theorem z5n(q:Rat):1≤sz q:=Yg (znv q.den_nz) (zhr q)
theorem zyb{z:Int}{d:Nat}(h:d≠0):(mkRat z d).num.natAbs=z.natAbs/Nat.gcd z.natAbs d:=by
 rw[Rat.num_mkRat,if_neg h,Int.natAbs_ediv_of_dvd (Int.ofNat_dvd_left.2 (Nat.gcd_dvd_right ..)),Ybk,Ycf]
theorem zyc{z:Int}{d:Nat}(h:d≠0):(mkRat z d).den=d/Nat.gcd z.natAbs d:=by
 rw[Rat.den_mkRat,if_neg h,Ycf]
theorem zyd{z:Int}{d:Nat}(h:d≠0):sgI (mkRat z d).num=sgI z:=by
 rw[Rat.num_mkRat,if_neg h];have hg:0<Nat.gcd d z.natAbs:=Nat.gcd_pos_of_pos_left _ (Yaf h);obtain⟨k,hk⟩:((Nat.gcd d z.natAbs:Nat):Int) ∣ z:=Int.ofNat_dvd_left.2 (Nat.gcd_dvd_right ..);generalize Nat.gcd d z.natAbs=g at *
 have hg':(0:Int)<g:=by omega
 subst hk;rw[Int.mul_ediv_cancel_left _ (by omega)];unfold sgI;rcases Int.lt_trichotomy k 0 with h1 | h1 | h1
 ·have:=Int.mul_neg_of_pos_of_neg hg' h1;rw[if_pos h1,if_pos this]
 ·subst h1;simp
 ·have:=Int.mul_pos hg' h1;rw[if_neg (by omega),if_neg (by omega),if_neg (by omega),if_neg (by omega)]
theorem zu7(z:Int):decide (z<0)=decide (sgI z<0):=by
 unfold sgI;split
 ·simp[*]
 ·split<;>simp[*]
theorem z5o{z:Int}{d:Nat}(h:d≠0):decide ((mkRat z d).num<0)=decide (z<0):=by
 rw[zu7,zu7 z,zyd h]
theorem zadp(n:Bool)(x:Nat){d:Nat}(h:d≠0):fz (mkRat (sg n x) d)=(n&&decide (x≠0),ofN (x/Nat.gcd x d),ofN (d/Nat.gcd x d)):=by
 unfold fz;rw[z5o h,zyb h,zyc h,zx9,zmd]
theorem zem:ofN 1=[1]:=by
 rw[zhm (by decide),show 1/4294967296=0 from rfl,zj3]
 rfl
theorem zu8:sz 0=1:=by
 unfold sz;rw[Rat.zero_num,Rat.zero_den,zem];simp
theorem zye:sz 1=1:=by
 unfold sz;rw[Rat.one_num,Rat.one_den,show (1:Int).natAbs=1 from rfl,zem]
 rfl
theorem zeb(q:Rat):fsz (fz q)=sz q:=rfl
theorem zu9{z:Int}{d L:Nat}(hz:(ofN z.natAbs).length≤L)(hd:(ofN d).length≤L)(h1:1≤L):sz (mkRat z d)≤L:=by
 unfold sz;by_cases h:d=0
 ·subst h;rw[Rat.mkRat_zero,Rat.zero_num,Rat.zero_den,zem];simp;omega
 ·rw[zyb h,zyc h];exact Nat.max_le.2 ⟨Yg (za7 (Ybs _ _)) hz,Yg (za7 (Ybs _ _)) hd⟩
theorem zme{x:Fz}{L:Nat}(h:fsz x≤L)(h1:1≤L):sz (fv x)≤L:=
 zu9 (Yg (zc9 _ _) (Yg (zh0 x) h)) (Yg (zad _) (Yg (zh1 x) h)) h1
theorem zc5{x y L M:Nat}(hx:(ofN x).length≤L)(hy:(ofN y).length≤M):(ofN (x*y)).length≤L+M:=by
 have:=zbi (x:=(x:Int)) (y:=(y:Int)) (L:=L) (M:=M) (by simpa using hx) (by simpa using hy);simpa[Int.natAbs_mul]using this
theorem z5p(p q:Rat):sz (p+q)≤sz p+sz q+1:=by
 rw[Rat.add_def'];have h1:=ziy p;have h2:=zhr p;have h3:=ziy q;have h4:=zhr q;have h5:=z5n p;refine zu9 ?_ (Yg (zc5 h2 h4) (by omega)) (by omega);refine zcb ?_ ?_
 ·exact zbi h1 (by simpa using h4)
 ·rw[Ybf];exact zbi h3 (by simpa using h2)
def sgQ(q:Rat):Int:=sgI q.num
theorem z5q{z:Int}{d:Nat}(h:d≠0):sgQ (mkRat z d)=sgI z:=zyd h
theorem zxd{z:Int}:sgI z=0↔z=0:=by
 unfold sgI;split
 ·constructor<;>intro h<;>omega
 ·split<;>constructor<;>intro h<;>omega
theorem zxe{q:Rat}:sgQ q=0↔q=0:=by
 unfold sgQ;rw[zxd,Rat.num_eq_zero]
def Zi(l:List Fz):List (List AV):=l.map Zeb
@[simp] theorem z0t(l:List Fz):(Zi l).length=l.length:=by simp[Zi]
@[simp] theorem zva(l:List Fz):wkL (Zi l)=Zi l:=by rw[zb1];simp[Zi,wkR,wkA]
@[simp] theorem z8x(l:List Fz)(i:Nat)(h:i<(Zi l).length):(Zi l)[i]=Zeb (l[i]'(by simpa using h)):=by simp[Zi]
theorem zmf(l:List Fz)(x:Fz):Zi l++[Zeb x]=Zi (l++[x]):=by simp[Zi]
@[simp] theorem z5r(l:List Fz)(n:Nat):(Zi l).take n=Zi (l.take n):=by simp[Zi]
@[simp] theorem zgc:Zi []=[]:=rfl
def Z3(m:List (List Fz)):List (List AV):=m.map fun r=>[.sl (Zi r) .an]
@[simp] theorem z0u(l:List (List Fz)):(Z3 l).length=l.length:=by simp[Z3]
@[simp] theorem z0v(l:List (List Fz)):wkL (Z3 l)=Z3 l:=by rw[zb1];simp[Z3,wkR,wkA]
@[simp] theorem z8y(l:List (List Fz))(i:Nat)(h:i<(Z3 l).length):(Z3 l)[i]=[.sl (Zi (l[i]'(by simpa using h))) .an]:=by simp[Z3]
@[simp] theorem z5s(l:List (List Fz))(n:Nat):(Z3 l).take n=Z3 (l.take n):=by simp[Z3]
@[simp] theorem zxf:Z3 []=[]:=rfl
end Go.Ab
end
section
namespace Go.Ab
abbrev tyF:Ty:=.cons .bool (.cons (.sl (.int .u32)) (.cons (.sl (.int .u32)) .nil))
theorem zp6{P:Program}{ν:Nat→FuncId}{l l':List (Nat×AFx)}(hT:TOk P ν fun u=>l'.lookup u)(hp:Part l l')(hm:P.follows .mixedOrders=true){u:Nat}{af:AFx}{xs ys:List AV}{r:AV}
  (hu:l'.lookup u=some af) (hl:af.lent=none) (h:Zb (fun u=>l.lookup u) u ys=some r) (hx:xs.map wkA=ys):Z6 P (ν u) xs (·=r):=
 zv4 hT hm hu hl (hp.call (by rw[hu];rfl) h) hx
end Go.Ab
end
section
namespace Go.Proofs.YtoppjelfghopnaaGreatDoor
open Go Go.Ab Go.RowKit
def Zb5:ByteArray:=⟨#[43,45,42,47,94,40,41,91,93,44,59,61]⟩
theorem signS_lt:∀(p:Nat) (h:p<Zb5.size),(Zb5[p]'h).toNat<128:=by decide
theorem sign_at(c:Nat)(hc:c<256):Zic.contains (UInt8.ofNat c)=decide (∃p,∃h:p<Zb5.size,(Zb5[p]'h).toNat=c):=by
 rw[Yb3,decide_eq_true_iff];have:∀c,c<256→(Zic.contains (UInt8.ofNat c)=true↔∃p,∃h:p<Zb5.size,(Zb5[p]'h).toNat=c):=by decide +kernel
 exact this c hc
set_option maxHeartbeats 1000000 in
set_option maxRecDepth 100000 in
theorem sign_calls(c:Nat)(hc:c<256)(w:World):Calls Tryz.prog 160 #[.int .u8 (c:Int)] w fun e w'=>e=.returned (.bool (Zic.contains (UInt8.ofNat c)))∧Below w.heap.size w w':=by
 rw[sign_at c hc]
 go_enter Tryz.func160,Tryz.ntmps160
 go_wp2
 go_loopw [] (fun wr=>∃pos:Nat,wr.heap[w.heap.size]? = some (.stringIter Zb5 pos)∧Below w.heap.size w wr∧∀j,j<pos→∀h:j<Zb5.size,(Zb5[j]'h).toNat≠c) (fun wr=>Zb5.size-wr.iterPos w.heap.size)
 case atStart=>
  refine⟨0,World.iter_heap w Zb5 0,?_,fun j hj=>absurd hj (Nat.not_lt_zero _)⟩;exact(Below.refl _ w).alloc (Yi _) _
 case round=>
  obtain⟨pos,hit,hbw,hne⟩:=hrel;by_cases hp:pos<Zb5.size
  ·have hnx:∀ty,(Instr.next (.pointer (some ⟨w.heap.size,0,none⟩)) true ty).run Tryz.prog wr=_:=fun ty=>Lib.run_next_ascii_at wr w.heap.size Zb5 pos ty hit hp (signS_lt pos hp);have hit2:=Lib.iterAt_heap wr w.heap.size Zb5 pos (pos+1) hit;have hbw2:=Lib.below_iterAt hbw (k:=w.heap.size) (Yi _) Zb5 (pos+1);obtain⟨x,hx⟩:∃x:Nat,(Zb5[pos]'hp).toNat=x:=⟨_,rfl⟩;have hx1:=signS_lt pos hp;rw[hx]at hnx hx1;have hwr:IntKind.u8.wrap (x:Int)=(x:Int):=by rw[IntKind.wrap_u8];omega
   by_cases hxc:x=c
   ·subst hxc
    go_wp2
    go_ret
    exact⟨by rw[decide_eq_true ⟨pos,hp,hx⟩];rfl,hbw2⟩
   ·have hxc':¬ (x:Int)=(c:Int):=by omega
    go_wp2
    go_roundw
    case rel=>
     refine⟨pos+1,hit2,hbw2,fun j hj h=>?_⟩;rcases Yq j pos with h1 | h1
     ·exact hne j h1 h
     ·obtain rfl:j=pos:=by omega
      rw[hx];exact hxc
    case measure=>
     simp only[World.iterPos,hit2,hit];omega
  ·have hnx:∀ty,(Instr.next (.pointer (some ⟨w.heap.size,0,none⟩)) true ty).run Tryz.prog wr=_:=fun ty=>Lib.run_next_end_at wr w.heap.size Zb5 pos ty hit hp
   go_wp2
   go_ret
   have hno:¬ ∃p,∃h:p<Zb5.size,(Zb5[p]'h).toNat=c:=by
    rintro⟨p,h,hpc⟩
    exact hne p (by omega) h hpc
   exact⟨by rw[decide_eq_false hno];rfl,hbw⟩
theorem sign_ok:∀xs r,prim187 xs=some r→Z6 Tryz.prog (nu 187) xs (·=r):=by
 have e:nu 187=160:=by kernel_rfl
 rw[e];intro xs r h;unfold prim187 at h;split at h
 ·rename_i n;split at h
  ·rename_i hn;cases h;refine⟨enters_of Tryz.func160 (by kernel_rfl) rfl,fun w S cargs hsz hC hS=>?_⟩;obtain⟨v0,rfl⟩:=one_arg hsz;have c0:v0=.int .u8 n:=by
    have:=hC 0 _ _ rfl rfl;cases this
    rfl
   subst c0;obtain⟨c,rfl⟩:∃c:Nat,n=c:=⟨n.toNat,by omega⟩;refine(sign_calls c (by omega) w).mono ?_
   rintro e w' ⟨rfl,hb⟩
   refine⟨_,_,rfl,?_,hb,.b _⟩;rw[Ycj]
   rfl
  ·cases h
 ·cases h
abbrev tyW:Ty:=.cons (.int .i64) (.cons .str (.cons (.int .i64) .nil))
end Go.Proofs.YtoppjelfghopnaaGreatDoor
end
section
namespace Go.Ab
class Zkz (T:Tbl):Prop where
end Go.Ab
end
section
namespace Go.Ab
end Go.Ab
end
section
namespace Go.Ab
section
variable{T:Tbl}
theorem zhx(G:Nat):∀y:Nat×Nat,(y.1<18446744073709551616∧y.2<18446744073709551616∧Nat.gcd y.1 y.2=G) →
  Zw T 0 0 (.norm false [0]) l198_0 ⟨[(0,u64 y.1),(1,u64 y.2)],[],2⟩=some (.n,⟨[(0,u64 G)],[],2⟩):=by
 refine zau (fun y:Nat×Nat=>⟨[(0,u64 y.1),(1,u64 y.2)],[],2⟩) _ (fun y=>y.2) _ ?_
 rintro⟨x,y⟩ ⟨hx,hy,hG⟩
 simp only at hx hy hG ⊢;by_cases h:y=0
 ·right;subst h;rw[Nat.gcd_zero_right]at hG;subst hG;constructor<;>simp -implicitDefEqProofs[l198_0]
 ·left;have hm:=Ybd x (Yaf h);refine⟨(y,x%y),⟨hy,by simp only;omega,by simp only;rw[←hG,Ycf y,←Nat.gcd_rec,Ycf]⟩,hm,?_,trivial⟩;simp -implicitDefEqProofs[l198_0,h]
end
section
variable{T:Tbl}[Zn T]
theorem zlg(x y:Nat)(hx:x<18446744073709551616)(hy:y<18446744073709551616):Zb T 198 [u64 x,u64 y]=some (u64 (Nat.gcd x y)):=by
 have h:=zhx (T:=T) (Nat.gcd x y) (x,y) ⟨hx,hy,rfl⟩;simp only at h;rw[zab Zn.h198 rfl,b198];simp -implicitDefEqProofs[h]
theorem zp7(a:List UInt32):Zb T 200 [.sl (Za (ofN (val a))) .an]=some (.b (decide (val a=1))):=by
 rw[zab Zn.h200 rfl,b200];generalize val a=n;by_cases h0:n=0
 ·subst h0;simp -implicitDefEqProofs
 ·rw[zhm h0];by_cases h1:n/4294967296=0
  ·have e:ofN (n/4294967296)=[]:=za2.2 h1;have e2:n%4294967296=n:=Yt (by omega);simp -implicitDefEqProofs[e,Za,zc4,e2]
  ·have h2:¬ ofN (n/4294967296)=[]:=fun e=>h1 (za2.1 e);have h3:¬ n=1:=by rintro rfl;simp at h1
   have h4:¬ ((ofN (n/4294967296)).length:Int)+1=1:=by
    have:=Ycu.2 h2;omega
   simp -implicitDefEqProofs[Za,h3,h4]
end
section
variable{T:Tbl}[Zp T][Zv T][Zy T][Zr T][Zu T][Zn T]
theorem zv5(G:Nat):∀y:List UInt32×List UInt32,(y.1.length≤90000∧y.2.length≤90000∧(∃n,y.1=ofN n)∧(∃n,y.2=ofN n)∧Nat.gcd (val y.1) (val y.2)=G) →
  ∃r,(∃a b:List UInt32,r=(Ex.n,(⟨[(0,.sl (Za a) .an),(1,.sl (Za b) .an)],[],2⟩:St))∧a.length≤90000∧b.length≤2∧(∃n,a=ofN n)∧(∃n,b=ofN n)∧Nat.gcd (val a) (val b)=G) ∧
   Zw T 0 0 (.norm false [0,1]) l199_0 ⟨[(0,.sl (Za y.1) .an),(1,.sl (Za y.2) .an)],[],2⟩=some r:=by
 refine za4 (fun y:List UInt32×List UInt32=>⟨[(0,.sl (Za y.1) .an),(1,.sl (Za y.2) .an)],[],2⟩) _ (fun y=>val y.2) _ ?_
 rintro⟨a,b⟩ ⟨ha,hb,hk,hn,hG⟩
 simp only at ha hb hk hn hG ⊢;by_cases h:2<b.length
 ·left;have h':(2:Int)<b.length:=by omega
  have hv:val b≠0:=by
   obtain⟨n,rfl⟩:=hn;rw[zae]
   rintro rfl
   simp at h
  have hd:=ze5 (T:=T) a b ha hb;rw[if_neg hv]at hd;have hm:=Ybd (val a) (Yaf hv);refine⟨(b,ofN (val a%val b)),⟨hb,?_,hn,⟨_,rfl⟩,?_⟩,?_,?_⟩
  ·have:=za7 (Ydv hm);have:=zad b;simp only;omega
  ·simp only;rw[zae,←hG,Ycf (val b),←Nat.gcd_rec,Ycf]
  ·simp only[zae];exact hm
  ·clear hG hm hn hv hk;simp -implicitDefEqProofs[l199_0,h',hd]
 ·right;have h':¬ (2:Int)<b.length:=by omega
  refine⟨_,⟨a,b,rfl,ha,by omega,hk,hn,hG⟩,?_,?_⟩<;>clear hG<;>simp -implicitDefEqProofs[l199_0,h']
theorem zna(a b:List UInt32)(ha:a.length≤90000)(hb:b.length≤90000):Zb T 199 [.sl (Za a) .an,.sl (Za b) .an]=some (.sl (Za (ofN (Nat.gcd (val a) (val b)))) .an):=by
 have h1:=za5 (T:=T) a (by omega);have h2:=za5 (T:=T) b (by omega);have la:=zad a;have lb:=zad b;obtain⟨G,hG⟩:∃G,G=Nat.gcd (val a) (val b):=⟨_,rfl⟩;obtain⟨_,⟨x,y,rfl,hx,hy,⟨m,rfl⟩,⟨n,rfl⟩,hg⟩,hr⟩:=zv5 (T:=T) G (ofN (val a),ofN (val b)) ⟨by simp only;omega,by simp only;omega,⟨_,rfl⟩,⟨_,rfl⟩,by simp only[zae];exact hG.symm⟩;simp only at hr;rw[zae,zae]at hg;rw[zab Zn.h199 rfl,b199,←hG];clear hG;by_cases h0:n=0
 ·subst h0;rw[Nat.gcd_zero_right]at hg;subst hg;simp -implicitDefEqProofs[h1,h2,hr]
 ·have hv:val (ofN n)≠0:=by rw[zae];exact h0
  have hd:=ze5 (T:=T) (ofN m) (ofN n) hx (by omega);rw[if_neg hv,zae,zae]at hd;have hn64:n<18446744073709551616:=by
   have:=zaw (ofN n);rw[zae]at this;exact Yo this (Yr (by decide) hy)
  have hm:=Ybd m (Yaf h0);have s1:=zlq (T:=T) (ofN n) (by omega);rw[zae,if_pos hn64]at s1;have s2:=zlq (T:=T) (ofN (m%n)) (by have:=za7 (Ydv hm);omega);rw[zae,if_pos (by omega)]at s2;have s3:=zlg (T:=T) n (m%n) hn64 (by omega);have e:Nat.gcd n (m%n)=G:=by rw[←hg,Ycf n,←Nat.gcd_rec,Ycf]
  rw[e]at s3;have s4:=zdk (T:=T) G (by
   rw[←hg];exact Yc3 (Nat.gcd_le_right _ (Yaf h0)) hn64)
  have hl:¬ ofN n=[]:=fun e=>h0 (za2.1 e);simp -implicitDefEqProofs[h1,h2,hr,hd,s1,s2,s3,s4,hl,h0]
theorem zhy(a b:List UInt32)(ha:a.length≤90000)(hb:b.length≤90000):Zb T 201 [.sl (Za a) .an,.sl (Za b) .an] =
  some (.tup [.sl (Za (ofN (val a/Nat.gcd (val a) (val b)))) .an,.sl (Za (ofN (val b/Nat.gcd (val a) (val b)))) .an]):=by
 have hg:=zna (T:=T) a b ha hb;have ho:=zp7 (T:=T) (ofN (Nat.gcd (val a) (val b)));rw[zae]at ho;have ll:(ofN (Nat.gcd (val a) (val b))).length≤90000:=by
  by_cases h:val a=0
  ·rw[h,Nat.gcd_zero_left];have:=zad b;omega
  ·have:=za7 (Nat.gcd_le_left (val b) (Yaf h));have:=zad a;omega
 have d1:=ze5 (T:=T) a (ofN (Nat.gcd (val a) (val b))) ha ll;have d2:=ze5 (T:=T) b (ofN (Nat.gcd (val a) (val b))) hb ll;have n1:=za5 (T:=T) a (by omega);have n2:=za5 (T:=T) b (by omega);rw[zae]at d1 d2;rw[zab Zn.h201 rfl,b201];by_cases h0:Nat.gcd (val a) (val b)=0
 ·rw[h0]at hg ⊢;simp only[zj3]at hg;simp -implicitDefEqProofs[hg]
 ·rw[if_neg h0]at d1 d2;have hl:¬ ofN (Nat.gcd (val a) (val b))=[]:=fun e=>h0 (za2.1 e);by_cases h1:Nat.gcd (val a) (val b)=1
  ·rw[h1]at hg ho hl ⊢;simp -implicitDefEqProofs[hg,ho,n1,n2,hl]
  ·generalize Nat.gcd (val a) (val b)=g at *
   simp -implicitDefEqProofs[hg,ho,d1,d2,hl,h0,h1]
end
end Go.Ab
end
section
namespace Go.Ab
section
variable{T:Tbl}[Zf T]
theorem zay(n:Bool)(k:Nat):Zb T 55 [.b n,.sl (Za (ofN k)) .an]=some (ez (sg n k)):=by
 rw[zab Zf.h55 rfl,b55,z5j];have h:(0<(ofN k).length)=(k≠0):=by
  rw[eq_iff_iff,Ycu];exact not_congr za2
 cases n<;>simp -implicitDefEqProofs[h]
end
section
variable{T:Tbl}[Zp T][Zf T]
theorem zq1(n:Bool)(a:List UInt32)(ha:a.length≤1000000):Zb T 38 [wh n a]=some (ez (wv n a)):=by
 have h:=za5 (T:=T) a (by omega);have hs:=zay (T:=T) n (val a);rw[zab Zf.h38 rfl,b38];simp -implicitDefEqProofs[h,hs,wv]
end
section
variable{T:Tbl}[Zp T][Zf T]
theorem zuy(n:Bool)(a:List UInt32)(ha:a.length≤1000000):Zb T 40 [wh n a]=some (ez (-wv n a)):=by
 have h:=za5 (T:=T) a (by omega);have hs:=zay (T:=T) (!n) (val a);rw[z5k]at hs;rw[zab Zf.h40 rfl,b40];simp -implicitDefEqProofs[h,hs,wv]
end
section
variable{T:Tbl}[Zp T][Zf T]
theorem ziu(n m:Bool)(a b:List UInt32)(ha:a.length≤90000)(hb:b.length≤90000):Zb T 23 [wh n a,wh m b]=some (ez (wv n a+wv m b)):=by
 rw[zab Zf.h23 rfl,b23];by_cases h:n=m
 ·subst h;have hn:=zo2 (T:=T) [a,b] (by simp) (by simp;omega);have hs:=zay (T:=T) n (val a+val b);rw[znu]at hs;have e:lls [a,b]=[[.sl (Za a) .an],[.sl (Za b) .an]]:=rfl;have e2:Zdd [a,b]=val a+val b:=by simp[Zdd]
  rw[e,e2]at hn;simp -implicitDefEqProofs[hn,hs,wv]
 ·have hg:=zz0 (T:=T) a b (by omega) (by omega);by_cases hlt:val a<val b
  ·have hs:=zay (T:=T) m (val b-val a);rw[zu5 h hlt]at hs;simp -implicitDefEqProofs[h,hg,hlt,zc2,hs,wv]
  ·have hs:=zay (T:=T) n (val a-val b);rw[zu6 h hlt]at hs;simp -implicitDefEqProofs[h,hg,hlt,zc2,hs,wv]
end
section
variable{T:Tbl}[Zp T][Zf T]
theorem zq2(n m:Bool)(a b:List UInt32)(ha:a.length≤90000)(hb:b.length≤90000):Zb T 25 [wh n a,wh m b]=some (ez (wv n a-wv m b)):=by
 obtain⟨z,hz⟩:∃z,z=-wv m b:=⟨_,rfl⟩;have h1:=zuy (T:=T) m b (by omega);have hl:=zc9 m b;rw[←zhq,←hz]at hl;have h2:=ziu (T:=T) n (decide (z<0)) a (ofN z.natAbs) (by omega) (by omega);have e:wv n a-wv m b=wv n a+z:=by omega
 rw[zj5,←e]at h2;rw[←hz]at h1;rw[zab Zf.h25 rfl,b25];simp -implicitDefEqProofs[h1,h2]
end
section
variable{T:Tbl}[Zv T][Zf T]
theorem zuz(n m:Bool)(a b:List UInt32)(ha:a.length≤100000)(hb:b.length≤100000):Zb T 27 [wh n a,wh m b]=some (ez (wv n a*wv m b)):=by
 have h1:=zf6 (T:=T) a b ha hb;have hs:=zay (T:=T) (n != m) (val a*val b);rw[z5l]at hs;rw[zab Zf.h27 rfl,b27];simp -implicitDefEqProofs[h1,hs,wv]
end
section
variable{T:Tbl}[Zp T][Zf T]
theorem ziv(n:Bool)(a:List UInt32)(ha:a.length≤1000000):Zb T 37 [wh n a]=some (.i .i64 (sgI (wv n a))):=by
 have h1:=zdx (T:=T) a (by omega);rw[zab Zf.h37 rfl,b37];unfold wv;rw[z5m];by_cases h:val a=0
 ·simp -implicitDefEqProofs[h1,h]
 ·cases n<;>simp -implicitDefEqProofs[h1,h]
end
section
variable{T:Tbl}[Zp T][Zf T]
theorem zq3(n m:Bool)(a b:List UInt32)(ha:a.length≤90000)(hb:b.length≤90000):Zb T 36 [wh n a,wh m b]=some (.i .i64 (sgI (wv n a-wv m b))):=by
 have h1:=zq2 (T:=T) n m a b ha hb;have hl:=zcb (x:=wv n a) (y:=-wv m b) (L:=90000) (by have:=zc9 n a;omega) (by rw[zhq];have:=zc9 m b;omega);rw[←Int.sub_eq_add_neg]at hl;have h2:=ziv (T:=T) (decide (wv n a-wv m b<0)) (ofN (wv n a-wv m b).natAbs) (show (ofN (wv n a-wv m b).natAbs).length≤1000000 by omega);rw[zj5]at h2;rw[zab Zf.h36 rfl,b36];simp -implicitDefEqProofs[h1,h2]
end
section
variable{T:Tbl}[Zp T][Zf T]
theorem zw7(k:Int)(h1:-9223372036854775808≤k)(h2:k<9223372036854775808):Zb T 41 [.i .i64 k]=some (ez k):=by
 rw[zab Zf.h41 rfl,b41];by_cases h:k<0
 ·have hn:=zdk (T:=T) k.natAbs (by omega);have hs:=zay (T:=T) true k.natAbs;have e:sg true k.natAbs=k:=by simp[sg];omega
  have e2:Zh6 0 (k%18446744073709551616).toNat=k.natAbs:=by unfold Zh6;omega
  rw[e]at hs;simp -implicitDefEqProofs[h,e2,hn,hs]
 ·have hn:=zdk (T:=T) k.natAbs (by omega);have hs:=zay (T:=T) false k.natAbs;have e:sg false k.natAbs=k:=by simp[sg];omega
  have e2:(k%18446744073709551616).toNat=k.natAbs:=by omega
  rw[e]at hs;simp -implicitDefEqProofs[h,e2,hn,hs]
end
section
variable{T:Tbl}[Zp T][Za0 T][Zf T]
theorem zq4(n:Bool)(a:List UInt32)(ha:a.length≤1000):Zb T 34 [wh n a]=some (.s (Z7 (wv n a))):=by
 have h1:Zb T 68 [.sl (Za a) .an]=some (.s (Zs (val a))):=by rw[p68,zmb a ha]
 have h2:=ziv (T:=T) n a (by omega);have h3:=zel ha;have h4:1+(Zs (val a)).length≤9223372036854775807:=by omega
 rw[zab Zf.h34 rfl,b34];unfold Z7;rw[zya];by_cases h:wv n a<0
 ·have h5:sgI (wv n a)=-1:=by unfold sgI;rw[if_pos h]
  simp -implicitDefEqProofs[h1,h2,h,h5,h4]
 ·have h5:¬ sgI (wv n a)<0:=by unfold sgI;rw[if_neg h];split<;>omega
  simp -implicitDefEqProofs[h1,h2,h,h5]
end
section
variable{T:Tbl}[Zv T][Zq T][Zf T]
theorem zq5(l:List UInt8)(hl:l.length≤1000000):Zb T 32 [.s l]=some (.tup (if 0≤Zbd l then [wh false [],.agg [.i .i64 1,.i .i64 0,.i .i64 0,.i .i64 (Zbd l+Zcx l)]]
  else [ez (Zap l),.agg [.i .i64 0,.i .i64 0,.i .i64 0,.i .i64 0]])):=by
 have h1:=zs4 (T:=T) l hl;obtain⟨l',hl'⟩:∃l',l'=if l.head? = some 45 then l.tail else l:=⟨_,rfl⟩
 have hl2:l'.length≤1000000:=by
  rw[hl'];split
  ·simp;omega
  ·exact hl
 have h2:=zg6 (T:=T) l' hl2;have hs:=zay (T:=T) (l.head? = some 45) (rd l');have hm:(l.length:Int)-l'.length=Zcx l:=by
  rw[hl'];unfold Zcx;split
  ·rename_i h;cases l with
   | nil=>cases h
   | cons c r=>simp;omega
  ·omega
 unfold Zbd Zap;rw[←hl']at h1 ⊢;have hw1:IntKind.wrap .i64 ((l.length:Int)-l'.length)=Zcx l:=by rw[hm];exact zac _ (by unfold Zcx;split<;>omega)
 rw[zab Zf.h32 rfl,b32];have hwb:Z0 l'≤60:=by
  unfold Z0;split
  ·omega
  ·exact zhn 0 l' (by omega)
 by_cases h0:0≤Z0 l'
 ·have hw2:IntKind.wrap .i64 (Z0 l'+Zcx l)=Z0 l'+Zcx l:=zac _ (by unfold Zcx;split<;>omega);simp -implicitDefEqProofs[h1,h2,h0,hw1,hw2,zm9]
 ·simp -implicitDefEqProofs[h1,h2,h0,hs]
end
end Go.Ab
end
section
namespace Go.Ab
section
variable{T:Tbl}[Zp T][Zv T][Zy T][Zr T][Zu T][Zf T][Zn T][Zz T]
theorem znc(p q:Int)(hp:(ofN p.natAbs).length≤90000)(hq:(ofN q.natAbs).length≤90000):Zb T 23 [ez p,ez q]=some (ez (p+q)):=by
 grind[ziu,zj5]
theorem znd(p q:Int)(hp:(ofN p.natAbs).length≤90000)(hq:(ofN q.natAbs).length≤90000):Zb T 36 [ez p,ez q]=some (.i .i64 (sgI (p-q))):=by
 grind[zq3,zj5]
theorem zqa{x d:Nat}(h:d≠0):decide (x/Nat.gcd x d≠0)=decide (x≠0):=by
 obtain⟨k,hk⟩:=Nat.gcd_dvd_left x d
 grind[Nat.mul_div_cancel_left,Nat.mul_eq_zero]
theorem zdi(n:Bool)(a d:List UInt32)(ha:a.length≤90000)(hd:d.length≤90000)(h:val d≠0) :
  Zb T 202 [wh n a,.sl (Za d) .an]=some (efz (fz (mkRat (wv n a) (val d)))):=by
 have e:=zadp n (val a) h
 change fz (mkRat (wv n a) (val d))=_ at e
 have hc:=zhy (T:=T) a d ha hd;have hl:(ofN (val a/Nat.gcd (val a) (val d))).length≤1000000:=by
  have:=za7 (Ybs (val a) (Nat.gcd (val a) (val d)));have:=zad a;omega
 have hn:=zq1 (T:=T) n _ hl;have e2:wv n (ofN (val a/Nat.gcd (val a) (val d)))=sg n (val a/Nat.gcd (val a) (val d)):=by unfold wv;rw[zae]
 rw[e2,z5j,zqa h]at hn;rw[e,zab Zz.h202 rfl,b202];simp -implicitDefEqProofs[hc,hn]
theorem zne(n:Bool)(a d:List UInt32)(ha:a.length≤10000)(hd:d.length≤10000)(h:val d≠0) :
  Zb T 202 [wh n a,.sl (Za d) .an]=some (efz (fz (mkRat (wv n a) (val d)))):=zdi (T:=T) n a d (Yg ha (by decide)) (Yg hd (by decide)) h
theorem zcn(x:Fz)(hx:fsz x≤100000):∃y:Fz,val y.2.2≠0∧fv y=fv x∧fsz y≤max 1 (fsz x)∧Zb T 203 [efz x]=some (.tup [wh y.1 y.2.1,.sl (Za y.2.2) .an]):=by
 obtain⟨n,a,d⟩:=x;have h1:=zh0 (n,a,d);have h2:=zh1 (n,a,d);simp only at h1 h2;have hz:=zdx (T:=T) d (by omega);by_cases h:val d=0
 ·refine⟨(false,[],[1]),by simp,?_,?_,?_⟩
  ·unfold fv;simp only[h,Rat.mkRat_zero]
   rfl
  ·show 1≤_;omega
  ·have ho:=zdk (T:=T) 1 (by decide);rw[zem]at ho;rw[zab Zz.h203 rfl,b203];simp -implicitDefEqProofs[hz,h,ho]
 ·refine⟨(n,a,d),h,rfl,by omega,?_⟩;rw[zab Zz.h203 rfl,b203];simp -implicitDefEqProofs[hz,h]
theorem zs9(k:Int)(h1:-9223372036854775808≤k)(h2:k<9223372036854775808):Zb T 205 [.i .i64 k]=some (efz (fz (k:Rat))):=by
 have hw:=zw7 (T:=T) k h1 h2;have ho:=zdk (T:=T) 1 (by decide);have e:fz (k:Rat)=(decide (k<0),ofN k.natAbs,ofN 1):=rfl;rw[e,zab Zz.h205 rfl,b205];simp -implicitDefEqProofs[hw,ho]
theorem ze1:Zb T 205 [.i .i64 0]=some (efz (fz 0)):=zs9 0 (by decide) (by decide)
theorem zv9:Zb T 205 [.i .i64 1]=some (efz (fz 1)):=zs9 1 (by decide) (by decide)
theorem zqb(x:Fz)(hx:fsz x≤90000):Zb T 207 [efz x]=some (efz (fz (fv x))):=by
 obtain⟨⟨n,a,d⟩,h1,h2,h3,hp⟩:=zcn (T:=T) x (by omega);have la:=zh0 (n,a,d);have ld:=zh1 (n,a,d);simp only at la ld;have hc:=zdi (T:=T) n a d (by omega) (by omega) h1;rw[←h2]
 change _=some (efz (fz (mkRat (wv n a) (val d))))
 rw[zab Zz.h207 rfl,b207];simp -implicitDefEqProofs[hp,hc]
theorem zlk(x:Fz)(hx:fsz x≤10000):Zb T 207 [efz x]=some (efz (fz (fv x))):=zqb (T:=T) x (Yg hx (by decide))
theorem zc1(n:Bool)(a d:List UInt32)(ha:a.length≤90000)(hd:d.length≤90000):Zb T 210 [wh n a,.sl (Za d) .an]=some (ez (wv n a*(val d:Int))):=by
 have hm:=zuz (T:=T) n false a d (by omega) (by omega);rw[show wv false d=(val d:Int) from rfl]at hm;rw[zab Zz.h210 rfl,b210];simp -implicitDefEqProofs[hm]
theorem zta(x x':Fz)(hx:fsz x≤30000)(hx':fsz x'≤30000):Zb T 211 [efz x,efz x']=some (.i .i64 (sgQ (fv x-fv x'))):=by
 obtain⟨⟨n,a,d⟩,h1,h2,h3,hp⟩:=zcn (T:=T) x (by omega);obtain⟨⟨m,b,e⟩,h1',h2',h3',hp'⟩:=zcn (T:=T) x' (by omega);have la:=zh0 (n,a,d);have ld:=zh1 (n,a,d);have lb:=zh0 (m,b,e);have le:=zh1 (m,b,e);simp only at la ld lb le;have c1:=zc1 (T:=T) n a e (by omega) (by omega);have c2:=zc1 (T:=T) m b d (by omega) (by omega);have l1:(ofN (wv n a*(val e:Int)).natAbs).length≤60000:=by
  have:=zbi (x:=wv n a) (y:=(val e:Int)) (L:=30000) (M:=30000) (Yg (zc9 n a) (by omega)) (Yg (zc9 false e) (by omega));omega
 have l2:(ofN (wv m b*(val d:Int)).natAbs).length≤60000:=by
  have:=zbi (x:=wv m b) (y:=(val d:Int)) (L:=30000) (M:=30000) (Yg (zc9 m b) (by omega)) (Yg (zc9 false d) (by omega));omega
 have e1:sgQ (fv x-fv x')=sgI (wv n a*(val e:Int)-wv m b*(val d:Int)):=by
  rw[←h2,←h2',Rat.sub_eq_add_neg];unfold fv;rw[Rat.neg_mkRat,Rat.mkRat_add_mkRat _ _ h1 h1',z5q (Nat.mul_ne_zero h1 h1'),Int.neg_mul]
  rfl
 generalize wv n a*(val e:Int)=z1 at *
 generalize wv m b*(val d:Int)=z2 at *
 have c3:=znd (T:=T) z1 z2 (by omega) (by omega);rw[e1,zab Zz.h211 rfl,b211];simp -implicitDefEqProofs[hp,hp',c1,c2,c3]
theorem zqc(x x':Fz)(hx:fsz x≤30000)(hx':fsz x'≤30000):Zb T 212 [efz x,efz x']=some (.b (decide (fv x=fv x'))):=by
 have hc:=zta (T:=T) x x' hx hx';have e:(sgQ (fv x-fv x') == 0)=decide (fv x=fv x'):=by
  grind[zxe]
 rw[zab Zz.h212 rfl,b212];simp -implicitDefEqProofs[hc,e]
theorem ze2(x x':Fz)(hx:fsz x≤1000)(hx':fsz x'≤1000):Zb T 212 [efz x,efz x']=some (.b (decide (fv x=fv x'))):=zqc (T:=T) x x' (Yg hx (by decide)) (Yg hx' (by decide))
theorem ztb(x x':Fz)(hx:fsz x≤30000)(hx':fsz x'≤30000):Zb T 215 [efz x,efz x']=some (efz (fz (fv x+fv x'))):=by
 obtain⟨⟨n,a,d⟩,h1,h2,h3,hp⟩:=zcn (T:=T) x (by omega);obtain⟨⟨m,b,e⟩,h1',h2',h3',hp'⟩:=zcn (T:=T) x' (by omega);have la:=zh0 (n,a,d);have ld:=zh1 (n,a,d);have lb:=zh0 (m,b,e);have le:=zh1 (m,b,e);simp only at la ld lb le;have c1:=zc1 (T:=T) n a e (by omega) (by omega);have c2:=zc1 (T:=T) m b d (by omega) (by omega);have c4:=zf6 (T:=T) d e (by omega) (by omega);have l1:(ofN (wv n a*(val e:Int)).natAbs).length≤60000:=by
  have:=zbi (x:=wv n a) (y:=(val e:Int)) (L:=30000) (M:=30000) (Yg (zc9 n a) (by omega)) (Yg (zc9 false e) (by omega));omega
 have l2:(ofN (wv m b*(val d:Int)).natAbs).length≤60000:=by
  have:=zbi (x:=wv m b) (y:=(val d:Int)) (L:=30000) (M:=30000) (Yg (zc9 m b) (by omega)) (Yg (zc9 false d) (by omega));omega
 have l3:(ofN (val d*val e)).length≤60000:=by
  have:=zc5 (x:=val d) (y:=val e) (L:=30000) (M:=30000) (Yg (zad d) (by omega)) (Yg (zad e) (by omega));omega
 have e1:fv x+fv x'=mkRat (wv n a*(val e:Int)+wv m b*(val d:Int)) (val d*val e):=by
  rw[←h2,←h2'];exact Rat.mkRat_add_mkRat _ _ h1 h1'
 have hne:=Nat.mul_ne_zero h1 h1';generalize wv n a*(val e:Int)=z1 at *
 generalize wv m b*(val d:Int)=z2 at *
 generalize val d*val e=D at *
 have c3:=znc (T:=T) z1 z2 (by omega) (by omega);have c5:=zdi (T:=T) (decide (z1+z2<0)) (ofN (z1+z2).natAbs) (ofN D) (by have:=zcb l1 l2;omega) (by omega) (by rw[zae];omega);rw[zj5,zae,←e1]at c5;rw[zab Zz.h215 rfl,b215];simp -implicitDefEqProofs[hp,hp',c1,c2,c3,c4,c5]
theorem zwa(x x':Fz)(hx:fsz x≤1000)(hx':fsz x'≤1000):Zb T 215 [efz x,efz x']=some (efz (fz (fv x+fv x'))):=ztb (T:=T) x x' (Yg hx (by decide)) (Yg hx' (by decide))
end
end Go.Ab
end
section
namespace Go.Ab
def nrm(l:List Fz):List Fz:=l.map fun x=>fz (fv x)
def fzs(l:List Rat):List Fz:=l.map fz
theorem ztx{m:List Fz}{n:Nat}(h:m.length=n)(x:Fz):wkL (Zi (List.take n m)++[Zeb x])=Zi (m++[x]):=by
 rw[Yb (by omega),zmf,zva]
theorem zjs{α β:Type}(l:List α)(f:α→β){i:Nat}(h:i<l.length):(l.take (i+1)).map f=(l.take i).map f++[f (l[i]'h)]:=by
 grind[List.take_succ_eq_append_getElem]
@[simp] theorem zty:Zo []=[]:=rfl
def Zaj(q:Rat):List UInt8:=if q.den=1 then Z7 q.num else Z7 q.num++47::Zs q.den
section
variable{T:Tbl}[Zp T][Zv T][Zy T][Zr T][Zu T][Za0 T][Zf T][Zn T][Zz T][Zat T][Zby T]
theorem zhc(x:Fz)(hx:fsz x≤900):Zb T 251 [efz x]=some (.s (Zaj (fv x))):=by
 have h1:=zlk (T:=T) x (by omega);have hs:=zme (x:=x) (L:=900) hx (by decide);generalize fv x=q at *
 have l1:=ziy q;have l2:=zhr q;have e':fz q=(decide (q.num<0),ofN q.num.natAbs,ofN q.den):=rfl;have h2:=zq4 (T:=T) (decide (q.num<0)) (ofN q.num.natAbs) (by omega);rw[zj5]at h2;have h3:=zdk (T:=T) 1 (by decide);have h4:=zfk (T:=T) (ofN q.den) (ofN 1) (by omega) (by rw[zem];decide);rw[zae,zae]at h4;have h5:Zb T 68 [.sl (Za (ofN q.den)) .an]=some (.s (Zs q.den)):=by
  rw[p68,zmb _ (by omega),zae]
 have t1:(Zs q.den).length≤10000:=by
  grind[zel,zae]
 have t2:(Z7 q.num).length≤20000:=by
  grind[zel,zae,Z7]
 rw[zab Zby.h251 rfl,b251];rw[e']at h1;unfold Zaj;obtain⟨D,hD⟩:∃D,D=ofN q.den:=⟨_,rfl⟩;obtain⟨A,hA⟩:∃A,A=ofN q.num.natAbs:=⟨_,rfl⟩;obtain⟨O,hO⟩:∃O,O=ofN 1:=⟨_,rfl⟩;by_cases hd:q.den=1
 ·have hc:Zel q.den 1=0:=by rw[hd];rfl
  rw[hc]at h4;rw[if_pos hd];simp -implicitDefEqProofs[h1,h2,h3,h4]
 ·have hc:Zel q.den 1=1:=by
   unfold Zel;have:=q.den_pos;omega
  rw[hc]at h4;rw[if_neg hd];have b1:1+(Zs q.den).length≤9223372036854775807:=by omega
  have b2:(Z7 q.num).length+((Zs q.den).length+1)≤9223372036854775807:=by omega
  simp -implicitDefEqProofs[h1,h2,h3,h4,h5,b1,b2]
def Zol(n i:Nat):St:=⟨[(3,.bs (.loc 9) 1 3 0 n),(10,.i .i64 n),(11,.i .i64 i)],[(.loc 9,⟨1,.own,3,Zi (List.replicate i (fz 0))++List.replicate (n-i) [.b false,.sl [] .an,.sl [] .an]⟩)],3⟩
def Zom(l:List Fz)(i:Nat):St:=⟨[(3,.bs (.loc 3) 1 3 0 i),(6,.sl (Zi l) .an),(7,.i .i64 l.length),(8,.i .i64 i)],[(.loc 3,⟨1,.own,3,Zi (nrm (l.take i))⟩)],3⟩
def scl(c:Rat)(l:List Fz):List Fz:=l.map fun x=>fz (c*fv x)
def Zon(c:Fz)(l:List Fz)(i:Nat):St:=⟨[(2,.ptr (.loc 2) 1 3 0 0),(5,.bs (.loc 5) 2 3 0 i),(8,.sl (Zi l) .an),(9,.i .i64 l.length),(10,.i .i64 i)],[(.loc 2,⟨1,.str,3,[Zeb c]⟩),(.loc 5,⟨2,.own,3,Zi (scl (fv c) (l.take i))⟩)],4⟩
def Zh0:List Fz→List Fz→Rat
 | x::a,y::b=>fv x*fv y+Zh0 a b
 | _,_=>0
def Zje(a b:List Fz)(i:Nat):Rat:=Zh0 (a.take i) (b.take i)
theorem zlx:∀(a b:List Fz) (x y:Fz),a.length=b.length→Zh0 (a++[x]) (b++[y])=Zh0 a b+fv x*fv y
 | [],[],x,y,_=>by simp[Zh0,Rat.add_zero,Rat.zero_add]
 | u::a,v::b,x,y,h=>by
  have ih:=zlx a b x y (by simpa using h);simp only[Ya2,Zh0,ih,Rat.add_assoc]
theorem z5a{a b:List Fz}(hab:a.length=b.length){i:Nat}(hi:i<a.length):Zje a b (i+1)=Zje a b i+fv (a[i]'hi)*fv (b[i]'(by omega)):=by
 grind[Zje,List.take_succ_eq_append_getElem,zlx]
abbrev Zd9:List AV:=[.b false,.sl [] .an,.sl [] .an]
def Zoo(a b:List Fz)(i:Nat):St:=⟨[(1,.sl (Zi b) .an),(4,.ptr (.loc 4) 1 3 0 0),(6,.ptr (.loc 6) 2 3 0 0),(16,.sl (Zi a) .an),(17,.i .i64 a.length),(18,.i .i64 i)],
 [(.loc 4,⟨1,.str,3,[Zd9]⟩),(.loc 6,⟨2,.str,3,[Zeb (fz (Zje a b i))]⟩)],4⟩
def Zil(a b:List Fz)(i:Nat):St:=⟨[(0,.sl (Zi a) .an),(1,.sl (Zi b) .an),(12,.i .i64 a.length),(13,.i .i64 i)],[],2⟩
theorem ztz(a b:List Fz)(hab:a.length=b.length)(hl:a.length≤1000)(ha:∀x∈a,fsz x≤1000)(hb:∀x∈b,fsz x≤1000) :
  Zw T 0 0 (.norm false []) l265_0 (Zil a b 0)=if (a.drop 0).map fv=(b.drop 0).map fv then some (.n,⟨[],[],2⟩) else some (.r,⟨[(4,.b false)],[],2⟩):=by
 refine zbq (Zil a b) a.length (fun i=>if (a.drop i).map fv=(b.drop i).map fv then some (.n,⟨[],[],2⟩) else some (.r,⟨[(4,.b false)],[],2⟩)) (fun i hi=>?_) ?_
 ·have hib:i<b.length:=by omega
  have hws:=ze0 hi (by omega);have c:=ze2 (T:=T) (a[i]'hi) (b[i]'hib) (ha _ (Yaa hi)) (hb _ (Yaa hib));have hib':(i:Int)<b.length:=by omega
  have key:((a.drop i).map fv=(b.drop i).map fv)↔(fv (a[i]'hi)=fv (b[i]'hib)∧(a.drop (i+1)).map fv=(b.drop (i+1)).map fv):=by
   grind[List.drop_eq_getElem_cons]
  by_cases he:fv (a[i]'hi)=fv (b[i]'hib)
  ·left;refine⟨?_,by grind⟩;unfold Zil;simp -implicitDefEqProofs[l265_0,hi,hws,c,he,hib,hib']
  ·right;rw[if_neg (fun h=>he (key.1 h).1)];unfold Zil;constructor<;>simp -implicitDefEqProofs[l265_0,hi,c,he,hib,hib']
 ·rw[Yar,if_pos (by rw[hab,Yar])];unfold Zil;constructor<;>simp -implicitDefEqProofs[l265_0]
theorem zf7(a b:List Fz)(hl:a.length≤1000)(ha:∀x∈a,fsz x≤1000)(hb:∀x∈b,fsz x≤1000) :
  Zb T 265 [.sl (Zi a) .an,.sl (Zi b) .an]=some (.b (decide (a.map fv=b.map fv))):=by
 rw[zab Zby.h265 rfl,b265];by_cases hab:a.length=b.length
 ·have h:=ztz (T:=T) a b hab hl ha hb;unfold Zil at h;simp at h;have hab':(b.length:Int)=a.length:=by omega
  by_cases he:a.map fv=b.map fv
  ·simp -implicitDefEqProofs[hab',h,he]
  ·simp -implicitDefEqProofs[hab',h,he]
 ·have he:¬ a.map fv=b.map fv:=fun h=>hab (by simpa using congrArg List.length h);have hab':¬ (a.length:Int)=b.length:=by omega
  simp -implicitDefEqProofs[hab',he]
def Z8(l:List Fz):List (List UInt8):=l.map fun x=>Zaj (fv x)
def Zjf(l:List Fz)(i:Nat):St:=⟨[(3,.bs (.loc 3) 1 1 0 i),(6,.sl (Zi l) .an),(7,.i .i64 l.length),(8,.i .i64 i)],[(.loc 3,⟨1,.own,1,Zo (Z8 (l.take i))⟩)],3⟩
theorem zly(l:List Fz)(hl:l.length≤1000)(hw:∀x∈l,fsz x≤400) :
  Zw T 0 0 (.norm false [3]) l274_0 (Zjf l 0)=some (.n,⟨[(3,.bs (.loc 3) 1 1 0 l.length)],[(.loc 3,⟨1,.own,1,Zo (Z8 l)⟩)],3⟩):=by
 refine zb5 (Zjf l) l.length _ (fun i hi=>?_) ?_
 ·have hws:=ze0 hi (by omega);have hn:=zhc (T:=T) (l[i]'hi) (Yg (hw _ (Yaa hi)) (by decide));have e:Z8 (l.take (i+1))=Z8 (l.take i)++[Zaj (fv (l[i]'hi))]:=zjs l _ hi;have hml:(Z8 (l.take i)).length=i:=by simp[Z8];omega
  have hp:=zcp (Z8 (l.take i)) (Zaj (fv (l[i]'hi)));rw[hml]at hp;unfold Zjf;rw[e];have hb:i≤4294967295:=by omega
  simp -implicitDefEqProofs[l274_0,hi,hws,hn,hp,hml,hb]
 ·unfold Zjf;rw[Yb (Yi _)];constructor<;>simp -implicitDefEqProofs[l274_0]
theorem zhd{q:Rat}(h:sz q≤400):(Zaj q).length≤10000:=by
 have key:∀{a:List UInt32},a.length≤400→(Zs (val a)).length≤4000:=by
  intro a ha;obtain⟨K,hK⟩:∃K,K=3999:=⟨_,rfl⟩;have h1:=zaw a;have h2:4294967296^a.length≤(10^10)^a.length:=Ydp (by decide) _;rw[←Yci]at h2;have h3:10^(10*a.length)≤10^(K+1):=Yr (by decide) (by omega);have h4:=zdo (k:=K) (Yo h1 (Yg h2 h3));omega
 grind[ziy,zhr,zae,Z7,Zaj]
theorem zjt(l:List Fz)(hl:l.length≤1000)(hw:∀x∈l,fsz x≤400):Zb T 274 [.sl (Zi l) .an]=some (.s (List.intercalate [44] (Z8 l))):=by
 have h:=zly (T:=T) l hl hw;unfold Zjf at h;have e:Z8 (l.take 0)=[]:=rfl;rw[e]at h;simp only[zty,Yai]at h;have hj:Zb T 183 [.sl (Zo (Z8 l)) .an,.s [44]]=some (.s (List.intercalate [44] (Z8 l))):=by
  grind[p183,zi1,Z8,zhd,zme]
 have ht:List.take l.length (Zo (Z8 l))=Zo (Z8 l):=Yb (by simp[Z8]);have hl2:(Z8 l).length=l.length:=by simp[Z8]
 rw[zab Zby.h274 rfl,b274];simp -implicitDefEqProofs[h,ht,hl2,hj]
end
end Go.Ab
end
section
namespace Go.Ab
@[simp] theorem zdy(l:List Rat):(fzs l).length=l.length:=by simp[fzs]
def Zmd(c:Rat)(acc:List Rat)(r:List Fz):List Rat:=List.zipWith (fun q x=>q+c*fv x) acc r
def Zj1(acc:List Rat)(r:List Fz):List Rat:=List.zipWith (fun q x=>q+fv x) acc r
section
variable{T:Tbl}[Zp T][Zv T][Zy T][Zr T][Zu T][Za0 T][Zf T][Zn T][Zz T][Zat T][Zby T]
def Zop(k j n:Nat)(rest:List (List Fz))(r:List Fz)(L acc:List Rat)(i:Nat):St:=
 ⟨[(4,.bs (.fld (.loc 15) 3) 1 3 0 n),(17,.sl (Z3 rest) .an),(18,.i .i64 k),(19,.i .i64 j),(28,.sl (Zi r) .an),(29,.i .i64 n),(30,.i .i64 i)],
  [(.fld (.loc 15) 3,⟨1,.own,3,Zi (fzs (L.take i++acc.drop i))⟩)],3⟩
def Zoq(n:Nat)(rest:List (List Fz))(acc:List Rat)(j:Nat):St:=
 ⟨[(4,.bs (.fld (.loc 15) 3) 1 3 0 n),(17,.sl (Z3 rest) .an),(18,.i .i64 rest.length),(19,.i .i64 j)],[(.fld (.loc 15) 3,⟨1,.own,3,Zi (fzs ((rest.take j).foldl Zj1 acc))⟩)],3⟩
end
end Go.Ab
end
section
namespace Go.Ab
def Zl5(p:List (Fz×List Fz))(acc:List Rat):List Rat:=p.foldl (fun a q=>Zmd (fv q.1) a q.2) acc
section
variable{T:Tbl}[Zp T][Zv T][Zy T][Zr T][Zu T][Za0 T][Zf T][Zn T][Zz T][Zat T][Zby T]
def Zn2(C:List Fz)(k j n:Nat)(l:List (List Fz))(r:List Fz)(L acc:List Rat)(i:Nat):St:=
 ⟨[(0,.sl (Zi C) .an),(10,.bs (.fld (.loc 40) 9) 1 3 0 n),(11,.i .i64 k),(41,.sl (Z3 l) .an),(42,.i .i64 j),(43,.i .i64 k),(54,.sl (Zi r) .an),(55,.i .i64 n),(56,.i .i64 i)],
  [(.fld (.loc 40) 9,⟨1,.own,3,Zi (fzs (L.take i++acc.drop i))⟩)],3⟩
def Zn3(C:List Fz)(n:Nat)(l:List (List Fz))(acc:List Rat)(k:Nat):St:=
 ⟨[(0,.sl (Zi C) .an),(10,.bs (.fld (.loc 40) 9) 1 3 0 n),(41,.sl (Z3 l) .an),(42,.i .i64 l.length),(43,.i .i64 k)],[(.fld (.loc 40) 9,⟨1,.own,3,Zi (fzs (Zl5 ((C.zip l).take k) acc))⟩)],3⟩
def Zn4(C:List Fz)(l:List (List Fz))(n i:Nat):St:=⟨[(0,.sl (Zi C) .an),(1,.sl (Z3 l) .an),(2,.i .i64 n),(28,.sl (Z3 l) .an),(29,.i .i64 l.length),(30,.i .i64 i)],[],2⟩
end
end Go.Ab
end
section
namespace Go.Ab
abbrev agS(t h:Fz)(y0 y1 f0 f1:List Fz):AV:=
 .agg [.b t.1,.sl (Za t.2.1) .an,.sl (Za t.2.2) .an,.b h.1,.sl (Za h.2.1) .an,.sl (Za h.2.2) .an,.sl (Zi y0) .an,.sl (Zi y1) .an,.sl (Zi f0) .an,.sl (Zi f1) .an]
def Zld(l:List Fz):Rat:=l.foldl (fun p x=>p*fv x) 1
section
variable{T:Tbl}[Zp T][Zv T][Zy T][Zr T][Zu T][Za0 T][Zf T][Zn T][Zz T][Zat T][Zby T][Zkz T]
def Zo3(l:List Fz)(i:Nat):St:=⟨[(2,.ptr (.loc 2) 1 3 0 0),(3,.ptr (.loc 3) 2 3 0 0),(7,.sl (Zi l) .an),(8,.i .i64 l.length),(9,.i .i64 i)],[(.loc 2,⟨1,.str,3,[Zd9]⟩),(.loc 3,⟨2,.str,3,[Zeb (fz (Zld (l.take i)))]⟩)],4⟩
def Zmm(h:Fz)(y0 y1 f0 f1:List Fz):Bool:=decide (0<fv h)&&decide (y0.length≤300)&&decide (y1.length=y0.length)&&decide (f0.length=y0.length)&&decide (f1.length=y0.length)
end
end Go.Ab
end
section
namespace Go.Ab
abbrev tyS:Ty:=.cons tyF (.cons tyF (.cons (.sl tyF) (.cons (.sl tyF) (.cons (.sl tyF) (.cons (.sl tyF) .nil)))))
end Go.Ab
end
section
namespace Go.Ab
class Zjb (T:Tbl):Prop where
end Go.Ab
end
section
namespace Go.Ab
end Go.Ab
end
section
namespace Go.Ab
class Zc4 (T:Tbl):Prop where
end Go.Ab
end
section
namespace Go.Ab
class Zc3 (T:Tbl):Prop where
end Go.Ab
end
section
namespace Go.Ab
class Zcp (T:Tbl):Prop where
end Go.Ab
end
section
namespace Go.Ab
class Zbv (T:Tbl):Prop where
end Go.Ab
end
section
namespace Go.Ab
section
variable{T:Tbl}[Zbv T]
def atW(a:List UInt32)(i:Nat):Nat:=(a[i]?.map UInt32.toNat).getD 0
end
section
variable{T:Tbl}[Zbv T]
def Zl7(a b:List UInt32)(n:Nat)(y:Nat×Nat×List UInt32):St:=
 ⟨[(0,.sl (Za a) .an),(1,.sl (Za b) .an),(5,.i .i64 n),(6,.bs (.loc 16) 1 1 0 n),(7,u64 y.2.1),(8,.i .i64 y.1)],[(.loc 16,⟨1,.own,1,Za y.2.2⟩)],3⟩
def Zl8(a b:List UInt32)(n:Nat)(y:Nat×Nat×List UInt32):St:=
 ⟨[(0,.sl (Za a) .an),(1,.sl (Za b) .an),(5,.i .i64 n),(6,.bs (.loc 17) 1 1 0 n),(7,u64 y.2.1),(8,.i .i64 y.1)],[(.loc 17,⟨1,.own,1,Za y.2.2⟩)],3⟩
end
end Go.Ab
end
section
namespace Go.Ab
class Zbw (T:Tbl):Prop extends Zbv T where
end Go.Ab
end
section
namespace Go.Ab
section
variable{T:Tbl}[Zbw T]
def Znb(P S a b:List UInt32)(y:Nat×Nat×List UInt32):St:=
 ⟨[(0,.sl (Za a) .an),(1,.sl (Za b) .an),(5,.bs (.loc 14) 1 1 0 (P.length+S.length)),(6,.i .i64 P.length),(7,u64 y.2.1),(8,.i .i64 y.1)],[(.loc 14,⟨1,.own,1,Za (P++(y.2.2++S.drop y.1))⟩)],3⟩
end
section
variable{T:Tbl}[Zbw T]
def Zl9(a b:List UInt32)(y:Nat×List UInt32):St:=
 ⟨[(0,.sl (Za a) .an),(1,.sl (Za b) .an),(5,.bs (.loc 14) 1 1 0 (a.length+b.length)),(6,.i .i64 y.1)],[(.loc 14,⟨1,.own,1,Za (y.2++List.replicate (a.length-y.1) 0)⟩)],3⟩
end
end Go.Ab
end
section
namespace Go.Ab
class Zbl (T:Tbl):Prop extends Zbw T where
end Go.Ab
end
section
namespace Go.Ab
section
variable{T:Tbl}[Zbl T]
def Zn6(a:List UInt32)(y:Nat×Nat×List UInt32):St:=
 ⟨[(0,.bs (.bor 0) 0 1 0 a.length),(4,u32 y.2.1),(5,.i .i64 y.1)],[(.bor 0,⟨0,.own,1,Za (y.2.2++a.drop y.1)⟩)],4⟩
end
section
variable{T:Tbl}[Zbl T]
def Zn7(a b:List UInt32)(y:Nat×Nat×List UInt32):St:=
 ⟨[(0,.bs (.bor 0) 0 1 0 a.length),(1,.sl (Za b) .an),(4,u64 y.2.1),(5,.i .i64 y.1)],[(.bor 0,⟨0,.own,1,Za (y.2.2++a.drop y.1)⟩)],4⟩
def Zn8(x i:Nat)(y:Nat):St:=⟨[(1,.i .i64 i),(5,u32 (x/2^y)),(6,.i .i64 y)],[],2⟩
end
section
variable{T:Tbl}[Zbl T]
def Zn9(a:List UInt32)(y:Nat):St:=⟨[(0,.sl (Za a) .an),(3,.i .i64 y)],[],2⟩
end
end Go.Ab
end
section
namespace Go.Ab
section
variable{T:Tbl}[Zbl T]
def Zoa(a b:List UInt32)(y:Nat×List UInt32×List UInt32):St:=
 ⟨[(0,.sl (Za a) .an),(1,.sl (Za b) .an),(6,.bs (.loc 11) 1 1 0 a.length),(7,.bs (.loc 15) 2 1 0 (b.length+1)),(8,.i .i64 ((y.1:Int)-1))],[(.loc 11,⟨1,.own,1,Za y.2.1⟩),(.loc 15,⟨2,.own,1,Za y.2.2⟩)],4⟩
end
end Go.Ab
end
section
namespace Go.Ab
class Zbx (T:Tbl):Prop extends Zbl T where
end Go.Ab
end
section
namespace Go.Ab
section
variable{T:Tbl}[Zbx T]
def Znc(N:Nat)(y:Nat×Nat×List UInt32)(P:List UInt32):St:=
 ⟨[(0,.bs (.bor 0) 0 1 0 N),(3,u64 y.2.1),(4,.i .i64 ((y.1:Int)-1))],[(.bor 0,⟨0,.own,1,Za (P.take y.1++y.2.2)⟩)],4⟩
end
section
variable{T:Tbl}[Zbx T]
def Zoe(b:BId)(x:List UInt32)(s:List UInt8):St:=⟨[(3,.bs b 1 1 0 x.length),(4,.s s)],[(b,⟨1,.own,1,Za x⟩)],3⟩
end
end Go.Ab
end
section
namespace Go.Ab
section
variable{T:Tbl}
def Zob(Q:List UInt32)(o n s i:Nat):St:=⟨[(0,.bs (.bor 0) 0 1 o n),(1,.i .i64 s),(5,.i .i64 i)],[(.bor 0,⟨0,.own,1,Za Q⟩)],4⟩
end
section
variable{T:Tbl}[Zbv T][Zbw T][Zbl T][Zbx T][Zcp T]
def Zoc(Q R:List UInt32)(o n o2 n2 c i:Nat):St:=⟨[(0,.bs (.bor 0) 0 1 o n),(1,.bs (.bor 1) 1 1 o2 n2),(4,u64 c),(5,.i .i64 i)],[(.bor 0,⟨0,.own,1,Za Q⟩),(.bor 1,⟨1,.own,1,Za R⟩)],6⟩
def nmX:BId:=.fld (.loc 12) 22
def nmY:BId:=.fld (.loc 14) 22
def nm2(f:Bool):BId×BId:=if f then (nmX,nmY) else (nmY,nmX)
def Zod(f:Bool)(P a S P2 b S2:List UInt32)(m n:Nat):St:=
 ⟨[(5,.bs (nm2 f).1 1 1 P.length a.length),(6,.bs (nm2 f).2 2 1 P2.length b.length),(7,.i .i64 m),(8,.i .i64 n)],[((nm2 f).1,⟨1,.own,1,Za (P++(a++S))⟩),((nm2 f).2,⟨2,.own,1,Za (P2++(b++S2))⟩)],4⟩
structure Gc where
 f:Bool
 P:List UInt32
 S:List UInt32
 P2:List UInt32
 S2:List UInt32
 X:Nat
 Y:Nat
end
end Go.Ab
end
section
namespace Go.Ab
class Zc2 (T:Tbl):Prop extends Zbx T where
end Go.Ab
end
section
namespace Go.Ab
end Go.Ab
end
section
namespace Go.Ab
end Go.Ab
end
section
namespace Go.Ab
section
variable{T:Tbl}[Zbv T][Zbw T][Zbl T][Zbx T][Zcp T][Zc2 T][Zc3 T][Zc4 T]
def Zof(n i:Nat):St:=⟨[(0,.i .i64 n),(3,.bs (.loc 3) 1 3 0 i),(4,.i .i64 i)],[(.loc 3,⟨1,.own,3,Zi (List.replicate i (fz 0))⟩)],3⟩
def Zog(l:List Fz)(i:Nat):St:=⟨[(0,.sl (Zi l) .an),(3,.bs (.loc 3) 1 3 0 i),(4,.i .i64 i)],[(.loc 3,⟨1,.own,3,Zi (nrm (l.take i))⟩)],3⟩
def Zoh(a b:List Fz)(i:Nat):St:=⟨[(0,.sl (Zi a) .an),(1,.sl (Zi b) .an),(5,.i .i64 i)],[],2⟩
def Zoi(p q:List Rat)(i:Nat):St:=⟨[(0,.sl (Zi (fzs p)) .an),(1,.sl (Zi (fzs q)) .an),(5,.bs (.loc 5) 1 3 0 i),(6,.i .i64 i)],[(.loc 5,⟨1,.own,3,Zi (fzs ((Zj1 p (fzs q)).take i))⟩)],3⟩
def Zoj(p q:List Rat)(i:Nat):St:=⟨[(0,.sl (Zi (fzs p)) .an),(1,.sl (Zi (fzs q)) .an),(4,.ptr (.loc 4) 1 3 0 0),(5,.ptr (.loc 5) 2 3 0 0),(6,.i .i64 i)],
 [(.loc 4,⟨1,.str,3,[Zd9]⟩),(.loc 5,⟨2,.str,3,[Zeb (fz (Zje (fzs p) (fzs q) i))]⟩)],4⟩
def Zk8(l:List Fz)(many words:Nat):Bool:=decide (many<l.length) || l.any fun x=>decide (words<fsz x)
def Zok(l:List Fz)(many words:Nat)(i:Nat):St:=⟨[(0,.sl (Zi l) .an),(1,.i .i64 many),(2,.i .i64 words),(7,.i .i64 i)],[],2⟩
end
end Go.Ab
end
section
namespace Go.Ab
def Zh1(n:Int):Nat:=(min (max n 0) 300).toNat
section
variable{T:Tbl}[Zp T][Zv T][Zy T][Zr T][Zu T][Za0 T][Zf T][Zn T][Zz T][Zat T][Zby T]
def Znl(n i:Int):List Rat:=if 0≤i∧i<Zh1 n then (List.replicate (Zh1 n) 0).set i.toNat 1 else List.replicate (Zh1 n) 0
end
section
variable{T:Tbl}[Zbv T][Zbw T][Zbl T][Zbx T][Zcp T][Zc2 T][Zc3 T][Zc4 T]
def Znm(n:Int)(i:Nat):St:=⟨[(0,.i .i64 n),(3,.bs (.loc 3) 1 3 0 i),(4,.i .i64 i)],[(.loc 3,⟨1,.own,3,Zi (List.replicate i (fz 0))⟩)],3⟩
end
end Go.Ab
end
section
namespace Go.Ab
class Zja (T:Tbl):Prop where
end Go.Ab
end
section
namespace Go.Ab
class Zhw (T:Tbl):Prop where
end Go.Ab
end
section
namespace Go.Ab
class Zhx (T:Tbl):Prop where
end Go.Ab
end
section
namespace Go.Ab
section
variable{T:Tbl}[Zbv T][Zbw T][Zbl T][Zbx T][Zcp T][Zc2 T][Zc3 T][Zc4 T][Zhw T][Zhx T]
def Zl1(l:List Fz)(i:Nat):St:=⟨[(0,.sl (Zi l) .an),(3,.bs (.loc 3) 1 3 0 i),(4,.i .i64 i)],[((.loc 3),⟨1,.own,3,Zi (l.take i)⟩)],3⟩
def Zl2(l:List Fz)(i:Nat):St:=⟨[(0,.sl (Zi l) .an),(3,.bs (.loc 3) 1 3 0 i),(4,.i .i64 i)],[((.loc 3),⟨1,.own,3,Zi (l.take i)⟩)],3⟩
end
end Go.Ab
end
section
namespace Go.Ab
def Zkj:List (List Fz)→Nat
 | []=>0
 | r::_=>r.length
def Zlx(m:List (List Fz)):Bool:=m.all fun r=>decide (r.length=Zkj m)
def Zk3(m:List (List Fz))(j:Nat):List Fz:=m.map fun r=>r.getD j (false,[],[])
def Zk4(m:List (List Fz))(k:Nat):List (List Fz):=(List.range k).map fun j=>nrm (Zk3 m j)
def scM(r:List Fz)(m:List (List Fz)):List (List Fz):=List.zipWith (fun x row=>scl (fv x) row) r m
def Zly:List (List Fz)→List Rat
 | []=>[]
 | r::m=>m.foldl Zj1 (r.map fv)
def Zk5(r:List Fz)(m:List (List Fz)):List Rat:=Zly (scM r m)
def Zkk(m:List (List Fz))(c:List Fz):List Rat:=m.map fun r=>Zh0 r c
section
variable{T:Tbl}[Zp T][Zv T][Zy T][Zr T][Zu T][Za0 T][Zf T][Zn T][Zz T][Zat T][Zby T][Zja T]
def Zmy(m:List (List Fz))(i:Nat):St:=⟨[(0,.sl (Z3 m) .an),(5,.sl (Z3 m) .an),(6,.i .i64 m.length),(7,.i .i64 i)],[],2⟩
def Zmz(a b:List (List Fz))(i:Nat):St:=⟨[(1,.sl (Z3 b) .an),(12,.sl (Z3 a) .an),(13,.i .i64 a.length),(14,.i .i64 i)],[],2⟩
def idQ(k:Nat)(i:Nat):List (List Fz):=(List.range i).map fun j=>fzs ((List.replicate k 0).set j 1)
def Zm0(k:Nat)(i:Nat):St:=⟨[(0,.i .i64 k),(3,.bs (.loc 3) 1 1 0 i),(8,.i .i64 k),(9,.i .i64 i)],[((.loc 3),⟨1,.own,1,Z3 (idQ k i)⟩)],3⟩
def Zm1(m R:List (List Fz))(k j:Nat)(i:Nat):St:=⟨[(0,.sl (Z3 m) .an),(3,.bs (.loc 3) 1 1 0 j),(4,.i .i64 j),(5,.bs (.loc 5) 2 3 0 i),(12,.i .i64 k),(13,.i .i64 j),(16,.sl (Z3 m) .an),(17,.i .i64 m.length),(18,.i .i64 i)],[(.loc 3,⟨1,.own,1,Z3 R⟩),((.loc 5),⟨2,.own,3,Zi (nrm (Zk3 (m.take i) j))⟩)],4⟩
def Zlp(m:List (List Fz))(k:Nat)(i:Nat):St:=⟨[(0,.sl (Z3 m) .an),(3,.bs (.loc 3) 1 1 0 i),(12,.i .i64 k),(13,.i .i64 i)],[((.loc 3),⟨1,.own,1,Z3 (Zk4 m i)⟩)],3⟩
end
end Go.Ab
end
section
namespace Go.Ab
section
variable{T:Tbl}[Zp T][Zv T][Zy T][Zr T][Zu T][Za0 T][Zf T][Zn T][Zz T][Zat T][Zby T][Zja T]
def Zm2(r:List Fz)(m:List (List Fz))(i:Nat):St:=⟨[(0,.sl (Zi r) .an),(6,.bs (.loc 6) 1 1 0 i),(19,.sl (Z3 m) .an),(20,.i .i64 m.length),(21,.i .i64 i)],[((.loc 6),⟨1,.own,1,Z3 (scM (r.take i) (m.take i))⟩)],3⟩
def Zm3(m:List (List Fz))(c:List Fz)(i:Nat):St:=⟨[(1,.sl (Zi c) .an),(6,.bs (.loc 6) 1 3 0 i),(21,.sl (Z3 m) .an),(22,.i .i64 m.length),(23,.i .i64 i)],[((.loc 6),⟨1,.own,3,Zi (fzs (Zkk (m.take i) c))⟩)],3⟩
def Zlz(a b:List (List Fz)):List (List Fz):=a.map fun r=>fzs (Zk5 r b)
def Zm4(a m:List (List Fz))(i:Nat):St:=⟨[(1,.sl (Z3 m) .an),(6,.bs (.loc 6) 1 1 0 i),(26,.sl (Z3 a) .an),(27,.i .i64 a.length),(28,.i .i64 i)],[((.loc 6),⟨1,.own,1,Z3 (Zlz (a.take i) m)⟩)],3⟩
def Zl0(a b:List (List Fz)):List (List Fz):=List.zipWith (fun r s=>fzs (Zj1 (r.map fv) s)) a b
def Zm5(a m:List (List Fz))(i:Nat):St:=⟨[(1,.sl (Z3 m) .an),(6,.bs (.loc 6) 1 1 0 i),(33,.sl (Z3 a) .an),(34,.i .i64 a.length),(35,.i .i64 i)],[((.loc 6),⟨1,.own,1,Z3 (Zl0 (a.take i) (m.take i))⟩)],3⟩
end
end Go.Ab
end
section
namespace Go.Ab
def Zle:List Rat→List Rat→Rat
 | x::a,y::b=>x*y+Zle a b
 | _,_=>0
def Zmp(m:List (List Fz)):List (List Rat):=m.map fun r=>r.map fv
def fzM(L:List (List Rat)):List (List Fz):=L.map fzs
def Zjp:List (List Rat)→Nat
 | []=>0
 | r::_=>r.length
def Zmq(L:List (List Rat)):Bool:=L.all fun r=>decide (r.length=Zjp L)
def Zkn(L:List (List Rat))(j:Nat):List Rat:=L.map fun p=>p.getD j 0
def Zlf(L:List (List Rat)):List (List Rat):=(List.range (Zjp L)).map (Zkn L)
def Zjq(L:List (List Rat))(c:List Rat):List Rat:=L.map fun p=>Zle p c
def Zns(r:List Rat)(L:List (List Rat)):List Rat:=Zjq (Zlf L) r
end Go.Ab
end
section
namespace Go.Ab
def Zk0(q:Rat):Rat:=if q<0 then -q else q
end Go.Ab
end
section
namespace Go.Ab
def Zkt(c:Rat)(l:List Rat):List Rat:=l.map fun x=>c*x
def Zll(a b:List Rat):List Rat:=List.zipWith (· + ·) a b
def Zj3(b x:Rat):Rat:=if b<Zk0 x then Zk0 x else b
def Zke(l:List Rat):Rat:=l.foldl Zj3 0
def Zmu:List (Rat×List Rat)→List Rat→List Rat
 | [],acc=>acc
 | p::l,acc=>Zmu l (Zll acc (Zkt p.1 p.2))
end Go.Ab
end
section
namespace Go.Ab
def sqC:List UInt32→Nat
 | []=>0
 | x::r=>4294967296*(x.toNat*val r)+4294967296*4294967296*sqC r
def sqD:List UInt32→Nat
 | []=>0
 | x::r=>x.toNat*x.toNat+4294967296*4294967296*sqD r
theorem zxz:∀a:List UInt32,2*sqC a+sqD a=val a*val a
 | []=>rfl
 | x::r=>by
  have ih:=zxz r;simp only[sqC,sqD,zap];generalize 4294967296=p at *
  grind
theorem zlr(i:Nat):4294967296^(2*i+2)=4294967296^(2*i)*(4294967296*4294967296):=by
 rw[Ybt]
theorem zls{x L:Nat}(h:(ofN x).length≤L):(ofN (x*2^1)).length≤L+1:=by
 refine zah ?_;have h1:=zaw (ofN x);rw[zae]at h1;have h2:4294967296^(ofN x).length≤4294967296^L:=Yr (by decide) h;rw[Y7];omega
section
variable{T:Tbl}[Z9 T][Zp T][Zv T][Zy T][Zb3 T]
theorem zf5(a:List UInt32)(ha:a.length≤1000000):Zb T 356 [.sl (Za a) .an]=some (.i .i64 (Z2 (val a))):=by
 have h1:=za5 (T:=T) a (by omega);have hl:=zad a;have hv:val (ofN (val a))=val a:=zae _;rw[zab Zb3.h356 rfl,b356];by_cases h0:val a=0
 ·have e:ofN (val a)=[]:=za2.2 h0;have eb:Z2 (val a)=0:=by rw[h0];rfl
  rw[e]at h1;rw[eb];simp -implicitDefEqProofs[h1]
 ·have hne:ofN (val a)≠[]:=fun h=>h0 (za2.1 h);obtain⟨B,x,hB⟩:∃B x,ofN (val a)=B++[x]:=⟨_,_,(Ydh hne).symm⟩;have hx0:x.toNat≠0:=by
   intro hx;have e1:val (ofN (val a))=val B:=by
    rw[hB,zai];simp[hx]
   have e2:ofN (val B)=ofN (val a):=by rw[←e1,zae]
   have e3:=zad B;rw[e2,hB]at e3;simp at e3;omega
  have hlog:Z2 (val a)=32*B.length+Z2 x.toNat:=by
   have hdiv:val a/2^(32*B.length)=x.toNat:=by
    have e1:val a=val B+4294967296^B.length*x.toNat:=by
     rw[←hv,hB,zai];simp
    have e2:2^(32*B.length)=4294967296^B.length:=by
     rw[Yci]
    have e3:=zaw B;rw[e2,e1,Ydf _ _ (by omega),Ybn e3,Yas]
   have:=zik (n:=val a) (s:=32*B.length) (by rw[hdiv];exact hx0);rw[hdiv]at this;exact this
  have hbl:B.length+1≤1000000:=by
   have:=congrArg List.length hB;simp at this;omega
  have hL:=zo1 (T:=T) x;have hb32:Z2 x.toNat≤32:=by
   have hx:=zam x;unfold Z2;split
   ·omega
   ·have:=(Ydn (n:=x.toNat) (k:=32) (by assumption)).2 (by omega);omega
  rw[hB]at h1;rw[hlog];have w1:IntKind.wrap .i64 ((B.length:Int)+1-1)=(B.length:Int):=by
   rw[Int.add_sub_cancel];exact zac _ (by omega)
  have w2:IntKind.wrap .i64 (32*(B.length:Int))=32*(B.length:Int):=zac _ (by omega);have w3:IntKind.wrap .i64 (32*(B.length:Int)+(Z2 x.toNat:Int))=32*(B.length:Int)+(Z2 x.toNat:Int):=zac _ (by omega);have w4:IntKind.wrap .i64 (B.length:Int)=B.length:=zac _ (by omega);have n1:¬ (B.length:Int)+1=0:=by omega
  have n2:(B.length:Int)<(B.length:Int)+1:=by omega
  clear hlog hB hne hb32;simp -implicitDefEqProofs[h1,hL,w1,w2,w3,w4,n1,n2]
def Zh7(a X:List UInt32)(i:Nat):St:=
 ⟨[(0,.sl (Za a) .an),(3,.bs (.loc 14) 1 1 0 (2*a.length+1)),(15,.sl (Za a) .an),(16,.i .i64 a.length),(17,.i .i64 i)],[(.loc 14,⟨1,.own,1,Za (X++List.replicate (a.length+1-i) 0)⟩)],3⟩
theorem zwq(a:List UInt32)(ha:a.length≤100000):∀y:Nat×List UInt32,
  (y.1≤a.length∧y.2.length=a.length+y.1∧val y.2+4294967296^(2*y.1)*sqC (a.drop y.1)=sqC a) →
  ∃r,(∃out:List UInt32,r=(Ex.n,(⟨[(0,.sl (Za a) .an),(3,.bs (.loc 14) 1 1 0 (2*a.length+1))],[(.loc 14,⟨1,.own,1,Za out⟩)],3⟩:St))∧out.length=2*a.length+1∧val out=sqC a) ∧
   Zw T 0 0 (.norm false [0,3]) l357_0 (Zh7 a y.2 y.1)=some r:=by
 refine za4 _ _ (fun y=>a.length-y.1) _ ?_
 rintro⟨i,X⟩ ⟨hi,hX,hv⟩
 simp only at hi hX hv;by_cases h0:i<a.length
 ·left;have hag:a[i]? = some (a[i]'h0):=Ya h0;have hw:IntKind.wrap .i64 ((i:Int)+1)=((i+1:Nat):Int):=zac _ (by omega);have hw2:IntKind.wrap .i64 (2*(i:Int))=2*(i:Int):=zac _ (by omega);have hw3:IntKind.wrap .i64 (2*(i:Int)+1)=((2*i+1:Nat):Int):=zac _ (by omega);have hdl:(a.drop (i+1)).length=a.length-(i+1):=Yan;obtain⟨m,hm1,hm2,hc⟩:=zjp (T:=T) (X.take (2*i+1)) (X.drop (2*i+1)++List.replicate (a.length+1-i) 0) (a.drop (i+1)) (a[i]'h0).toNat 0 (zam _) (by decide) (by simp;omega) (by simp;omega);have hi21:2*i+1≤X.length:=by omega
  have e1:X.take (2*i+1)++(X.drop (2*i+1)++List.replicate (a.length+1-i) 0)=X++List.replicate (a.length+1-i) 0:=by rw[←Y6,Yav]
  have e2:(X.take (2*i+1)).length=2*i+1:=by simp;omega
  have e3:(X.drop (2*i+1)++List.replicate (a.length+1-i) 0).length=2*a.length+1-(2*i+1):=by simp;omega
  have e4:2*i+1+(2*a.length+1-(2*i+1))=2*a.length+1:=by omega
  have e5:(X.drop (2*i+1)++List.replicate (a.length+1-i) 0).drop ((a.drop (i+1)).length+1)=List.replicate (a.length+1-(i+1)) 0:=by
   rw[Yd6,Ybg (by simp;omega),List.drop_replicate];simp only[Yau,Yan];congr 1;omega
  have e6:(X.drop (2*i+1)++List.replicate (a.length+1-i) 0).take (a.drop (i+1)).length=X.drop (2*i+1):=by
   rw[Yca (by simp;omega),Yb (by simp;omega)]
  rw[e1,e2,e3,e4,e5]at hc;rw[e6]at hm2;simp only[←Y6]at hc;refine⟨(i+1,X.take (2*i+1)++m),⟨h0,by simp only[Yp,e2,hm1];omega,?_⟩,by simp only;omega,?_⟩
  ·simp only;have e7:=zai (X.take (2*i+1)) (X.drop (2*i+1));rw[Yav,e2]at e7;rw[Yw h0]at hv;simp only[sqC]at hv;rw[zai,e2,hm2];have p1:4294967296^(2*i+1)=4294967296^(2*i)*4294967296:=Y7 ..;have p2:4294967296^(2*(i+1))=4294967296^(2*i)*(4294967296*4294967296):=zlr i;rw[p1]at e7 ⊢;rw[p2,←hv,e7];generalize 4294967296^(2*i)=q;generalize val (a.drop (i+1))=v;generalize sqC (a.drop (i+1))=w;generalize (4294967296:Nat)=p
   grind
  ·have hle:(i:Int)+1≤a.length:=by omega
   have hle2:i+1≤a.length:=by omega
   have hm3:((2*i+1:Nat):Int)=2*(i:Int)+1:=by omega
   rw[hm3]at hc hw3;clear hv hm2 e1 e5 e6;simp -implicitDefEqProofs[l357_0,Zh7,h0,hw,hw2,hw3,hc,hag,hle,hle2]
 ·right;have:i=a.length:=by omega
  subst this;refine⟨_,⟨X++List.replicate (a.length+1-a.length) 0,rfl,by simp;omega,by rw[zai,zaz];simp[sqC]at hv;simp[hv]⟩,?_,?_⟩<;>simp -implicitDefEqProofs[l357_0,Zh7]
def Zh8(a X:List UInt32)(U:List (List AV))(i:Nat):St:=
 ⟨[(6,.sl U .an),(7,.bs (.loc 38) 1 1 0 (2*a.length)),(39,.sl (Za a) .an),(40,.i .i64 a.length),(41,.i .i64 i)],[(.loc 38,⟨1,.own,1,Za (X++List.replicate (2*a.length-2*i) 0)⟩)],3⟩
theorem zwr(a:List UInt32)(U:List (List AV))(hU:wkL U=U)(ha:a.length≤100000):∀y:Nat×List UInt32,
  (y.1≤a.length∧y.2.length=2*y.1∧val y.2+4294967296^(2*y.1)*sqD (a.drop y.1)=sqD a) →
  ∃r,(∃out:List UInt32,r=(Ex.n,(⟨[(6,.sl U .an),(7,.bs (.loc 38) 1 1 0 (2*a.length))],[(.loc 38,⟨1,.own,1,Za out⟩)],3⟩:St))∧out.length=2*a.length∧val out=sqD a) ∧
   Zw T 0 2 (.norm false [6,7]) l357_1 (Zh8 a y.2 U y.1)=some r:=by
 refine za4 _ _ (fun y=>a.length-y.1) _ ?_
 rintro⟨i,X⟩ ⟨hi,hX,hv⟩
 simp only at hi hX hv;by_cases h0:i<a.length
 ·left;have hag:a[i]? = some (a[i]'h0):=Ya h0;have hm:=zoz (T:=T) (a[i]'h0) (a[i]'h0) 0 0;obtain⟨hi_,hhi⟩:∃h:UInt32,h=w32 (((a[i]'h0).toNat*(a[i]'h0).toNat+(0:UInt32).toNat+(0:UInt32).toNat)/4294967296):=⟨_,rfl⟩;obtain⟨lo_,hlo⟩:∃h:UInt32,h=w32 ((a[i]'h0).toNat*(a[i]'h0).toNat+(0:UInt32).toNat+(0:UInt32).toNat):=⟨_,rfl⟩;rw[←hhi,←hlo]at hm;have hx:=zam (a[i]'h0);have hval:lo_.toNat+4294967296*hi_.toNat=(a[i]'h0).toNat*(a[i]'h0).toNat:=by
   have hlt:=zg8 hx hx;have e0:(0:UInt32).toNat=0:=rfl;rw[hlo,hhi,za6,za6,e0];simp only[Y2];generalize (a[i]'h0).toNat*(a[i]'h0).toNat=q at *
   omega
  have hw:IntKind.wrap .i64 ((i:Int)+1)=((i+1:Nat):Int):=zac _ (by omega);have hw2:IntKind.wrap .i64 (2*(i:Int))=2*(i:Int):=zac _ (by omega);have hw3:IntKind.wrap .i64 (2*(i:Int)+1)=2*(i:Int)+1:=zac _ (by omega);have e1:(X++List.replicate (2*a.length-2*i) (0:UInt32))=X++0::0::List.replicate (2*a.length-2*(i+1)) 0:=by
   rw[show 2*a.length-2*i=(2*a.length-2*(i+1))+1+1 by omega,Ya7,Ya7]
  have e2:((X++0::0::List.replicate (2*a.length-2*(i+1)) (0:UInt32)).set (2*i+1) hi_).set (2*i) lo_=X++[lo_,hi_]++List.replicate (2*a.length-2*(i+1)) 0:=by
   rw[Yae _ _ (by omega),Yae _ _ (by omega),hX,Ycv,show 2*i+1-2*i=1 by omega];simp
  refine⟨(i+1,X++[lo_,hi_]),⟨h0,by simp;omega,?_⟩,by simp only;omega,?_⟩
  ·simp only;rw[Yw h0]at hv;simp only[sqD]at hv;rw[zai,hX];simp only[zap,zbh,Yaz,Y2];have p2:4294967296^(2*(i+1))=4294967296^(2*i)*(4294967296*4294967296):=zlr i;rw[p2,←hv,←hval];generalize 4294967296^(2*i)=q;generalize sqD (a.drop (i+1))=w;generalize (4294967296:Nat)=p
   grind
  ·unfold Zh8;simp only;rw[e1,←e2];have hl:(X++0::0::List.replicate (2*a.length-2*(i+1)) (0:UInt32)).length=2*a.length:=by simp;omega
   clear e1 e2 hv hval hhi hlo;generalize (X++0::0::List.replicate (2*a.length-2*(i+1)) (0:UInt32))=B at *
   have s1:(Za B).set (2*i+1) [u32 hi_.toNat]=Za (B.set (2*i+1) hi_):=by simp[Za,Yee]
   have s2:(Za (B.set (2*i+1) hi_)).set (2*i) [u32 lo_.toNat]=Za ((B.set (2*i+1) hi_).set (2*i) lo_):=by simp[Za,Yee]
   have b1:2*i+1<2*a.length:=by omega
   have b2:2*i<2*a.length:=by omega
   have b3:2*(i:Int)+1<2*(a.length:Int):=by omega
   have b4:2*(i:Int)<2*(a.length:Int):=by omega
   have b5:(0:Int)≤2*(i:Int)+1:=by omega
   have b6:(0:Int)≤2*(i:Int):=by omega
   have b7:(2*(i:Int)+1).toNat=2*i+1:=by omega
   have b8:(2*(i:Int)).toNat=2*i:=by omega
   have g1:B[2*i+1]? = some (B[2*i+1]'(by omega)):=Ya (by omega);have z0:(0:UInt32).toNat=0:=rfl;rw[z0]at hm;have hl2:((B.set (2*i+1) hi_)).length=2*a.length:=by simp[hl]
   simp -implicitDefEqProofs[l357_1,h0,hw,hw2,hw3,hag,hm,hl,s1,s2,b1,b2,b3,b4,b5,b6,b7,b8,hl2,hU]
 ·right;have:i=a.length:=by omega
  subst this;refine⟨_,⟨X++List.replicate (2*a.length-2*a.length) 0,rfl,by simp;omega,by rw[zai,zaz];simp[sqD]at hv;simp[hv]⟩,?_,?_⟩<;>simp -implicitDefEqProofs[l357_1,Zh8,hU]
theorem zng(a:List UInt32)(ha:a.length≤4000):Zb T 357 [.sl (Za a) .an]=some (.sl (Za (ofN (val a*val a))) .an):=by
 obtain⟨_,⟨out,rfl,ho,hv⟩,hr⟩:=zwq (T:=T) a (by omega) (0,List.replicate a.length 0) ⟨Yz _,by simp,by simp[zaz]⟩;unfold Zh7 at hr;have hup:=z0m (T:=T) out 1 (by decide) (by omega);rw[Yeh]at hup;have hupl:(ofN (val out*2^1)).length≤10000:=by
  have h1:=zad out;have h2:=zls (x:=val out) (L:=out.length) (by omega);omega
 obtain⟨_,⟨dg,rfl,hd,hdv⟩,hr2⟩:=zwr (T:=T) a (Za (ofN (val out*2^1))) (by simp) (by omega) (0,[]) ⟨Yz _,rfl,by simp⟩;unfold Zh8 at hr2;have hn:=ztp (T:=T) [ofN (val out*2^1),dg] (by simp) (by
  intro x hx;simp only[Ym,Yb8,or_false]at hx;rcases hx with rfl | rfl<;>omega)
 have e1:lls [ofN (val out*2^1),dg]=[[.sl (Za (ofN (val out*2^1))) .an],[.sl (Za dg) .an]]:=rfl;have e2:Zdd [ofN (val out*2^1),dg]=val a*val a:=by
  simp only[Zdd,Ys,Ycd,zae,Ycm,List.sum_nil,hv,hdv];have:=zxz a;omega
 rw[e1,e2]at hn;simp only[Yai,Yau,Nat.sub_zero,Yaz]at hr hr2;have e3:List.replicate a.length (0:UInt32)++List.replicate (a.length+1) 0=List.replicate (2*a.length+1) 0:=by
  rw[Yb4];congr 1;omega
 rw[e3]at hr;have w1:IntKind.wrap .i64 (2*(a.length:Int))=2*(a.length:Int):=zac _ (by omega);have w2:IntKind.wrap .i64 (2*(a.length:Int)+1)=2*(a.length:Int)+1:=zac _ (by omega);have n1:(0:Int)≤2*(a.length:Int)+1:=by omega
 have n2:2*(a.length:Int)+1≤4294967296:=by omega
 have n3:(0:Int)≤2*(a.length:Int):=by omega
 have n4:2*(a.length:Int)≤4294967296:=by omega
 have n5:(2*(a.length:Int)+1).toNat=2*a.length+1:=by omega
 have n6:(2*(a.length:Int)).toNat=2*a.length:=by omega
 have t1:List.take (2*a.length+1) out=out:=Yb (by omega);have t2:List.take (2*a.length) dg=dg:=Yb (by omega);have o1:out.length=2*a.length+1:=ho;rw[zab Zb3.h357 rfl,b357];clear e1 e2 e3 hv hdv hupl;simp -implicitDefEqProofs[w1,w2,n1,n2,n3,n4,n5,n6,hr,ho,t1,hup,hr2,hd,t2,hn]
end
theorem zz1(e m:Nat)(hm:m≤63):Z4 .shr (.i .i64 (e:Int)) (.i .i64 (m:Int))=some (.i .i64 ((e/2^m:Nat):Int)):=by
 have h1:¬ (m:Int)<0:=by omega
 have h2:min m 64=m:=by omega
 simp only[Z4,IntKind.bits,h1,if_false,Ycj,h2];congr 2;rw[Ydt _ (Int.le_of_lt (Int.pow_pos (by decide)))]
 norm_cast
theorem zz2(k:Nat)(hk:k<9223372036854775808):Z4 .and (.i .i64 (k:Int)) (.i .i64 1)=some (.i .i64 ((k%2:Nat):Int)):=by
 show some (AV.i .i64 (IntKind.wrap .i64 ((BitVec.ofInt 64 (k:Int) &&& BitVec.ofInt 64 1).toNat:Int)))=_;have h1:(BitVec.ofInt 64 (k:Int)).toNat=k:=by
  rw[BitVec.ofInt_natCast,BitVec.toNat_ofNat];omega
 have h2:(BitVec.ofInt 64 1).toNat=1:=rfl;rw[BitVec.toNat_and,h1,h2,Nat.and_one_is_mod,zac _ (by omega)]
theorem ztr(e m:Nat):e/2^m=2*(e/2^(m+1))+e/2^m%2:=by
 rw[Y7,←Ybv];omega
theorem zo3(x e:Nat)(h:e*Z2 x≤65536):(ofN (x^e)).length≤2048:=by
 by_cases h1:x^e=0
 ·rw[h1];have:ofN 0=[]:=za2.2 rfl;rw[this]
  decide
 by_cases hx:x=0
 ·subst hx;cases e with
  | zero=>exact Yg (zah (k:=1) (by decide)) (by decide)
  | succ e=>simp at h1
 ·refine zah ?_;generalize hk:(2048:Nat)=k;have h2:x<2^Z2 x:=by
   unfold Z2;rw[if_neg hx];exact Ycr
  have h5:∀m,(2:Nat)^(32*m)=4294967296^m:=fun m=>by rw[Yci]
  cases e with
  | zero=>exact Nat.one_lt_pow (by omega) (by decide)
  | succ e=>
   have h3:x^(e+1)<(2^Z2 x)^(e+1):=Nat.pow_lt_pow_left h2 (by omega);rw[←Yci,Yac]at h3;refine Yo h3 ?_;rw[←h5];exact Yr (by decide) (by omega)
theorem zts{e:Nat}(h:e<9223372036854775808):Z2 e≤63:=by
 unfold Z2;split
 ·omega
 ·next h0=>
  have:=(Ydn (n:=e) (k:=63) h0).2 h;omega
theorem zws(e:Nat):e/2^Z2 e=0:=by
 unfold Z2;split
 ·next h=>simp[h]
 ·exact Ybn Ycr
section
variable{T:Tbl}[Z9 T][Zp T][Zv T][Zy T][Zb3 T]
theorem zwt(a:List UInt32)(e:Nat)(ha:a.length≤3000)(he:e<9223372036854775808)(hb:e*Z2 (val a)≤65536):∀b:Nat,b≤63 →
  Zw T 0 0 (.norm false [7]) l258_0 ⟨[(0,.sl (Za a) .an),(1,.i .i64 e),(7,.sl (Za (ofN (val a^(e/2^b)))) .an),(8,.i .i64 ((b:Int)-1))],[],2⟩ =
   some (.n,⟨[(7,.sl (Za (ofN (val a^e))) .an)],[],2⟩):=by
 refine zau (fun b:Nat=>⟨[(0,.sl (Za a) .an),(1,.i .i64 e),(7,.sl (Za (ofN (val a^(e/2^b)))) .an),(8,.i .i64 ((b:Int)-1))],[],2⟩) (fun b=>b≤63) (fun b=>b) (fun _=>_) ?_;intro b hb63;cases b with
 | zero=>
  right;rw[Yeg,Nat.div_one];generalize ofN (val a^e)=R at *
  constructor<;>simp -implicitDefEqProofs[l258_0]
 | succ m=>
  left;have hs:=ztr e m;have hmul:∀k,k≤e→k*Z2 (val a)≤65536:=fun k hk=>Yg (Y0 _ hk) hb;have hd0:e/2^m≤e:=Ybs _ _;have l1:=zo3 (val a) (e/2^(m+1)) (hmul _ (Ybs _ _));have l2:=zo3 (val a) (2*(e/2^(m+1))) (hmul _ (by omega));have c1:=zng (T:=T) (ofN (val a^(e/2^(m+1)))) (by omega);rw[zae,←Ybt,←Nat.two_mul]at c1;have c2:=zf6 (T:=T) (ofN (val a^(2*(e/2^(m+1))))) a (by omega) (by omega);rw[zae,←Nat.pow_add_one]at c2;have hsh:=zz1 e m (by omega);have han:=zz2 (e/2^m) (by omega);have w1:IntKind.wrap .i64 ((m:Int)-1)=(m:Int)-1:=zac _ (by omega);have p1:(0:Int)≤m:=by omega
  have e1:((m+1:Nat):Int)-1=m:=by omega
  refine⟨m,by omega,by simp,?_,rfl⟩;rw[e1];rcases Nat.mod_two_eq_zero_or_one (e/2^m) with h0 | h0
  ·rw[h0]at han hs;rw[Y2]at hs;rw[←hs]at c1;clear l1 l2 c2 hs;generalize ofN (val a^(e/2^(m+1)))=X at *
   generalize ofN (val a^(e/2^m))=Y at *
   generalize e/2^m=q at *
   simp -implicitDefEqProofs[l258_0,p1,c1,hsh,han,w1]
  ·rw[h0]at han hs;rw[←hs]at c2;clear l1 l2 hs;generalize ofN (val a^(e/2^(m+1)))=X at *
   generalize ofN (val a^(2*(e/2^(m+1))))=Z at *
   generalize ofN (val a^(e/2^m))=Y at *
   generalize e/2^m=q at *
   simp -implicitDefEqProofs[l258_0,p1,c1,c2,hsh,han,w1]
theorem zwu(a:List UInt32)(e:Nat)(ha:a.length≤3000)(h2:2≤Z2 (val a))(hb:e≤65536/Z2 (val a)) :
  Zb T 258 [.sl (Za a) .an,.i .i64 e]=some (.tup [.sl (Za (ofN (val a^e))) .an,.b true]):=by
 have hmul:e*Z2 (val a)≤65536:=Yg (Y0 _ hb) (Nat.div_mul_le_self _ _);have he:e≤65536:=Yg hb (Ybs _ _);have c1:=zf5 (T:=T) a (by omega);have c2:=zdk (T:=T) 1 (by decide);have c3:=zdk (T:=T) e (by omega);have c4:=zf5 (T:=T) (ofN e) (by
  have:=zah (n:=e) (k:=1) (by omega);omega)
 rw[zae]at c4;have hl:=zwt (T:=T) a e ha (by omega) hmul (Z2 e) (zts (by omega));rw[zws,Yeg]at hl;have hbe:=zts (e:=e) (by omega);have hq:((65536:Int)).tdiv (Z2 (val a):Int)=((65536/Z2 (val a):Nat):Int):=by
  rw[Ybw (by decide)]
  rfl
 have hbl:65536/Z2 (val a)≤65536:=Ybs _ _;have w0:IntKind.wrap .i64 ((65536/Z2 (val a):Nat):Int)=((65536/Z2 (val a):Nat):Int):=zac _ (by omega);have w1:IntKind.wrap .i64 ((Z2 e:Int)-1)=(Z2 e:Int)-1:=zac _ (by omega);have q1:¬ (e:Int)<0:=by omega
 have q2:(1:Int)<(Z2 (val a):Int):=by omega
 have q2':1<Z2 (val a):=by omega
 have q3:¬ ((65536/Z2 (val a):Nat):Int)<(e:Int):=by omega
 have q3':¬ (65536/Z2 (val a))<e:=by omega
 have q4:¬ (Z2 (val a):Int)<2:=by omega
 have q4':¬ Z2 (val a)<2:=by omega
 have q5:¬ (Z2 (val a):Int)=0:=by omega
 have q5':¬ Z2 (val a)=0:=by omega
 have qm:((e:Int)%18446744073709551616).toNat=e:=by omega
 rw[zab Zb3.h258 rfl,b258];generalize 65536/Z2 (val a)=Q at *
 clear hmul;generalize ofN (val a^e)=R at *
 generalize ofN 1=O at *
 generalize Z2 (val a)=B at *
 generalize ofN e=E at *
 simp -implicitDefEqProofs[c1,c2,c3,c4,hl,hq,w0,w1,q1,q2,q2',q3,q3',q4,q4',q5,q5',qm]
end
end Go.Ab
end
section
namespace Go.Ab
class Zki (T:Tbl):Prop where
end Go.Ab
end
section
namespace Go.Ab
class Zhz (T:Tbl):Prop where
end Go.Ab
end
section
namespace Go.Ab
section
variable{T:Tbl}[Zbv T][Zbw T][Zbl T][Zbx T][Zcp T][Zc2 T][Zc3 T][Zc4 T][Zhz T]
def Zne(m:List (List Fz))(i:Nat):St:=⟨[(0,.sl (Z3 m) .an),(3,.i .i64 i)],[],2⟩
def Znf(m:List (List Fz))(i:Nat):St:=⟨[(0,.sl (Z3 m) .an),(3,.bs (.loc 3) 1 1 0 i),(4,.i .i64 i)],[((.loc 3),⟨1,.own,1,Z3 (fzM (Zmp (m.take i)))⟩)],3⟩
def Zng(a b:List (List Fz))(i:Nat):St:=⟨[(0,.sl (Z3 a) .an),(1,.sl (Z3 b) .an),(5,.i .i64 i)],[],2⟩
def Znh(n:Int)(k:Nat)(i:Nat):St:=⟨[(0,.i .i64 n),(3,.bs (.loc 3) 1 1 0 i),(4,.i .i64 i)],[((.loc 3),⟨1,.own,1,Z3 (idQ k i)⟩)],3⟩
def Zmb(L:List (List Rat))(R:List (List Fz))(j:Nat)(i:Nat):St:=⟨[(0,.sl (Z3 (fzM L)) .an),(3,.bs (.loc 3) 1 1 0 j),(4,.i .i64 j),(5,.bs (.loc 5) 2 3 0 i),(6,.i .i64 i)],[(.loc 3,⟨1,.own,1,Z3 R⟩),((.loc 5),⟨2,.own,3,Zi (fzs (Zkn (L.take i) j))⟩)],4⟩
def Zmc(L:List (List Rat))(i:Nat):St:=⟨[(0,.sl (Z3 (fzM L)) .an),(3,.bs (.loc 3) 1 1 0 i),(4,.i .i64 i)],[((.loc 3),⟨1,.own,1,Z3 (fzM ((List.range i).map (Zkn L)))⟩)],3⟩
def Zni(L:List (List Rat))(c:List Rat)(i:Nat):St:=⟨[(0,.sl (Z3 (fzM L)) .an),(1,.sl (Zi (fzs c)) .an),(5,.bs (.loc 5) 1 3 0 i),(6,.i .i64 i)],[((.loc 5),⟨1,.own,3,Zi (fzs (Zjq (L.take i) c))⟩)],3⟩
def Znj(m:List (List Fz))(many words:Nat):Bool:=decide (many<m.length) || m.any fun r=>Zk8 r many words
def Znk(m:List (List Fz))(many words:Nat)(i:Nat):St:=⟨[(0,.sl (Z3 m) .an),(1,.i .i64 many),(2,.i .i64 words),(7,.i .i64 i)],[],2⟩
end
end Go.Ab
end
section
namespace Go.Ab
section
variable{T:Tbl}[Zp T][Zv T][Zy T][Zr T][Zu T][Za0 T][Zf T][Zn T][Zz T][Zat T][Zby T][Zja T][Zbv T][Zbw T][Zbl T][Zbx T][Zcp T][Zc2 T][Zc3 T][Zc4 T][Zhz T][Zhw T][Zhx T][Zki T]
def Zl3(m:List (List Fz))(i:Nat):St:=⟨[(0,.sl (Z3 m) .an),(3,.bs (.loc 3) 1 1 0 i),(4,.i .i64 i)],[((.loc 3),⟨1,.own,1,Z3 (m.take i)⟩)],3⟩
def Zl4(a b:List (List Fz))(i:Nat):St:=⟨[(0,.sl (Z3 a) .an),(1,.sl (Z3 b) .an),(5,.i .i64 i)],[],2⟩
theorem zadm{q:Rat}(h1:q.num.natAbs<4294967296)(h2:q.den<4294967296):sz q≤1:=Nat.max_le.2 ⟨zah (by simpa using h1),zah (by simpa using h2)⟩
end
end Go.Ab
end
section
namespace Go.Ab
class Zky (T:Tbl):Prop where
end Go.Ab
end
section
namespace Go.Ab
def Zk7(l:List Rat):Nat→Nat
 | 0=>0
 | n+1=>if l.getD n 0=0 then Zk7 l n else n+1
def Zna(l:List Rat):List Rat:=l.take (Zk7 l l.length)
section
variable{T:Tbl}[Zp T][Zv T][Zy T][Zr T][Zu T][Za0 T][Zf T][Zn T][Zz T][Zat T][Zby T][Zky T]
def Zl6:List Rat→Rat→Rat
 | [],_=>0
 | a::l,x=>Zl6 l x*x+a
def dif(l:List Rat):List Rat:=(List.range (l.length-1)).map fun(i:Nat)=>(((i:Int)+1:Int):Rat)*l.getD (i+1) 0
def Zn5(l:List Fz)(i:Nat):St:=⟨[(0,.sl (Zi l) .an),(3,.bs (.loc 3) 1 3 0 i),(4,.i .i64 ((i:Int)+1))],[((.loc 3),⟨1,.own,3,Zi (fzs ((dif (l.map fv)).take i))⟩)],3⟩
end
end Go.Ab
end
section
namespace Go.Ab
def Zea(x:Fz):Nat:=Z2 (val x.2.1)+Z2 (val x.2.2)
def Zk9(l:List Fz):Nat:=l.foldl (fun n x=>max n (Zea x)) 0
theorem zf8{x k:Nat}(h:(ofN x).length≤k):Z2 x≤32*k:=by
 unfold Z2;split
 ·omega
 ·next h0=>
  have h1:=zaw (ofN x);rw[zae]at h1;have h2:4294967296^(ofN x).length≤4294967296^k:=Yr (by decide) h;have h3:(4294967296:Nat)^k=2^(32*k):=by rw[Yci]
  have:=(Ydn (n:=x) (k:=32*k) h0).2 (by omega);omega
theorem zz8{x:Fz}{k:Nat}(h:fsz x≤k):Zea x≤64*k:=by
 unfold Zea;have h1:=zf8 (Yg (zad x.2.1) (Yg (zh0 x) h));have h2:=zf8 (Yg (zad x.2.2) (Yg (zh1 x) h));omega
section
variable{T:Tbl}[Z9 T][Zp T][Zv T][Zy T][Zr T][Zu T][Za0 T][Zf T][Zn T][Zz T][Za6 T][Zbk T][Zb3 T][Zat T][Zby T][Zfs T]
def Zla(b c:Rat)(i:Nat):Rat:=if i=0 then 0 else if i=1 then b else (if b<c then c else b)
def Zor(b c:Rat)(i:Nat):St:=⟨[(2,.ptr (.loc 2) 1 3 0 0),(3,.ptr (.loc 3) 2 3 0 0),(7,.sl [Zeb (fz b),Zeb (fz c)] .an),(8,.i .i64 2),(9,.i .i64 i)],
 [(.loc 2,⟨1,.str,3,[Zd9]⟩),(.loc 3,⟨2,.str,3,[Zeb (fz (Zla b c i))]⟩)],4⟩
def Zos(l:List Fz)(i:Nat):St:=⟨[(2,.ptr (.loc 2) 1 3 0 0),(3,.ptr (.loc 3) 2 3 0 0),(7,.sl (Zi l) .an),(8,.i .i64 l.length),(9,.i .i64 i)],
 [(.loc 2,⟨1,.str,3,[Zd9]⟩),(.loc 3,⟨2,.str,3,[Zeb (fz (Zke ((l.map fv).take i)))]⟩)],4⟩
def Zot(l:List Fz)(i:Nat):St:=⟨[(3,.i .i64 (Zk9 (l.take i))),(6,.sl (Zi l) .an),(7,.i .i64 l.length),(8,.i .i64 i)],[],2⟩
end
section
variable{T:Tbl}[Zbv T][Zbw T][Zbl T][Zbx T][Zcp T][Zc2 T][Zc3 T][Zc4 T][Zjb T]
def Zou(c:Rat)(p:List Rat)(i:Nat):St:=⟨[(1,.sl (Zi (fzs p)) .an),(2,.ptr (.loc 2) 1 3 0 0),(5,.bs (.loc 5) 2 3 0 i),(6,.i .i64 i)],
 [(.loc 2,⟨1,.str,3,[Zeb (fz c)]⟩),(.loc 5,⟨2,.own,3,Zi (fzs ((Zkt c p).take i))⟩)],4⟩
def Zov(p:List Rat)(i:Nat):St:=⟨[(0,.sl (Zi (fzs p)) .an),(2,.ptr (.loc 2) 1 3 0 0),(3,.ptr (.loc 3) 2 3 0 0),(4,.i .i64 i)],
 [(.loc 2,⟨1,.str,3,[Zd9]⟩),(.loc 3,⟨2,.str,3,[Zeb (fz (Zke (p.take i)))]⟩)],4⟩
end
end Go.Ab
end
section
namespace Go.Ab
structure Ins where
 op:Int
 a:Int
 b:Int
 n:Fz
abbrev Zlm(i:Ins):List AV:=[.i .i64 i.op,.i .i64 i.a,.i .i64 i.b,.b i.n.1,.sl (Za i.n.2.1) .an,.sl (Za i.n.2.2) .an]
def Ziq(l:List Ins):List (List AV):=l.map Zlm
@[simp] theorem z8z:Ziq []=[]:=rfl
structure Tp where
 code:List Ins
 outs:List Int
 dim:Int
 par:Int
abbrev etp(t:Tp):AV:=.agg [.sl (Ziq t.code) .an,.sl (ints t.outs) .an,.i .i64 t.dim,.i .i64 t.par]
def Zct(x:Fz):Bool:=decide (x=fz (fv x))
def Zku(x:Fz):Bool:=!x.1&&x.2.1.isEmpty&&x.2.2.isEmpty
def Zhc(i:Ins):List Int:=if i.op=6∨i.op=11 then [i.a] else if 7≤i.op∧i.op≤10 then [i.a,i.b] else []
def Zfk(i m:Int):Bool:=decide (0≤i)&&decide (i<m)
def Zln(dim par p:Int)(i:Ins):Bool:=
 if i.op=1 then decide (i.a=0)&&decide (i.b=0)&&Zct i.n
 else Zku i.n&&(Zhc i).all (fun r=>Zfk r p) &&
  (if i.op=2 then decide (i.a=0)&&decide (i.b=0)
   else if i.op=3 then Zfk i.a dim&&decide (i.b=0)
   else if i.op=4 then Zfk i.a par&&decide (i.b=0)
   else if i.op=6 then decide (i.b=0)
   else if i.op=11 then decide (-8≤i.b)&&decide (i.b≤8)
   else decide ((Zhc i).length=2))
def Zh4(dim par:Int):Nat→List Ins→Int
 | _,[]=>-1
 | p,i::r=>if Zln dim par p i then Zh4 dim par (p+1) r else p
def Zkv(t:Tp):Bool:=Zfk (t.dim-1) 6&&Zfk t.par 7&&decide ((t.outs.length:Int)=t.dim)&&decide (t.code.length≤300)
def Zkw(t:Tp):Int:=
 if Zkv t=false then -2 else if Zh4 t.dim t.par 0 t.code≠-1 then Zh4 t.dim t.par 0 t.code
 else if (t.outs.all fun o=>Zfk o t.code.length)=false then t.code.length else -1
def okT(t:Tp):Bool:=decide (Zkw t=-1)
structure OkTp (t:Tp):Prop where
 d1:1≤t.dim
 d2:t.dim≤6
 p1:0≤t.par
 p2:t.par≤6
 ol:(t.outs.length:Int)=t.dim
 cl:t.code.length≤300
 may:∀(k:Nat) (i:Ins),t.code[k]? = some i→Zln t.dim t.par k i=true
 outs:∀o∈t.outs,0≤o∧o<t.code.length
structure Po where
 t:Rat
 y:List Rat
 p:List Rat
structure PoF where
 t:Fz
 y:List Fz
 p:List Fz
def PoF.v(x:PoF):Po:=⟨fv x.t,x.y.map fv,x.p.map fv⟩
def Po.f(x:Po):PoF:=⟨fz x.t,fzs x.y,fzs x.p⟩
abbrev ept(x:PoF):AV:=.agg [.b x.t.1,.sl (Za x.t.2.1) .an,.sl (Za x.t.2.2) .an,.sl (Zi x.y) .an,.sl (Zi x.p) .an]
def gI(l:List Rat)(i:Int):Rat:=l.getD i.toNat 0
def Zlo(x:Rat)(e:Int):Rat:=x^e
def Zhp(P:Po)(D:List Rat)(i:Ins):Rat×Bool:=
 if i.op=1 then (fv i.n,true)
 else if i.op=3 then (gI P.y i.a,true)
 else if i.op=4 then (gI P.p i.a,true)
 else if i.op=6 then (-gI D i.a,true)
 else if i.op=7 then (gI D i.a+gI D i.b,true)
 else if i.op=8 then (gI D i.a-gI D i.b,true)
 else if i.op=9 then (gI D i.a*gI D i.b,true)
 else if i.op=10 then (gI D i.a/gI D i.b,decide (gI D i.b≠0))
 else if i.op=11 then (if i.b<0∧gI D i.a=0 then (0,false) else (Zlo (gI D i.a) i.b,true))
 else (P.t,true)
def Zj4(q:Rat):Nat:=Zea (fz q)
def Zir(lim:Nat)(P:Po):List Ins→List Rat→List Rat×Nat×Nat
 | [],D=>(D,0,0)
 | i::r,D=>if (Zhp P D i).2=false then ([],3,D.length) else if lim<Zj4 (Zhp P D i).1 then ([],6,D.length) else Zir lim P r (D++[(Zhp P D i).1])
end Go.Ab
end
section
namespace Go.Ab
abbrev tyI:Ty:=.cons (.int .i64) (.cons (.int .i64) (.cons (.int .i64) (.cons tyF .nil)))
abbrev tyT:Ty:=.cons (.sl tyI) (.cons (.sl (.int .i64)) (.cons (.int .i64) (.cons (.int .i64) .nil)))
abbrev tyP:Ty:=.cons tyF (.cons (.sl tyF) (.cons (.sl tyF) .nil))
end Go.Ab
end
section
namespace Go.Ab
section
variable{T:Tbl}[Zat T][Zbn T]
theorem zll(c:UInt8):Zb T 185 [u8 c.toNat]=some (.b (isD c)):=by
 rw[zab Zbn.h185 rfl,b185];by_cases h1:48≤c.toNat
 ·simp -implicitDefEqProofs[isD,h1]
 ·simp -implicitDefEqProofs[isD,h1]
theorem zij(c:UInt8):Zb T 186 [u8 c.toNat]=some (.b (isL c)):=by
 rw[zab Zbn.h186 rfl,b186];by_cases h1:97≤c.toNat<;>by_cases h2:c.toNat≤122<;>by_cases h3:65≤c.toNat<;>by_cases h4:c.toNat≤90<;>by_cases h5:c.toNat=95 <;>
  simp -implicitDefEqProofs[isL,h1,h2,h3,h4,h5]
theorem zwd(c:UInt8):Zb T 187 [u8 c.toNat]=some (.b (isS c)):=by rw[p187,zq8]
theorem zwe(c:UInt8):Zb T 177 [u8 c.toNat]=some (.i .i64 (Za1 c)):=by
 have h1:=zll (T:=T) c;have h2:=zij (T:=T) c;have h3:=zwd (T:=T) c;rw[zab Zbn.h177 rfl,b177];cases e1:isD c<;>cases e2:isL c<;>cases e3:isS c<;>simp -implicitDefEqProofs[Za1,h1,h2,h3,e1,e2,e3]
theorem zwf(k:Nat)(c:UInt8):Zb T 188 [.i .i64 k,u8 c.toNat]=some (.b (Zdy k c)):=by
 have h1:=zll (T:=T) c;have h2:=zij (T:=T) c;rw[zab Zbn.h188 rfl,b188];by_cases k1:k=1
 ·subst k1;cases e1:isD c<;>cases e2:isL c<;>simp -implicitDefEqProofs[Zdy,h1,h2,e1,e2]
 ·have k1':¬ (k:Int)=1:=by omega
  by_cases k2:k=2
  ·subst k2;cases e1:isD c<;>cases e2:isL c<;>simp -implicitDefEqProofs[Zdy,h1,h2,e1,e2]
  ·have k2':¬ (k:Int)=2:=by omega
   simp -implicitDefEqProofs[Zdy,h1,h2,k1,k2,k1',k2']
theorem zwg(k:Nat):Zb T 179 [.i .i64 k]=some (.i .i64 (Zec k)):=by
 rw[zab Zbn.h179 rfl,b179];by_cases k1:k=1
 ·subst k1;simp -implicitDefEqProofs[Zec]
 ·have k1':¬ (k:Int)=1:=by omega
  by_cases k2:k=2
  ·subst k2;simp -implicitDefEqProofs[Zec]
  ·have k2':¬ (k:Int)=2:=by omega
   simp -implicitDefEqProofs[Zec,k1,k2,k1',k2']
theorem zqg(s:List UInt8)(hs:s.length≤1000000)(k F:Nat):∀n:Nat,(n≤s.length∧n+((s.drop n).takeWhile (Zdy k)).length=F) →
  Zw T 0 0 (.norm false [5]) l178_0 ⟨[(0,.s s),(1,.i .i64 k),(5,.i .i64 n)],[],2⟩=some (.n,⟨[(5,.i .i64 F)],[],2⟩):=by
 refine zau (fun n:Nat=>⟨[(0,.s s),(1,.i .i64 k),(5,.i .i64 n)],[],2⟩) _ (fun n=>s.length-n) _ ?_
 rintro n ⟨hn,hF⟩
 by_cases h0:n<s.length
 ·have hg:s[n]? = some (s[n]'h0):=Ya h0;have hd:=Yw h0;have hgo:=zwf (T:=T) k (s[n]'h0);have hw:IntKind.wrap .i64 ((n:Int)+1)=((n+1:Nat):Int):=zac _ (by omega);by_cases hc:Zdy k (s[n]'h0)=true
  ·left;rw[hd,List.takeWhile_cons_of_pos hc]at hF;refine⟨n+1,⟨h0,by simp only[Yc]at hF;omega⟩,by show s.length-(n+1)<s.length-n;omega,?_,rfl⟩;simp -implicitDefEqProofs[l178_0,h0,hg,hgo,hc,hw]
  ·right;rw[hd,List.takeWhile_cons_of_neg hc]at hF;simp only[Y5,Y2]at hF;subst hF;constructor<;>simp -implicitDefEqProofs[l178_0,h0,hg,hgo,hc]
 ·right;have:n=s.length:=by omega
  subst this;rw[Yar]at hF;simp only[List.takeWhile_nil,Y5,Y2]at hF;subst hF;constructor<;>simp -implicitDefEqProofs[l178_0]
theorem ztf(c:UInt8)(r:List UInt8)(hs:r.length≤100000)(k:Nat):Zb T 178 [.s (c::r),.i .i64 k]=some (.i .i64 (Zce k r)):=by
 have h:=zqg (T:=T) (c::r) (by simp;omega) k (Zce k r) 1 ⟨by simp,rfl⟩;rw[zab Zbn.h178 rfl,b178];simp at h;simp -implicitDefEqProofs[h]
theorem ztg(l:List UInt8)(h:l.length≤1000000):Zb T 184 [.s l,.s [10]]=some (.tup [.s (l.takeWhile (· != 10)),.s ((l.dropWhile (· != 10)).drop 1),.b (l.contains 10)]):=by rw[p184,ziz l h]
def wdR(w:Wd):List AV:=[.i .i64 w.1,.s w.2.1,.i .i64 w.2.2]
def Zjd(l:List Wd):List (List AV):=l.map wdR
def Zm7(s:List UInt8)(i:Nat)(acc:List Wd):St:=
 ⟨[(0,.s s),(3,.ptr (.loc 3) 1 4 0 0),(4,.bs (.loc 4) 2 3 0 acc.length),(5,.i .i64 i)],[(.loc 3,⟨1,.str,4,[[.i .i64 0,.i .i64 0,.i .i64 0,.i .i64 0]]⟩),(.loc 4,⟨2,.own,3,Zjd acc⟩)],4⟩
def Zm8:Except Nat (List Wd)→Option (Ex×St)
 | .ok ws=>some (.n,⟨[(3,.ptr (.loc 3) 1 4 0 0),(4,.bs (.loc 4) 2 3 0 ws.length)],[(.loc 3,⟨1,.str,4,[[.i .i64 0,.i .i64 0,.i .i64 0,.i .i64 0]]⟩),(.loc 4,⟨2,.own,3,Zjd ws⟩)],4⟩)
 | .error e=>some (.r,⟨[(2,.sl [] .an),(3,.ptr (.loc 3) 1 4 0 0)],[(.loc 3,⟨1,.str,4,[[.i .i64 1,.i .i64 0,.i .i64 0,.i .i64 e]]⟩)],3⟩)
def Zlq(r:Except Nat (List Wd)):AV:=
 match r with
 | .ok ws=>.tup [.sl (Zjd ws) .an,.agg [.i .i64 0,.i .i64 0,.i .i64 0,.i .i64 0]]
 | .error e=>.tup [.sl [] .an,.agg [.i .i64 1,.i .i64 0,.i .i64 0,.i .i64 e]]
def Zm9(s:List UInt8):Except Nat (List Wd):=if 4000<s.length then .error 4000 else Zkd (s.drop (Zho false s)) (Zho false s) []
def Za7(k:Int)(t:List UInt8):Bool:=
 match t with
 | []=>false
 | c::r=>decide (k≠0)&&decide ((Za1 c:Int)=k)&&decide (Zce (Za1 c) r=r.length+1)&&decide (r.length+1≤Zec (Za1 c))
theorem zlm(k a:Int)(t:List UInt8)(ht:t.length≤100000):Zb T 172 [.agg [.i .i64 k,.s t,.i .i64 a]]=some (.b (Za7 k t)):=by
 rw[zab Zbn.h172 rfl,b172];cases t with
 | nil=>simp -implicitDefEqProofs[Za7]
 | cons c r=>
  simp only[Yc]at ht;have hk:=zwe (T:=T) c;have hf:=ztf (T:=T) c r (by omega) (Za1 c);have hm:=zwg (T:=T) (Za1 c);by_cases h0:k=0
  ·simp -implicitDefEqProofs[Za7,h0]
  ·by_cases h1:(Za1 c:Int)=k
   ·subst h1;have h0':¬ Za1 c=0:=by omega
    by_cases h2:Zce (Za1 c) r=r.length+1
    ·have h2':((Zce (Za1 c) r:Nat):Int)=(r.length:Int)+1:=by omega
     by_cases h3:r.length+1≤Zec (Za1 c)
     ·have h3':(r.length:Int)+1≤(Zec (Za1 c):Nat):=by omega
      simp -implicitDefEqProofs[Za7,h0',hk,hf,hm,h2,h2',h3,h3']
     ·have h3':¬ (r.length:Int)+1≤(Zec (Za1 c):Nat):=by omega
      simp -implicitDefEqProofs[Za7,h0',hk,hf,hm,h2,h2',h3,h3']
    ·have h2':¬ ((Zce (Za1 c) r:Nat):Int)=(r.length:Int)+1:=by omega
     simp -implicitDefEqProofs[Za7,h0',hk,hf,hm,h2,h2']
   ·simp -implicitDefEqProofs[Za7,h0,hk,h1]
abbrev Wz:=Int×List UInt8×Int
def wzR(w:Wz):List AV:=[.i .i64 w.1,.s w.2.1,.i .i64 w.2.2]
def Zk6(l:List Wz):List (List AV):=l.map wzR
def Zn1(l:List Wz)(i:Nat)(b:BId):St:=
 ⟨[(3,.bs (.loc 3) 1 1 0 i),(6,.sl (Zk6 l) .an),(7,.i .i64 l.length),(8,.i .i64 i)],[(.loc 3,⟨1,.own,1,Zo ((l.take i).map (·.2.1))⟩)],3⟩
end
end Go.Ab
end
section
namespace Go.Ab
structure Tr where
 t:Fz
 w:Fz
 h:Fz
 e:Fz
 y:List Fz
 ok:Bool
abbrev Zmr(r:Tr):List AV:=[.b r.t.1,.sl (Za r.t.2.1) .an,.sl (Za r.t.2.2) .an,.b r.w.1,.sl (Za r.w.2.1) .an,.sl (Za r.w.2.2) .an,.b r.h.1,.sl (Za r.h.2.1) .an,.sl (Za r.h.2.2) .an,.b r.e.1,.sl (Za r.e.2.1) .an,.sl (Za r.e.2.2) .an,.sl (Zi r.y) .an,.b r.ok]
def Zkb(l:List Tr):List (List AV):=l.map Zmr
@[simp] theorem z5t:Zkb []=[]:=rfl
structure Hs where
 l:List Tr
 t:Fz
 y:List Fz
abbrev ehs(h:Hs):AV:=.agg [.sl (Zkb h.l) .an,.b h.t.1,.sl (Za h.t.2.1) .an,.sl (Za h.t.2.2) .an,.sl (Zi h.y) .an]
def Zhb(l:List Fz):Bool:=l.all Zct
def Tr.nums(r:Tr):List Fz:=[r.t,r.w,r.h,r.e]
def Zko(h:Hs):Bool:=(h.l.all fun r=>Zhb r.nums&&Zhb r.y)&&(Zct h.t&&Zhb h.y)
def Zlg(h:Hs):Bool:=(h.l.all fun r=>decide (r.y.length=h.y.length))&&(decide (1≤h.y.length)&&decide (h.y.length≤6))
def Zlh(r:Tr):Bool:=decide (0<fv r.w)&&decide (0<fv r.h)&&decide (fv r.h≤fv r.w)&&decide (0≤fv r.e)
def Zkp(h:Hs):Bool:=h.l.all Zlh
def Zli(r:Tr)(at_:Fz)(y:List Fz):Bool:=if r.ok then decide (fv at_=fv r.t+fv r.h) else decide (fv at_=fv r.t)&&decide (y.map fv=r.y.map fv)
def Zkc(l:List Tr)(t:Fz)(y:List Fz):Fz×List Fz:=match l with | []=>(t,y) | r::_=>(r.t,r.y)
def Zjr:List Tr→Fz→List Fz→Bool
 | [],_,_=>true
 | r::l,t,y=>Zli r (Zkc l t y).1 (Zkc l t y).2&&Zjr l t y
def Zkq(h:Hs):Bool:=Zjr h.l h.t h.y
def Zkr(h:Hs):Int:=if !Zko h then 1 else if !Zlg h then 2 else if 200<h.l.length then 3 else if !Zkp h then 4 else if !Zkq h then 5 else 0
def Zms(h:Hs):Bool:=decide (Zkr h=0)
def Zmt(r:Tr):Tr:=⟨fz (fv r.t),fz (fv r.w),fz (fv r.h),fz (fv r.e),nrm r.y,r.ok⟩
def Zks(l:List Tr):List Tr:=(l.filter (·.ok)).map Zmt
def Znt(h:Hs):List Fz:=(Zks h.l).map (·.t)++[fz (fv h.t)]
def Znu(h:Hs):List (List Fz):=(Zks h.l).map (·.y)++[nrm h.y]
def Zo7(h:Hs):List Fz:=(Zks h.l).map (·.h)
structure HsS (h:Hs) (B:Nat):Prop where
 len:h.l.length≤1000
 t:fsz h.t≤B
 y:∀x∈h.y,fsz x≤B
 yl:h.y.length≤1000
 rt:∀r∈h.l,∀x∈r.nums,fsz x≤B
 ry:∀r∈h.l,∀x∈r.y,fsz x≤B
 rl:∀r∈h.l,r.y.length≤1000
end Go.Ab
end
section
namespace Go.Ab
theorem znf:∀(a b:List UInt32),a.length=b.length→val a=val b→a=b
 | [],[],_,_=>rfl
 | x::a,y::b,hl,hv=>by
  simp only[zap]at hv;have hx:=zam x;have hy:=zam y;have h1:x.toNat=y.toNat:=by omega
  have h2:val a=val b:=by omega
  rw[UInt32.toNat_inj.1 h1,znf a b (by simpa using hl) h2]
 | [],_::_,hl,_=>by simp at hl
 | _::_,[],hl,_=>by simp at hl
theorem ze3{x y:Nat}:Zel x y=0↔x=y:=by
 grind[Zel]
section
variable{T:Tbl}[Z9 T][Zp T][Zv T][Zy T][Zr T][Zu T][Zf T][Zn T][Zz T][Zbc T]
theorem zqd(x:Fz)(hx:fsz x≤10000):Zb T 208 [efz x]=some (.b (Zct x)):=by
 have hn:=zlk (T:=T) x hx;have hs:=zme (x:=x) (L:=10000) hx (by decide);have l1:=ziy (fv x);have l2:=zhr (fv x);unfold Zct;have e':fz (fv x)=(decide ((fv x).num<0),ofN (fv x).num.natAbs,ofN (fv x).den):=rfl;rw[e']at hn ⊢;obtain⟨n,a,d⟩:=x;have la:=zh0 (n,a,d);have ld:=zh1 (n,a,d);simp only at la ld;generalize decide ((fv (n,a,d)).num<0)=m at *
 generalize ofN (fv (n,a,d)).num.natAbs=b at *
 generalize ofN (fv (n,a,d)).den=e at *
 have c1:=zfk (T:=T) a b (by omega) (by omega);have c2:=zfk (T:=T) d e (by omega) (by omega);rw[zab Zbc.h208 rfl,b208];by_cases h1:n=m
 case neg=>
  have hd:decide ((n,a,d)=(m,b,e))=false:=by grind
  have hb:(n == m)=false:=by grind
  rw[hd];simp -implicitDefEqProofs[hn,hb]
 subst h1;by_cases h2:a.length=b.length
 case neg=>
  have hd:decide ((n,a,d)=(n,b,e))=false:=by
   grind
  have hb:((a.length:Int) == b.length)=false:=by grind
  rw[hd];simp -implicitDefEqProofs[hn,hb]
 by_cases h3:d.length=e.length
 case neg=>
  have hd:decide ((n,a,d)=(n,b,e))=false:=by
   grind
  have hb:((d.length:Int) == e.length)=false:=by grind
  rw[hd];simp -implicitDefEqProofs[hn,h2,hb]
 by_cases h4:val a=val b
 case neg=>
  have hd:decide ((n,a,d)=(n,b,e))=false:=by
   grind
  have hc:¬ Zel (val a) (val b)=0:=fun h=>h4 (ze3.1 h);rw[hd];simp -implicitDefEqProofs[hn,h2,h3,c1,hc]
 have hab:=znf a b h2 h4;subst hab;have hk:Zel (val a) (val a)=0:=ze3.2 rfl;rw[hk]at c1;by_cases h5:val d=val e
 case neg=>
  have hd:decide ((n,a,d)=(n,a,e))=false:=by
   grind
  have hc:¬ Zel (val d) (val e)=0:=fun h=>h5 (ze3.1 h);rw[hd];simp -implicitDefEqProofs[hn,h3,c1,c2,hc]
 have hde:=znf d e h3 h5;subst hde;have hk2:Zel (val d) (val d)=0:=ze3.2 rfl;rw[hk2]at c2;have hd:decide ((n,a,d)=(n,a,d))=true:=by simp
 simp -implicitDefEqProofs[hn,c1,c2]
def Zny(a:List UInt32)(k i:Nat):St:=⟨[(0,.sl (Za a) .an),(5,.sl (Za (ofN (val a^i))) .an),(7,.i .i64 k),(8,.i .i64 i)],[],2⟩
def Znz(q:Rat)(e:Int):Rat×Bool:=if -8≤e∧e≤8∧¬ (e<0∧q=0) then (Zlo q e,true) else (0,false)
end
end Go.Ab
end
section
namespace Go.Ab
@[simp] theorem z8w:ints []=[]:=rfl
section
variable{T:Tbl}[Z9 T][Zp T][Zv T][Zy T][Zr T][Zu T][Zf T][Zn T][Zz T][Zbc T][Zc9 T]
def Zo4(t:Tp)(p:Nat)(x:Ins)(i:Nat):St:=
 ⟨[(1,.i .i64 p),(2,.ptr (.loc 2) 1 4 0 0),(5,.ptr (.loc 5) 2 6 0 0),(30,.sl (ints (Zhc x)) .an),(31,.i .i64 (Zhc x).length),(32,.i .i64 i)],
  [(.loc 2,⟨1,.str,4,[[.sl (Ziq t.code) .an,.sl (ints t.outs) .an,.i .i64 t.dim,.i .i64 t.par]]⟩),(.loc 5,⟨2,.str,6,[Zlm x]⟩)],4⟩
end
end Go.Ab
end
section
namespace Go.Ab
section
variable{T:Tbl}[Z9 T][Zp T][Zv T][Zy T][Zr T][Zu T][Zf T][Zn T][Zz T][Zbc T][Zc9 T]
structure Small (t:Tp):Prop where
 code:t.code.length≤4294967296
 outs:t.outs.length≤4294967296
 ns:∀i∈t.code,fsz i.n≤10000
 d1:-9223372036854775808≤t.dim
 d2:t.dim<9223372036854775808
def bxT(t:Tp):Box:=⟨1,.str,4,[[.sl (Ziq t.code) .an,.sl (ints t.outs) .an,.i .i64 t.dim,.i .i64 t.par]]⟩
def Zo5(t:Tp)(i:Nat):St:=⟨[(1,.ptr (.loc 1) 1 4 0 0),(11,.i .i64 t.code.length),(12,.i .i64 i)],[(.loc 1,bxT t)],3⟩
def Zo6(t:Tp)(i:Nat):St:=⟨[(1,.ptr (.loc 1) 1 4 0 0),(22,.sl (ints t.outs) .an),(23,.i .i64 t.outs.length),(24,.i .i64 i)],[(.loc 1,bxT t)],3⟩
end
end Go.Ab
end
section
namespace Go.Ab
def Zlw(n:Int):Int:=if n<0 then 0 else if 4096<n then 4096 else n
abbrev bxG(g:Nat)(s p L:Int):Box:=⟨g,.str,3,[[.i .i64 s,.i .i64 p,.i .i64 L]]⟩
def Zk1(s:Int):Int:=IntKind.wrap .i64 (s+1)
def Zk2(p:Int)(x:Fz):Int:=if p<(Zea x:Int) then (Zea x:Int) else p
section
variable{T:Tbl}[Z9 T][Zp T][Zv T][Zy T][Zr T][Zu T][Zf T][Zn T][Zz T][Zbc T][Zbk T][Zb3 T][Zc9 T][Zco T][Zdx T]
theorem zqe(x:Fz)(hx:fsz x≤10000):Zb T 223 [efz x]=some (.i .i64 (Zea x)):=by
 have h1:=zh0 x;have h2:=zh1 x;have c1:=zf5 (T:=T) x.2.1 (by omega);have c2:=zf5 (T:=T) x.2.2 (by omega);have b1:=zf8 (x:=val x.2.1) (k:=10000) (Yg (zad x.2.1) (by omega));have b2:=zf8 (x:=val x.2.2) (k:=10000) (Yg (zad x.2.2) (by omega));have w:IntKind.wrap .i64 ((Z2 (val x.2.1):Int)+(Z2 (val x.2.2):Int))=((Zea x:Nat):Int):=by
  have e:((Zea x:Nat):Int)=(Z2 (val x.2.1):Int)+(Z2 (val x.2.2):Int):=by unfold Zea;omega
  rw[e];exact zac _ (by omega)
 rw[zab Zbk.h223 rfl,b223];generalize Zea x=S at *
 generalize Z2 (val x.2.1)=B1 at *
 generalize Z2 (val x.2.2)=B2 at *
 simp -implicitDefEqProofs[c1,c2,w]
def Zn0(l:List Fz)(i:Nat):St:=⟨[(3,.bs (.loc 3) 1 3 0 i),(6,.sl (Zi l) .an),(7,.i .i64 l.length),(8,.i .i64 i)],[(.loc 3,⟨1,.own,3,Zi (nrm (l.take i))⟩)],3⟩
structure PoS (x:PoF) (B:Nat):Prop where
 t:fsz x.t≤B
 y:∀u∈x.y,fsz u≤B
 p:∀u∈x.p,fsz u≤B
 yl:x.y.length≤1000
 pl:x.p.length≤1000
end
end Go.Ab
end
section
namespace Go.Ab
abbrev mD:AV:=.agg [.dead]
end Go.Ab
end
section
namespace Go.Ab
theorem zo4{n b:Nat}(h:Z2 n≤b):(ofN n).length≤b/32+1:=by
 refine zah ?_;unfold Z2 at h;split at h
 ·grind
 ·rename_i h0;have h1:n<2^(n.log2+1):=(Ydn h0).1 (Y1 _);have h3:(4294967296:Nat)^(b/32+1)=2^(32*(b/32+1)):=by rw[Yci]
  have h2:2^(n.log2+1)≤2^(32*(b/32+1)):=Yr (by decide) (by omega);omega
theorem zz9{q:Rat}{b:Nat}(h:Zj4 q≤b):sz q≤b/32+1:=by
 unfold Zj4 Zea fz at h;rw[zae,zae]at h;exact Nat.max_le.2 ⟨zo4 (Yg (Nat.le_add_right _ _) h),zo4 (Yg (Nat.le_add_left _ _) h)⟩
structure PvS (P:Po) (B:Nat):Prop where
 t:sz P.t≤B
 y:∀q∈P.y,sz q≤B
 p:∀q∈P.p,sz q≤B
def Zjg(lim:Nat)(P:Po):List Ins→List Rat→Int→Int→Int×Int
 | [],_,s,p=>(s,p)
 | i::r,D,s,p=>if (Zhp P D i).2=false then (s,p) else if lim<Zj4 (Zhp P D i).1 then (Zk1 s,Zk2 p (fz (Zhp P D i).1)) else Zjg lim P r (D++[(Zhp P D i).1]) (Zk1 s) (Zk2 p (fz (Zhp P D i).1))
abbrev bxM:Box:=⟨3,.str,1,[[.ptr (.bor 0) 0 3 0 0]]⟩
abbrev bxP(g:Nat)(x:PoF):Box:=⟨g,.str,5,[[.b x.t.1,.sl (Za x.t.2.1) .an,.sl (Za x.t.2.2) .an,.sl (Zi x.y) .an,.sl (Zi x.p) .an]]⟩
abbrev bxF(g:Nat)(a b c d:Int):Box:=⟨g,.str,4,[[.i .i64 a,.i .i64 b,.i .i64 c,.i .i64 d]]⟩
def Znn(Q:PoF)(L:Int)(code:List Ins)(i:Nat)(D:List Fz)(s p:Int)(kd:Kind):St:=
 ⟨[(3,.ptr (.loc 3) 3 1 0 0),(5,.ptr (.loc 5) 4 5 0 0),(7,.ptr (.loc 7) 5 4 0 0),(8,.bs (.loc 8) 6 3 0 i),(34,.sl (Ziq code) .an),(35,.i .i64 code.length),(36,.i .i64 i)],
  [(.bor 0,bxG 0 s p L),(.loc 3,bxM),(.loc 5,bxP 4 Q),(.loc 7,bxF 5 0 0 0 0),(.loc 8,⟨6,kd,3,Zi D⟩)],8⟩
def Zme(n:Nat)(D:List Fz)(s p L:Int)(kd:Kind):Ex×St:=(.n,⟨[(7,.ptr (.loc 7) 3 4 0 0),(8,.bs (.loc 8) 4 3 0 n)],[(.bor 0,bxG 0 s p L),(.loc 7,bxF 3 0 0 0 0),(.loc 8,⟨4,kd,3,Zi D⟩)],6⟩)
def Zmf(kind at_ s p L:Int):Ex×St:=(.r,⟨[(6,.sl [] .an),(7,.ptr (.loc 7) 3 4 0 0)],[(.bor 0,bxG 0 s p L),(.loc 7,bxF 3 kind 0 0 at_)],5⟩)
section
variable{T:Tbl}[Z9 T][Zp T][Zv T][Zy T][Zr T][Zu T][Zf T][Zn T][Zz T][Zbc T][Zbk T][Zb3 T][Zc9 T][Zco T][Zdx T][Zgf T][Zge T]
def kdE(kd:Kind)(l:List Ins):Kind:=if l=[] then kd else .sh
def Zmg(lim:Nat)(P:Po)(code l:List Ins)(D:List Rat)(s p:Int)(kd:Kind):Ex×St:=
 if (Zir lim P l D).2.1=0 then Zme code.length (fzs (Zir lim P l D).1) (Zjg lim P l D s p).1 (Zjg lim P l D s p).2 lim (kdE kd l)
 else Zmf (Zir lim P l D).2.1 (Zir lim P l D).2.2 (Zjg lim P l D s p).1 (Zjg lim P l D s p).2 lim
end
end Go.Ab
end
section
namespace Go.Ab
def Zmh(t:Tp)(y p:Nat):Bool:=okT t&&decide ((y:Int)=t.dim)&&decide ((p:Int)=t.par)
def Zjh(lim:Nat)(t:Tp)(P:Po):List Rat×Nat×Nat:=if Zmh t P.y.length P.p.length=true then Zir lim P t.code [] else ([],2,0)
def Zlb(t:Tp)(D:List Rat):List Rat:=t.outs.map (gI D)
def Zkl(lim:Nat)(t:Tp)(P:Po):List Rat×Nat×Nat:=if (Zjh lim t P).2.1=0 then (Zlb t (Zjh lim t P).1,0,0) else ([],(Zjh lim t P).2)
structure TpS (t:Tp):Prop where
 small:Small t
 ns:∀i∈t.code,fsz i.n≤1000
abbrev Zow(k s g a:Int):AV:=.agg [.i .i64 k,.i .i64 s,.i .i64 g,.i .i64 a]
section
variable{T:Tbl}[Z9 T][Zp T][Zv T][Zy T][Zr T][Zu T][Zf T][Zn T][Zz T][Zbc T][Zbk T][Zb3 T][Zc9 T][Zco T][Zdx T][Zgf T][Zge T]
def Zmi(n:Int):Nat:=(Zlw n).toNat
def Zox(D:List Fz)(outs:List Int)(E:List Fz)(i:Nat)(kd:Kind):St:=
 ⟨[(1,.sl (Zi D) .an),(5,.bs (.loc 5) 1 3 0 i),(20,.sl (ints outs) .an),(21,.i .i64 outs.length),(22,.i .i64 i)],[(.loc 5,⟨1,.own,3,Zi (E.take i)⟩)],3⟩
end
end Go.Ab
end
section
namespace Go.Ab
structure Sm where
 nm:List UInt8
 c:List Fz
 a:List (List Fz)
 b:List Fz
 e:List Fz
abbrev esm(s:Sm):AV:=.agg [.s s.nm,.sl (Zi s.c) .an,.sl (Z3 s.a) .an,.sl (Zi s.b) .an,.sl (Zi s.e) .an]
def Zb4:List (List Fz)→Nat→Bool
 | [],_=>true
 | r::l,i=>decide (r.length=i)&&Zb4 l (i+1)
def Zed(s:Sm):Bool:=decide (1≤s.b.length)&&decide (s.b.length≤8)&&decide (s.c.length=s.b.length)&&decide (s.a.length=s.b.length)&&(decide (s.e.length=s.b.length) || decide (s.e.length=0))&&Zb4 s.a 0
def Zbp(x:Fz):Bool:=Zct x&&decide (Zea x≤190)
def Zc5(m:List (List Fz)):Bool:=m.all fun r=>r.all Zbp
def sumF(l:List Fz):Rat:=l.foldl (fun s x=>s+fv x) 0
def Zcr(a:List (List Fz))(c:List Fz):Bool:=(a.zip c).all fun p=>decide (sumF p.1=fv p.2)
def Zcs(s:Sm):Int:=
 if !Za7 2 s.nm then 1 else if !Zed s then 2 else if !(Zc5 s.a&&Zc5 [s.b,s.c,s.e]) then 3
 else if !Zcr s.a s.c then 4 else if sumF s.b≠1 then 5 else if s.e≠[]∧sumF s.e≠1 then 6 else 0
def okS(s:Sm):Bool:=decide (Zcs s=0)
structure SmS (s:Sm):Prop where
 nm:s.nm.length≤1000
 cl:s.c.length≤1000
 al:s.a.length≤1000
 bl:s.b.length≤1000
 el:s.e.length≤1000
 c:∀x∈s.c,fsz x≤300
 a:∀r∈s.a,r.length≤1000∧∀x∈r,fsz x≤300
 b:∀x∈s.b,fsz x≤300
 e:∀x∈s.e,fsz x≤300
structure Pb where
 t:Tp
 s:Sm
 p:List Fz
 bits:Int
abbrev epb(p:Pb):AV:=.agg [.sl (Ziq p.t.code) .an,.sl (ints p.t.outs) .an,.i .i64 p.t.dim,.i .i64 p.t.par,.s p.s.nm,.sl (Zi p.s.c) .an,.sl (Z3 p.s.a) .an,.sl (Zi p.s.b) .an,.sl (Zi p.s.e) .an,.sl (Zi p.p) .an,.i .i64 p.bits]
def okP(p:Pb):Bool:=okT p.t&&okS p.s&&decide ((p.p.length:Int)=p.t.par)
end Go.Ab
end
section
namespace Go.Ab
abbrev Zlu:Ty:=.cons .str (.cons (.sl tyF) (.cons (.sl (.sl tyF)) (.cons (.sl tyF) (.cons (.sl tyF) .nil))))
abbrev Znw:Ty:=.cons tyT (.cons Zlu (.cons (.sl tyF) (.cons (.int .i64) .nil)))
abbrev Zlv:Ty:=.cons tyF (.cons tyF (.cons tyF (.cons tyF (.cons (.sl tyF) (.cons .bool .nil)))))
abbrev Znx:Ty:=.cons (.sl Zlv) (.cons tyF (.cons (.sl tyF) .nil))
end Go.Ab
end
section
namespace Go.Proofs.YtoppjelfghopnaaGreatDoor
open Go Go.Ab Go.ChangeShapes Go.WideShapes Go.ChangeAt Go.RowKit
theorem Tryz.own:ownKnob Tryz.prog.godebug=none:=by kernel_rfl
theorem Tryz.laidOut:laidOutB Tryz.prog=true:=by kernel_rfl
theorem Tryz.mixed:Tryz.prog.follows .mixedOrders=true:=by kernel_rfl
theorem Tryz.rowed:mapsRowed Tryz.prog=true:=by kernel_rfl
theorem Tryz.heard:Tryz.prog.stopsHeard=true:=by kernel_rfl
theorem Tryz.enters:Tryz.prog.mayEnter=true:=by kernel_rfl
theorem Tryz.keys:Tryz.prog.plainKeys=Rows.stockRightRow.plainKeys:=by kernel_rfl
theorem Tryz.lifts:Tryz.prog.liftsFinal=Rows.stockRightRow.lifted:=by kernel_rfl
theorem Tryz.makes:Tryz.prog.make=some Rows.stockRightRow.make:=by kernel_rfl
def laid2:List (String×DataW Unit):=[("unicode/utf8.acceptRanges",Rows.laid_unicode_utf8_acceptRanges),("unicode/utf8.first",Rows.laid_unicode_utf8_first)]
noncomputable def laidWorld(os:Os):World:=
 let put (h:Array Obj) (g:Nat) (cs:Array Value):Array Obj:=h.modify g fun
  | .cells _ t frozen=>.cells cs t frozen
  | o=>o
 let w0:=World.holding Tryz.prog os ⟨#[],#[],[]⟩
 let h1:=put w0.heap 1 (Lib.firstTab.map fun z=>Value.int .u8 z).toArray
 let h2:=put h1 2 ((List.range 16).flatMap fun i=>[Value.int .u8 (Lib.accLo i),Value.int .u8 (Lib.accHi i)]).toArray
 { w0 with heap:=h2 }
theorem laid_met(os:Os)(args:Array Value):laidMetH Tryz.prog laid2 ((laidWorld os).forCall (fun _ _=>0) ⟨#[],args,[]⟩).memory:=
 laidMetH_of_parts3 (fuel:=8) (laidMet_of_run' 8 (by kernel_rfl) (by kernel_rfl)) (by kernel_rfl) (by kernel_rfl)
theorem laid_shaped(os:Os):(laidWorld os).Shaped Tryz.prog:=World.shaped_of_RefB (by kernel_rfl) (by kernel_rfl)
theorem tab_all:TOk Tryz.prog nu (fun u=>lTab.lookup u):=lTab_ok (text_ok Tryz.mixed) (str344_ok) (str194_ok) (str361_ok) (join_ok) (sign_ok) (str184_ok)
end Go.Proofs.YtoppjelfghopnaaGreatDoor
end
section
namespace Go.Ab
def Zt(c:UInt8):List UInt8→List (List UInt8)
 | []=>[[]]
 | b::l=>if b=c then []::Zt c l else match Zt c l with
  | []=>[[b]]
  | p::r=>(b::p)::r
theorem zcf(c:UInt8):∀l:List UInt8,(l.count c=0∧Lib.indexByte l c=-1∧Zt c l=[l]) ∨
  ∃m:Nat,m<l.length∧Lib.indexByte l c=m∧Zt c l=l.take m::Zt c (l.drop (m+1))
 | []=>.inl ⟨rfl,rfl,rfl⟩
 | b::l=>by
  by_cases h:b=c
  ·right;subst h;refine⟨0,by simp,?_,?_⟩
   ·simp[Lib.indexByte]
   ·simp[Zt]
  ·have hb:(b == c)=false:=by simpa using h
   rcases zcf c l with ⟨h1,h2,h3⟩ | ⟨m,h1,h2,h3⟩
   ·left;refine⟨by rw[List.count_cons_of_ne h,h1],by simp[Lib.indexByte,hb,h2],by simp[Zt,h,h3]⟩
   ·right;have hm:((m:Int) == -1)=false:=by simp
    refine⟨m+1,by simpa using h1,by simp[Lib.indexByte,hb,h2,hm],by simp[Zt,h,h3]⟩
theorem zbr(c:UInt8):∀l:List UInt8,(Zt c l).length=l.count c+1
 | []=>rfl
 | b::l=>by
  have ih:=zbr c l;by_cases h:b=c
  ·subst h;simp[Zt,ih]
  ·rw[List.count_cons_of_ne h,←ih];cases hs:Zt c l with
   | nil=>rw[hs]at ih;simp at ih
   | cons p r=>simp[Zt,h,hs]
theorem z0f{T:Tbl}[Zcq T](s:List UInt8)(c:UInt8):Zb T 194 [.s s,.s [c]]=some (.i .i64 (Lib.indexByte s c)):=by rw[p194];rfl
theorem z0g{T:Tbl}[Zcq T](s:List UInt8)(c:UInt8):Zb T 361 [.s s,.s [c]]=some (.i .i64 ((s.count c:Nat):Int)):=by rw[p361];rfl
section
variable{T:Tbl}[Zcq T][Zak T]
theorem zl8(s:List UInt8)(c:UInt8):Zb T 362 [.s s,.s [c]]=some (.i .i64 (Lib.indexByte s c)):=by
 have h:=z0f (T:=T) s c;rw[zab Zak.h362 rfl,b362];simp -implicitDefEqProofs[h]
def Zj2(c:UInt8)(N:Nat)(ps:List (List UInt8))(s:List UInt8):St:=
 ⟨[(0,.s s),(1,.s [c]),(2,.i .i64 0),(3,.i .i64 ((N:Int)-1)),(9,.bs (.loc 31) 1 1 0 N),(10,.i .i64 ps.length)],[(.loc 31,⟨1,.own,1,Zo ps++List.replicate (N-ps.length) [.s []]⟩)],3⟩
theorem zqw(c:UInt8)(all:List (List UInt8))(hN:all.length≤1000001):∀y:List (List UInt8)×List UInt8,(y.1++Zt c y.2=all∧y.2.length≤1000000) →
  Zw T 0 0 (.norm false [0,9,10]) l354_0 (Zj2 c all.length y.1 y.2)=some (.n,⟨[(0,.s (all.getLastD [])),(9,.bs (.loc 31) 1 1 0 all.length),(10,.i .i64 ((all.length:Int)-1))],[(.loc 31,⟨1,.own,1,Zo all.dropLast++[[.s []]]⟩)],3⟩):=by
 refine zau (fun y:List (List UInt8)×List UInt8=>Zj2 c all.length y.1 y.2) (fun y=>y.1++Zt c y.2=all∧y.2.length≤1000000) (fun y=>y.2.length) (fun _=>_) ?_
 rintro⟨ps,s⟩ ⟨hall,hs⟩
 simp only at hall hs;have hi:=zl8 (T:=T) s c;have hlen:=congrArg List.length hall;rw[Yp,zbr]at hlen;unfold Zj2;rcases zcf c s with ⟨h1,h2,h3⟩ | ⟨m,h1,h2,h3⟩
 ·right;rw[h3]at hall;have e1:all.getLastD []=s:=by rw[←hall];simp
  have e2:all.dropLast=ps:=by rw[←hall];simp
  have e3:all.length-ps.length=1:=by omega
  have e4:¬ (ps.length:Int)<(all.length:Int)-1:=by omega
  have e5:(ps.length:Int)=(all.length:Int)-1:=by omega
  rw[e1,e2,e3,e5];have e6:List.replicate 1 [AV.s []]=[[AV.s []]]:=rfl;rw[e6];have hw:wkL (Zo ps++[[AV.s []]])=Zo ps++[[AV.s []]]:=by
   rw[zb1,Ych,←zb1,zd4]
   rfl
  have hl2:(Zo ps++[[AV.s []]]).length=all.length:=by simp;omega
  clear hall e1 e2 h3;generalize Zo ps++[[AV.s []]]=B at *
  constructor<;>simp -implicitDefEqProofs[l354_0,hw,hl2]
 ·left;rw[h2]at hi;have hpos:0<(Zt c (s.drop (m+1))).length:=by rw[zbr];omega
  have hlen2:=congrArg List.length hall;rw[h3,Yp,Yc]at hlen2;refine⟨(ps++[s.take m],s.drop (m+1)),⟨by rw[←hall,h3];simp,by simp;omega⟩,by simp;omega,?_,rfl⟩;have q1:(ps.length:Int)<(all.length:Int)-1:=by omega
  have q2:¬ (m:Int)<0:=by omega
  have q3:IntKind.wrap .i64 ((m:Int)+0)=m:=by rw[Int.add_zero];exact zac _ (by omega)
  have q3':IntKind.wrap .i64 (m:Int)=m:=zac _ (by omega);have q4:IntKind.wrap .i64 ((m:Int)+1)=((m+1:Nat):Int):=zac _ (by omega);have q5:IntKind.wrap .i64 ((ps.length:Int)+1)=((ps.length+1:Nat):Int):=zac _ (by omega);have q6:(m:Int)≤s.length:=by omega
  have q7:((m+1:Nat):Int)≤s.length:=by omega
  have q7':m+1≤s.length:=by omega
  have q8:(m:Int)+1≤s.length:=by omega
  have e:(Zo ps++List.replicate (all.length-ps.length) [AV.s []]).set ps.length [AV.s (s.take m)]=Zo (ps++[s.take m])++List.replicate (all.length-(ps.length+1)) [AV.s []]:=by
   rw[Yae _ _ (by simp),zar,Ycv,show all.length-ps.length=(all.length-(ps.length+1))+1 by omega,Ya7 (n:=all.length-(ps.length+1)),Yc4,
    show Zo (ps++[s.take m])=Zo ps++[[AV.s (s.take m)]] by simp[Zo],Y6]
   rfl
  have hl:(Zo ps++List.replicate (all.length-ps.length) [AV.s []]).length=all.length:=by simp;omega
  have hk:wkL ((Zo ps++List.replicate (all.length-ps.length) [AV.s []]).set ps.length [AV.s (s.take m)])=(Zo ps++List.replicate (all.length-ps.length) [AV.s []]).set ps.length [AV.s (s.take m)]:=by
   rw[e,zb1,Ych,←zb1,zd4];simp[wkR,wkA]
  have hg:(Zo ps++List.replicate (all.length-ps.length) [AV.s []])[ps.length]? = some [AV.s []]:=by
   rw[Yj (by simp),zar,Ycv,Ycw,if_pos (by omega)]
  simp only[Yp,Yc,Y5];rw[←e];have hnl:ps.length<all.length:=by omega
  have hnl':(ps.length:Int)<all.length:=by omega
  clear e hall h3 hpos hlen hlen2;generalize Zo ps++List.replicate (all.length-ps.length) [AV.s []]=B at *
  obtain⟨hb,hgE⟩:=Yal.1 hg;simp -implicitDefEqProofs[l354_0,hi,q1,q2,q3,q3',q4,q5,q6,q7,q7',q8,hl,hk,hg,hgE,hnl,hnl',h1]
theorem zuc(s:List UInt8)(c:UInt8)(hs:s.length≤1000000):Zb T 346 [.s s,.s [c]]=some (.sl (Zo (Zt c s)) .an):=by
 have hc:=z0g (T:=T) s c;have hcl:s.count c≤s.length:=List.count_le_length;have hlen:=zbr c s;have h:=zqw (T:=T) c (Zt c s) (by omega) ([],s) ⟨by simp,hs⟩;unfold Zj2 at h;simp only[Y5,Nat.sub_zero,Yai]at h;have e0:Zo []=[]:=rfl;rw[e0,Yau,hlen]at h;have w1:IntKind.wrap .i64 ((s.count c:Int)+1)=((s.count c+1:Nat):Int):=zac _ (by omega);have w2:IntKind.wrap .i64 ((s.length:Int)+1)=((s.length+1:Nat):Int):=zac _ (by omega);have w3:IntKind.wrap .i64 (((s.count c+1:Nat):Int)-1)=((s.count c+1:Nat):Int)-1:=zac _ (by omega);have w4:IntKind.wrap .i64 (((s.count c+1:Nat):Int)-1+1)=((s.count c+1:Nat):Int):=by
  rw[Int.sub_add_cancel];exact zac _ (by omega)
 have mm:min ((s.count c+1:Nat):Int) ((s.length+1:Nat):Int)=((s.count c+1:Nat):Int):=by omega
 have hz:wkL (List.replicate (s.count c+1) [AV.s []])=List.replicate (s.count c+1) [AV.s []]:=by rw[zb1,List.map_replicate];rfl
 obtain⟨L,hL⟩:∃L,L=Zt c s:=⟨_,rfl⟩;rw[←hL]at h ⊢ hlen;have hne:L≠[]:=by intro e;rw[e]at hlen;simp at hlen
 have hset:(Zo L.dropLast++[[AV.s []]]).set (s.count c) [AV.s (L.getLastD [])]=Zo L:=by
  have h1:L.dropLast.length=s.count c:=by rw[Ycp];omega
  rw[Yae _ _ (by simp;omega),zar,h1,Ycv,Yc4];have h2:L=L.dropLast++[L.getLastD []]:=by
   rw[List.getLastD_eq_getLast?,List.getLast?_eq_some_getLast hne,Option.getD_some,Ydh]
  conv=>rhs;rw[h2]
  simp[Zo]
 have hl2:(Zo L.dropLast++[[AV.s []]]).length=s.count c+1:=by simp[Ycp];omega
 have hg:(Zo L.dropLast++[[AV.s []]])[s.count c]? = some [AV.s []]:=by
  rw[Yj (by simp[Ycp];omega)];simp[Ycp,hlen]
 have hr:(Zo L).length=s.count c+1:=by simp[hlen]
 have n1:¬ ((s.count c:Int)+1<0):=by omega
 have n2:(s.count c:Int)+1≤4294967296:=by omega
 have hwR:wkL (Zo L)=Zo L:=zd4 L;generalize s.count c=k at *
 generalize Zo L.dropLast++[[AV.s []]]=B at *
 obtain⟨hb,hgE⟩:=Yal.1 hg;generalize L.getLastD []=last at *
 generalize Zo L=R at *
 clear hL hne;have hk:(((k+1:Nat):Int)-1)=k:=by omega
 rw[hk]at h w3 w4;have tk:List.take (k+1) R=R:=Yb (by omega);have hnlt:¬ s.length<k:=by omega
 have nn:(0:Int)≤(k:Int)+1:=by omega
 have nt:((k:Int)+1).toNat=k+1:=by omega
 have nk:(k:Int)<(k:Int)+1:=by omega
 have nle:(k:Int)+1≤(R.length:Int):=by omega
 have nle2:(k:Int)≤(B.length:Int):=by omega
 have hg354:Zb T 354 [.s s,.s [c],.i .i64 0,.i .i64 (-1)]=some (.sl R .an):=by
  rw[zab Zak.h354 rfl,b354];simp -implicitDefEqProofs[hc,w1,w2,w3,w4,mm,hz,h,hset,hl2,hg,hgE,hr,n1,n2,tk,hnlt,nn,nt,nk,nle,nle2,hwR,hr]
 rw[zab Zak.h346 rfl,b346];simp -implicitDefEqProofs[hg354,hwR]
end
end Go.Ab
end