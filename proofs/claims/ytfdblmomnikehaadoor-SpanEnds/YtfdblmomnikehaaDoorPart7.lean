/-
  A calculus of values, boxes and code, and what functions of the program compute, proved in it.
  Conditions: none beyond those that the theorems state. (Part 7.)
-/
import Derived.Test.YtfdblmomnikehaaDoorPart6
import Derived.Test.YtfdblmomnikehaaDoorProg
import Derived.KernelRfl
import Derived.Shelf.RegionOpenPlain
import Derived.Lib.Strings
import Derived.Lib.Slices
import Derived.Lib.Walk
import Derived.Lib.Builder
import Derived.Lib.AppendStr
import Derived.Lib.UnsafeStr
import Derived.Lib.MakeNoZero
import Derived.WalkKit
import Derived.Laws.Externs
import Derived.Laws.IdiomCopy
import Derived.Laws.BitsLemmas
import GoSem.Claims
import Derived.Deep.LoopGhost
import Derived.Shelf.Strings.Builder1
import Derived.Shelf.Strings.Builder2
import Derived.Shelf.Strings.OnBuilder
import Derived.ProofKit
import Derived.OpenShut
import Derived.SizedLaws
import Derived.Test.YtfdblmomnikehaaDoorRows
import Derived.Test.YtfdblmomnikehaaDoorCards
import Derived.Test.YtfdblmomnikehaaDoorTie
import Derived.LaidMore
import Derived.Stop.Joined
import Derived.SevenTiedAt
import Derived.Lib.LaidU8

set_option linter.unusedSectionVars false
set_option linter.unusedVariables false
set_option linter.unusedSimpArgs false
set_option linter.unnecessarySimpa false
set_option linter.defProp false
set_option maxRecDepth 100000

section
namespace Go.Proofs.YtfdblmomnikehaaDoor
open Go Go.Ab
set_option maxRecDepth 100000
def nus:List (Nat×Nat):=[(23,21),(25,66),(27,43),(34,53),(36,67),(37,32),(38,39),(40,50),(41,33),(55,40),(56,41),(57,42),(60,23),(62,61),(68,55),(70,37),(71,45),(72,34),(73,73),(85,62),(86,52),(87,54),(88,63),(89,44),(90,68),(91,75),(93,77),(94,78),(101,69),(103,70),(106,65),(115,79),(116,80),(117,64),(118,81),(119,88),(120,89),(121,90),(125,82),(126,83),(127,84),(128,85),(183,36),(198,74),(199,59),(200,60),(201,38),(202,20),(203,19),(205,17),(207,49),(209,16),(210,22),(211,51),(212,31),(213,28),(215,8),(216,46),(217,47),(218,30),(247,14),(248,12),(251,35),(265,11),(271,26),(274,18),(286,15),(287,13),(322,5),(323,7),(324,9),(325,4),(326,10),(329,6),(335,24),(336,25),(337,27),(338,29),(365,3),(2071,45),(2092,76),(2106,65),(2263,48)]
def nu(u:Nat):FuncId:=(nus.lookup u).getD 0
def Zc7(P:Program)(ν:Nat->FuncId)(τ:Nat->Nat)(u:Nat)(af:AFx):Prop:=
 match af.body.isPrim with
 | some f=>∀xs r,f xs=some r->Z9 P (ν u) xs (·=r)
 | none=>if af.body.isBad=true then (∀m∈Zga af,Zc2 P af.np m.1=some (ν m.2))/\(af.res.isEmpty=true->af.np=ν af.nt) else Zbh P (ν u)=some (erF ν τ af)
def ok_pr{P:Program}{ν:Nat->FuncId}{τ:Nat->Nat}{u:Nat}{af:AFx}{f:List AV->Option AV}(h0:af.body.isPrim=some f)(h:∀xs r,f xs=some r->Z9 P (ν u) xs (·=r)):Zc7 P ν τ u af:=by unfold Zc7;rw[h0];exact h
def ok_fn{P:Program}{ν:Nat->FuncId}{τ:Nat->Nat}{u:Nat}{af:AFx}(h0:af.body.isPrim=none)(h1:af.body.isBad=false)(h:Zbh P (ν u)=some (erF ν τ af)):Zc7 P ν τ u af:=by unfold Zc7;rw[h0];simp only[h1];exact h
def ok_cons{P:Program}{ν:Nat->FuncId}{τ:Nat->Nat}{u:Nat}{af:AFx}{l:List (Nat×AFx)}(h:Zc7 P ν τ u af)(hl:∀p∈l,Zc7 P ν τ p.1 p.2) :
  ∀p∈(u,af)::l,Zc7 P ν τ p.1 p.2:=by
 intro p hp;rcases List.mem_cons.1 hp with rfl | hp
 ·exact h
 ·exact hl p hp
def ok_lookup{P:Program}{ν:Nat->FuncId}{l:List (Nat×AFx)}(hl:∀p∈l,Zc7 P ν (Zc fun u=>l.lookup u) p.1 p.2):TOk P ν (fun u=>l.lookup u):=fun _ _ h=>hl _ (zdh h)
def sub_cons{l l2:List (Nat×AFx)}{u:Nat}{af:AFx}(h:l.lookup u=some af)(h2:∀p∈l2,l.lookup p.1=some p.2):∀p∈(u,af)::l2,l.lookup p.1=some p.2:=by
 intro p hp;rcases List.mem_cons.1 hp with rfl | hp
 ·exact h
 ·exact h2 p hp
def pT(i:Nat):List (Nat×AFx):=match i with
 | 0=>[(115,row115),(116,row116),(117,row117),(118,row118),(91,row91),(86,row86),(106,row106),(71,row71),(72,row72),(73,row73),(70,row70),(87,row87),(85,row85),(56,row56),(88,row88),(57,row57),(2106,row2106),(89,row89),(60,row60),(94,row94),(90,row90),(119,row119),(120,row120),(121,row121),(93,row93)]
 | 1=>[(2071,row2071),(2092,row2092),(62,row62),(55,row55),(38,row38),(40,row40),(23,row23),(25,row25),(27,row27),(37,row37),(41,row41),(36,row36),(34,row34),(198,row198),(199,row199),(200,row200),(201,row201),(202,row202),(203,row203),(205,row205),(207,row207),(209,row209),(210,row210),(211,row211),(212,row212)]
 | 2=>[(213,row213),(215,row215),(216,row216),(217,row217),(218,row218),(251,row251),(265,row265),(271,row271),(274,row274),(2263,row2263),(324,row324),(326,row326),(329,row329),(335,row335),(336,row336),(337,row337),(338,row338),(247,row247),(286,row286),(248,row248),(287,row287),(322,row322),(323,row323),(325,row325),(365,row365)]
 | _=>[]
def Zl9:List (Nat×AFx):=[(68,row68),(183,row183)]
def lTab:List (Nat×AFx):=pT 0++pT 1++pT 2++Zl9
def gTab:List (Nat×AFx):=lTab++[(92,row92),(101,row101),(103,row103),(125,row125),(263,row263)]
def tab:Tbl:=fun u=>gTab.lookup u
def Zgy:Nat->Nat:=Zc fun u=>lTab.lookup u
def Zd2(l:List (Nat×AFx)):Prop:=(l.map fun p=>Zbh Tryd.prog (nu p.1))=l.map fun p=>some (erF nu Zgy p.2)
def res_mem{l:List (Nat×AFx)}(h:Zd2 l)(h2:(l.all fun p=>p.2.body.isPrim.isNone&&!p.2.body.isBad)=true):∀p∈l,Zc7 Tryd.prog nu Zgy p.1 p.2:=by
 intro p hp;have h3:=List.all_eq_true.1 h2 p hp;simp only[Bool.and_eq_true,Option.isNone_iff_eq_none,Bool.not_eq_true']at h3;exact ok_fn h3.1 h3.2 (List.map_inj_left.1 h p hp)
def ok_app{l r:List (Nat×AFx)}(h1:∀p∈l,Zc7 Tryd.prog nu Zgy p.1 p.2)(h2:∀p∈r,Zc7 Tryd.prog nu Zgy p.1 p.2):∀p∈l++r,Zc7 Tryd.prog nu Zgy p.1 p.2:=fun p hp=>(List.mem_append.1 hp).elim (h1 p) (h2 p)
def res0:Zd2 (pT 0):=by unfold Zd2;kernel_rfl
def res1:Zd2 (pT 1):=by unfold Zd2;kernel_rfl
def res2:Zd2 (pT 2):=by unfold Zd2;kernel_rfl
def lTab_ok(hp68:∀xs r,prim68 xs=some r->Z9 Tryd.prog (nu 68) xs (·=r))(hp183:∀xs r,prim183 xs=some r->Z9 Tryd.prog (nu 183) xs (·=r)):TOk Tryd.prog nu (fun u=>lTab.lookup u):=ok_lookup (ok_app (ok_app (ok_app (res_mem res0 (by kernel_rfl)) (res_mem res1 (by kernel_rfl))) (res_mem res2 (by kernel_rfl))) (ok_cons (ok_pr rfl hp68) (ok_cons (ok_pr rfl hp183) (fun p hp=>by cases hp))))
def Zi5:List Nat->Bool
 | []=>true
 | a::l=>!l.contains a&&Zi5 l
def sub_app{l r:List (Nat×AFx)}(h:Zi5 (l.map (·.1))=true):∀p∈l,(l++r).lookup p.1=some p.2:=by
 induction l with
 | nil=>intro p hp;cases hp
 | cons a l ih=>
  intro p hp;obtain⟨k,v⟩:=a;simp only[List.map_cons,Zi5,Bool.and_eq_true,Bool.not_eq_true']at h;rcases List.mem_cons.1 hp with rfl | hq
  ·simp
  ·have hne:(p.1 == k)=false:=by
    cases hb:p.1 == k with
    | false=>rfl
    | true=>
     have:=eq_of_beq hb;subst this;have h5:(l.map (·.1)).contains p.1=true:=List.contains_iff_mem.2 (List.mem_map.2 ⟨p,hq,rfl⟩);rw[h5]at h;cases h.1
   rw[List.cons_append,List.lookup_cons,hne];exact ih h.2 p hq
def lTab_part:Part gTab lTab:=⟨sub_app (by kernel_rfl),by kernel_rfl⟩
def sTab:List (Nat×AFx):=[(118,row118),(86,row86),(106,row106),(71,row71),(70,row70),(90,row90),(101,row101),(103,row103),(125,row125)]
def Zeg:Nat->Nat:=Zc fun u=>sTab.lookup u
def ress_118:Zbh Tryd.prog (nu 118)=some (erF nu Zeg row118):=by kernel_rfl
def ress_86:Zbh Tryd.prog (nu 86)=some (erF nu Zeg row86):=by kernel_rfl
def ress_106:Zbh Tryd.prog (nu 106)=some (erF nu Zeg row106):=by kernel_rfl
def ress_71:Zbh Tryd.prog (nu 71)=some (erF nu Zeg row71):=by kernel_rfl
def ress_70:Zbh Tryd.prog (nu 70)=some (erF nu Zeg row70):=by kernel_rfl
def ress_90:Zbh Tryd.prog (nu 90)=some (erF nu Zeg row90):=by kernel_rfl
def ress_101:Zbh Tryd.prog (nu 101)=some (erF nu Zeg row101):=by kernel_rfl
def ress_103:Zbh Tryd.prog (nu 103)=some (erF nu Zeg row103):=by kernel_rfl
def ress_125:Zbh Tryd.prog (nu 125)=some (erF nu Zeg row125):=by kernel_rfl
def sTab_ok:TOk Tryd.prog nu (fun u=>sTab.lookup u):=ok_lookup (ok_cons (ok_fn rfl rfl ress_118) (ok_cons (ok_fn rfl rfl ress_86) (ok_cons (ok_fn rfl rfl ress_106) (ok_cons (ok_fn rfl rfl ress_71) (ok_cons (ok_fn rfl rfl ress_70) (ok_cons (ok_fn rfl rfl ress_90) (ok_cons (ok_fn rfl rfl ress_101) (ok_cons (ok_fn rfl rfl ress_103) (ok_cons (ok_fn rfl rfl ress_125) (fun p hp=>by cases hp))))))))))
def sTab_part:Part gTab sTab:=⟨sub_cons (by kernel_rfl) (sub_cons (by kernel_rfl) (sub_cons (by kernel_rfl) (sub_cons (by kernel_rfl) (sub_cons (by kernel_rfl) (sub_cons (by kernel_rfl) (sub_cons (by kernel_rfl) (sub_cons (by kernel_rfl) (sub_cons (by kernel_rfl) (fun p hp=>by cases hp))))))))),by kernel_rfl⟩
instance:Za3 tab:=⟨by kernel_rfl,by kernel_rfl,by kernel_rfl,by kernel_rfl,by kernel_rfl⟩
instance:Zl tab where
 h115:=by kernel_rfl
 h116:=by kernel_rfl
 h117:=by kernel_rfl
 h118:=by kernel_rfl
 h91:=by kernel_rfl
 h86:=by kernel_rfl
 h106:=by kernel_rfl
 h71:=by kernel_rfl
 h72:=by kernel_rfl
 h73:=by kernel_rfl
 h70:=by kernel_rfl
 h87:=by kernel_rfl
 h85:=by kernel_rfl
 h56:=by kernel_rfl
 h88:=by kernel_rfl
 h57:=by kernel_rfl
 h2106:=by kernel_rfl
instance:Zs tab where
 h115:=by kernel_rfl
 h116:=by kernel_rfl
 h117:=by kernel_rfl
 h118:=by kernel_rfl
 h91:=by kernel_rfl
 h86:=by kernel_rfl
 h106:=by kernel_rfl
 h71:=by kernel_rfl
 h72:=by kernel_rfl
 h73:=by kernel_rfl
 h70:=by kernel_rfl
 h87:=by kernel_rfl
 h85:=by kernel_rfl
 h56:=by kernel_rfl
 h88:=by kernel_rfl
 h57:=by kernel_rfl
 h2106:=by kernel_rfl
 h89:=by kernel_rfl
 h60:=by kernel_rfl
instance:Zt tab:=⟨by kernel_rfl,by kernel_rfl⟩
instance:Zo tab:=⟨by kernel_rfl,by kernel_rfl,by kernel_rfl,by kernel_rfl,by kernel_rfl⟩
instance:Zq tab:=⟨by kernel_rfl,by kernel_rfl,by kernel_rfl⟩
instance:Zb0 tab:=⟨by kernel_rfl⟩
instance:Za8 tab:=⟨by kernel_rfl⟩
instance:Zf1 tab:=⟨by kernel_rfl,by kernel_rfl⟩
instance:Zi tab:=⟨by kernel_rfl,by kernel_rfl,by kernel_rfl,by kernel_rfl,by kernel_rfl,by kernel_rfl,by kernel_rfl,by kernel_rfl,by kernel_rfl,by kernel_rfl⟩
instance:Zm tab:=⟨by kernel_rfl,by kernel_rfl,by kernel_rfl,by kernel_rfl⟩
instance:Zp tab:=⟨by kernel_rfl,by kernel_rfl,by kernel_rfl,by kernel_rfl,by kernel_rfl,by kernel_rfl,by kernel_rfl,by kernel_rfl,by kernel_rfl,by kernel_rfl,by kernel_rfl,by kernel_rfl,by kernel_rfl⟩
instance:Zgc tab where
instance:Za7 tab:=⟨by kernel_rfl⟩
instance:Zbg tab:=⟨by kernel_rfl,by kernel_rfl,by kernel_rfl,by kernel_rfl,by kernel_rfl,by kernel_rfl⟩
instance:Zbf tab:=⟨by kernel_rfl,by kernel_rfl,by kernel_rfl,by kernel_rfl,by kernel_rfl,by kernel_rfl,by kernel_rfl⟩
instance:Zih tab where
instance:Zaz tab where
instance:Za0 tab where
instance:Zan tab where
instance:Za1 tab where
instance:Zbe tab where
instance:Zbn tab where
instance:Zba tab:=⟨by kernel_rfl⟩
instance:Zbo tab:=⟨by kernel_rfl⟩
instance:Zeo tab where
instance:Zge tab where
instance:Zdy tab:=⟨by kernel_rfl⟩
instance:Zdz tab:=⟨by kernel_rfl⟩
instance:Zc3 tab:=⟨by kernel_rfl,by kernel_rfl,by kernel_rfl⟩
instance:Ze7 tab:=⟨by kernel_rfl⟩
end Go.Proofs.YtfdblmomnikehaaDoor
end
section
namespace Go.Proofs
open Go.RowKit
def Tryd.sizeBuilder:(Tryd.prog.info? 92).map (·.size)=some 2:=by kernel_rfl
def Tryd.liesBuilder:liesAt Tryd.prog Tryd.prog.depth 92 (2/Tryd.prog.cellsOf 92) 0 92 1=true:=by kernel_rfl
def Tryd.infoByte:(Tryd.prog.info? 5).map (fun i=>(i.zero,i.size,i.bytes))=some (some (.int .u8 0),1,1):=by kernel_rfl
def Tryd.cellsByte:Tryd.prog.cellsOf 5=1:=by kernel_rfl
set_option maxHeartbeats 1000000 in
set_option maxRecDepth 100000 in
def Tryd.bString(B b:Nat)(l:List UInt8)(w:World)(h:Lib.IsBuilder 92 5 B b (Lib.byteCells l) w)(h0:l≠[]) :
  Calls Tryd.prog 58 #[.pointer (some ⟨b,0,none⟩)] w fun e w'=>e=.returned (.string ⟨l.toArray⟩)/\Below B w w':=by
 obtain⟨p,hB,v,hbk,hown,hne⟩:∃p,Lib.BuilderAt 92 5 B b p (Lib.byteCells l) w:=by
  rcases h with h | h
  ·exact⟨_,h⟩
  ·exact⟨_,h⟩
 have hl0:l.length≠0:=by simpa using h0
 rw[Lib.byteCells_length]at hown;obtain⟨g,cap,cur,rfl,hbg,hg,hnc,hcm,hcs,htake⟩:∃g cap cur,v=.slice (some ⟨g,0,none⟩) l.length cap/\B<=g/\w.heap[g]? = some (.cells cur 5 (0,0))/\l.length<=cap/\cap<=maxLen/\cur.size=cap*1/\cur.toList.take (l.length*1)=Lib.byteCells l:=by
  rcases hown.2 with ⟨_,hz⟩ | ⟨g,cap,cur,hv,r⟩
  ·exact absurd hz hl0
  ·exact⟨g,cap,cur,hv,r⟩
 have c1:w.drew.cell? ⟨b,1,none⟩=some (.slice (some ⟨g,0,none⟩) l.length cap):=by
  have:w.drew.heap[b]? = some (.cells #[p,.slice (some ⟨g,0,none⟩) l.length cap] 92 (0,0)):=hbk;rw[Lib.cell_of_heap this];rfl
 have hSD:(Builtin.unsafeSliceData_ #[90] 112 #[.slice (some ⟨g,0,none⟩) l.length cap]).run Tryd.prog w.drew=.ok (.pointer (some ⟨g,0,none⟩)) w.drew:=
  Lib.run_unsafeSliceData_row _ _ _ _ _ _ (by omega)
 have hUS:(Builtin.unsafeString_ #[112,3] 9 #[.pointer (some ⟨g,0,none⟩),.int .i64 l.length]).run Tryd.prog w.drew=.ok (.string ⟨l.toArray⟩) (w.drew.freeze ⟨g,0,none⟩ l.length):=by
  refine Lib.run_unsafeString_row w.drew 112 3 9 5 Tryd.underlying112 Tryd.cellsByte g cur.size (by have hg':w.drew.heap[g]? = some (.cells cur 5 (0,0)):=hg;simp[World.shape?,hg']) l h0 (by omega) (by unfold maxLen at hcm;omega) ?_;intro j x hx;have:=hown.cells (g:=g) rfl j (.int .u8 x.toNat) (by simp[Lib.byteCells,hx]);exact this
 go_enter Tryd.func58,Tryd.ntmps58
 go_wp2
 go_region
 all_goals (go_wp2;go_ret;exact⟨rfl,Lib.below_freeze (Below.drew (Below.refl B w)) (p:=⟨g,0,none⟩) hbg _⟩)
set_option maxHeartbeats 1000000 in
set_option maxRecDepth 100000 in
def Tryd.bCheck_used(b:Nat)(w:World)(h0:w.cell? ⟨b,0,none⟩=some (.pointer (some ⟨b,0,none⟩))) :
  Calls Tryd.prog 71 #[.pointer (some ⟨b,0,none⟩)] w fun e w'=>e=.returned (.tuple #[])/\w'=w:=by
 obtain⟨j,hj,_⟩:=Option.map_eq_some_iff.1 Tryd.sizeBuilder
 go_enter Tryd.func71,Tryd.ntmps71
 go_wp2
 rw[Lib.run_neq_ptr_same w _ Tryd.underlying89 hj]
 go_wp2
 go_end0
 exact⟨rfl,rfl⟩
set_option maxHeartbeats 1000000 in
set_option maxRecDepth 100000 in
def Tryd.bCheck_fresh(b:Nat)(w:World)(h0:w.cell? ⟨b,0,none⟩=some (.pointer none))(hsh:w.shape? b=some (92,2))(hfz:w.frozen? ⟨b,0,none⟩=false) :
  Calls Tryd.prog 71 #[.pointer (some ⟨b,0,none⟩)] w fun e w'=>e=.returned (.tuple #[])/\w'=w.setCell ⟨b,0,none⟩ (.pointer (some ⟨b,0,none⟩)):=by
 obtain⟨j,hj,hjs⟩:=Option.map_eq_some_iff.1 Tryd.sizeBuilder
 go_enter Tryd.func71,Tryd.ntmps71
 go_wp2
 rw[Lib.run_to_unsafe w ⟨b,0,none⟩ Tryd.underlying89 Tryd.underlying128 hj (by rw[hjs];decide) hsh (Nat.zero_lt_succ 1)];simp only[Result.andThen];rw[Oper.upon_value]
 go_wp2
 rw[run_callFunc_extern Tryd.func86 (by kernel_rfl) (by kernel_rfl) (by kernel_rfl) (e:=Extern.AbiNoEscape.same) (by kernel_rfl)];rw[Lib.run_noEscape];simp only[Result.andThen];rw[Oper.upon_value]
 go_wp2
 rw[Lib.run_from_unsafe w ⟨b,0,none⟩ Tryd.underlying128 Tryd.underlying89 hj hsh Tryd.liesBuilder];simp only[Result.andThen];rw[Oper.upon_value]
 go_wp2
 go_end0
 exact⟨rfl,rfl⟩
def Tryd.bCheck(B b:Nat)(bs:List Value)(w:World)(h:Lib.IsBuilder 92 5 B b bs w) :
  Calls Tryd.prog 71 #[.pointer (some ⟨b,0,none⟩)] w fun e w'=>e=.returned (.tuple #[])/\(Lib.BuilderAt 92 5 B b (.pointer (some ⟨b,0,none⟩)) bs w'/\Below B w w'):=by
 rcases h with h | h
 ·refine(Tryd.bCheck_fresh b w h.cell0 h.shape h.frozen0).mono ?_
  rintro e w' ⟨rfl,rfl⟩
  exact⟨rfl,h.used _,(Below.refl B w).setCell (p:=⟨b,0,none⟩) h.1 _⟩
 ·refine(Tryd.bCheck_used b w h.cell0).mono ?_
  rintro e w' ⟨rfl,rfl⟩
  exact⟨rfl,h,Below.refl B _⟩
set_option maxHeartbeats 2000000 in
set_option maxRecDepth 100000 in
def Tryd.bWrite(B b:Nat)(bs:List Value)(s:ByteArray)(w:World)(h:Lib.IsBuilder 92 5 B b bs w)(hlen:bs.length+s.size<=140737488355328)(hBw:B<=w.heap.size) :
  Calls Tryd.prog 57 #[.pointer (some ⟨b,0,none⟩),.string s] w fun e w'=>e=.returned (.tuple #[.int .i64 s.size,.nilIface])/\(Lib.BuilderAt 92 5 B b (.pointer (some ⟨b,0,none⟩)) (bs++Lib.strCells s) w'/\Below B w w'):=by
 obtain⟨i0,hi,hz0,hz1,hz2⟩:=info_parts Tryd.infoByte
 go_enter Tryd.func57,Tryd.ntmps57
 go_wp2_with (go_at_call 71;refine(Tryd.bCheck B b bs _ h).mono ?_)
 rintro e w1 ⟨rfl,h1,hb1⟩
 obtain⟨hB,v,hbk,hown,hne⟩:=h1;have c0:w1.cell? ⟨b,0,none⟩=some (.pointer (some ⟨b,0,none⟩)):=by rw[Lib.cell_of_heap hbk];rfl
 have c1:w1.cell? ⟨b,1,none⟩=some v:=by rw[Lib.cell_of_heap hbk];rfl
 go_wp2_with (at_builtin;refine Lib.wpList_append_own_string _ rfl _ _ 90 9 rfl B 5 i0 Tryd.underlying90 Tryd.underlying9 hi hz0 hz1 hz2 _ _ _ rfl hown s rfl ?c3 ?c4 ?c5 ?_)
 case c3=>unfold maxLen;omega
 case c4=>omega
 case c5=>have:=hb1.size;omega
 intro v' w2 hown' hgrow _;have hlt:b<w1.heap.size:=by
  rcases Nat.lt_or_ge b w1.heap.size with h' | h'
  ·exact h'
  ·simp[Array.getElem?_eq_none h']at hbk
 have hb2:w2.heap[b]? = some (.cells #[.pointer (some ⟨b,0,none⟩),v] 92 (0,0)):=by
  rw[hgrow.block b hlt (fun e=>hne e.symm)];exact hbk
 have d0:w2.cell? ⟨b,0,none⟩=some (.pointer (some ⟨b,0,none⟩)):=by rw[Lib.cell_of_heap hb2];rfl
 have d1:w2.cell? ⟨b,1,none⟩=some v:=by rw[Lib.cell_of_heap hb2];rfl
 have f1:w2.frozen? ⟨b,1,none⟩=false:=Lib.frozen_of_heap hb2 1;obtain⟨ao,n',cap,rfl⟩:∃ao n' cap,v'=.slice ao n' cap:=by
  rcases hown'.2 with ⟨hv,_⟩ | ⟨g,cap,cur,hv,_⟩
  ·exact⟨_,_,_,hv⟩
  ·exact⟨_,_,_,hv⟩
 go_wp2
 go_ret2
 refine⟨rfl,?_,?_⟩
 ·exact Lib.BuilderAt.put (T:=92) (e:=5) hB hb2 (bs':=bs++Lib.strCells s) (by simpa[Lib.strCells_length]using hown') (by decide)
 ·exact(hb1.grown hgrow (by have:=hb1.size;omega) (fun k hk=>(hown.lt k hk).1)).setCell (p:=⟨b,1,none⟩) hB _
end Go.Proofs
end
namespace Go.Ab
def pieces(n:Nat):List (List UInt8):=if h:n=0 then [] else Zce 9 (n%1000000000)::pieces (n/1000000000)
termination_by n
decreasing_by exact Ycd (Y7 h) (by decide)
def zb8:pieces 0=[]:=by unfold pieces;simp
def zcp{n:Nat}(h:n≠0):pieces n=Zce 9 (n%1000000000)::pieces (n/1000000000):=by
 conv=>lhs;unfold pieces
 rw[dif_neg h]
def Zbz(l:List (List UInt8)):List (List AV):=l.map fun s=>[.s s]
@[simp] def zwg(l:List (List UInt8)):(Zbz l).length=l.length:=by simp[Zbz]
@[simp] def zvj(l:List (List UInt8)):wkL (Zbz l)=Zbz l:=by
 induction l with
 | nil=>rfl
 | cons x l ih=>simpa[Zbz,wkL,wkR]using ih
def ztm(l:List (List UInt8))(s:List UInt8):Zbz l++[[.s s]]=Zbz (l++[s]):=by simp[Zbz]
def txL:AX:=
 (.note
 (.seq
 (.seq
  (.reg [⟨(some 11),none,.mov (.t 0)⟩,
   ⟨(some 12),none,.call 70 [(.t 11)]⟩,
   ⟨(some 13),none,.un .not (.t 12)⟩])
  (.cond (.t 13)
  .skip
  (.exit 0)))
 (.block 1
  (.seq
  (.reg [⟨(some 15),none,.mov (.t 0)⟩,
   ⟨(some 16),none,.call 90 [(.t 15),(.c (u32 1000000000))]⟩,
   ⟨(some 14),none,.mov (.t 16)⟩,
   ⟨(some 17),none,.ext (.t 14) 0⟩,
   ⟨(some 18),none,.ext (.t 14) 1⟩,
   ⟨(some 19),none,.ext (.t 14) 2⟩,
   ⟨(some 4),none,.mov (.t 17)⟩,
   ⟨(some 5),none,.mov (.t 18)⟩,
   ⟨(some 6),none,.mov (.t 19)⟩])
  (.seq
   (.reg [⟨(some 20),none,.mov (.t 3)⟩,
    ⟨(some 21),none,.mov (.t 5)⟩,
    ⟨(some 22),none,.call 101 [(.t 21)]⟩,
    ⟨(some 23),none,.bsl 1 [(.s [])] 1 [(0,(.t 22))]⟩,
    ⟨(some 24),none,.app 1 (.t 20) (.t 23)⟩,
    ⟨(some 3),none,.mov (.t 24)⟩])
   (.reg [⟨(some 25),none,.mov (.t 4)⟩,
    ⟨(some 0),none,.mov (.t 25)⟩])))))
 (.norm false [0,3]))
def tx0:AX:=(.reg [⟨(some 2),none,.mov (.c (.s []))⟩])
def txA:AX:=
  (.seq
  (.reg [⟨(some 9),none,.mov (.t 0)⟩,
   ⟨(some 10),none,.call 70 [(.t 9)]⟩])
  (.cond (.t 10)
   (.seq
   (.reg [⟨(some 2),none,.mov (.c (.s [48]))⟩])
   (.pre (.norm false [2]) .ret))
   .skip))
def tx3:AX:=(.note (.reg [⟨(some 3),none,.mov (.c (.sl [] .nl))⟩]) (.nil 3 1))
def txP:AX:=(.lp 0 (.norm false [0,3]) txL (.norm false [3]))
section
variable{T:Tbl}
def zabt(x:AV):evX (orc T) T 0 tx0 ⟨Zbu [x],[],1⟩=some (.n,⟨[(2,.s []),(0,x)],[],1⟩):=by
 simp -implicitDefEqProofs[tx0]
end
section
variable{T:Tbl}[Zl T]
def z3l(a:List UInt32)(hl:a.length<=1000)(h0:val a=0):evX (orc T) T 0 txA ⟨[(2,.s []),(0,.sl (Za a) .an)],[],1⟩=some (.r,⟨[(2,.s [48])],[],2⟩):=by
 have hz:=ze3 (T:=T) a (by omega);simp -implicitDefEqProofs[txA,hz,h0]
end
section
variable{T:Tbl}[Zl T]
def z3m(a:List UInt32)(hl:a.length<=1000)(h0:val a≠0):evX (orc T) T 0 txA ⟨[(2,.s []),(0,.sl (Za a) .an)],[],1⟩ =
  some (.n,⟨[(10,.b false),(9,.sl (Za a) .an),(2,.s []),(0,.sl (Za a) .an)],[],1⟩):=by
 have hz:=ze3 (T:=T) a (by omega);simp -implicitDefEqProofs[txA,hz,h0]
end
section
variable{T:Tbl}[Zl T][Zs T][Zt T][Zo T][Zb0 T]
def Zi4(a:List UInt32)(l:List (List UInt8)):St:=⟨[(0,.sl (Za a) .an),(3,.bs (.loc 3) 1 1 0 l.length)],[((.loc 3),⟨1,.own,1,Zbz l⟩)],3⟩
def zpr(l:List (List UInt8))(s:List UInt8):wkL (List.take l.length (Zbz l)++[[AV.s s]])=Zbz (l++[s]):=by
 rw[Yb (by simp),ztm,zvj]
end
section
variable{T:Tbl}[Zl T][Zo T][Zb0 T]
def zvk(N:Nat)(hN:N<=4294967295)(L:List (List UInt8)):∀y:List UInt32×List (List UInt8),(y.1.length<=1000/\y.2++pieces (val y.1)=L/\L.length=N) ->
  Zr T 0 0 (Gh.norm false [3]) txL (Zi4 y.1 y.2)=some (.n,⟨[(3,.bs (.loc 3) 1 1 0 L.length)],[((.loc 3),⟨1,.own,1,Zbz L⟩)],3⟩):=by
 refine zcc (fun y:List UInt32×List (List UInt8)=>Zi4 y.1 y.2) _ (fun y=>val y.1) _ ?_
 rintro⟨a,l⟩ ⟨ha,hL,hn⟩
 simp only at ha hL hn;have hz:=ze3 (T:=T) a (by omega);by_cases h0:val a=0
 ·right;rw[h0,zb8,Ya3]at hL;subst hL;constructor<;>simp -implicitDefEqProofs[txL,Zi4,hz,h0]
 ·left;have hq:=zk4 (T:=T) a 1000000000 (by omega) (by omega) (by omega);have hn9:=zmh (T:=T) (val a%1000000000) (by omega);have hlen:(ofN (val a/1000000000)).length<=a.length:=Yf (za3 (Ycx _ _)) (zab a);rw[zcp h0]at hL;have hll:l.length<=4294967295:=by have:=congrArg List.length hL;simp at this;omega
  refine⟨(ofN (val a/1000000000),l++[Zce 9 (val a%1000000000)]),⟨by simp only;omega,by simp only[zah,Yax,List.singleton_append];exact hL,hn⟩,?_,?_,rfl⟩
  ·simp only[zah];exact Ycd (Y7 h0) (by decide)
  ·simp -implicitDefEqProofs[txL,Zi4,hz,hq,hn9,h0,hll,zpr]
end
section
variable{T:Tbl}[Zl T][Zs T][Zt T][Zo T][Zb0 T]
theorem ze7:∀k n,n<1000000000^k->(pieces n).length<=k
 | 0,n,h=>by
  have:n=0:=by omega
  subst this;simp[zb8]
 | k+1,n,h=>by
  by_cases h0:n=0
  ·subst h0;simp[zb8]
  ·rw[zcp h0];have:=ze7 k (n/1000000000) (Ya4 (by rw[Y9,<-Yaa];exact h));simp only[Yl];omega
def zlk(a:List UInt32):(pieces (val a)).length<=2*a.length:=by
 refine ze7 _ _ (Yn (za0 a) ?_);rw[Ydy];exact Yc2 (by decide) _
def zmu:∀n,∀s∈pieces n,s.length=9:=by
 intro n
 induction n using Nat.strongRecOn with
 | _ n ih=>
  intro s hs;by_cases h0:n=0
  ·subst h0;simp[zb8]at hs
  ·rw[zcp h0]at hs;rcases Yv.1 hs with rfl | hs
   ·exact zen 9 _
   ·exact ih _ (Ycd (Y7 h0) (by decide)) s hs
theorem zio:∀(k n:Nat),n≠0->n<10^k->(Zce k n).dropWhile (· == 48)=Zaa n
 | 0,n,h0,h=>by omega
 | k+1,n,h0,h=>by
  rw[zd0];by_cases h1:n<10
  ·have e:n/10=0:=by omega
   have e2:n%10=n:=by omega
   have hz:∀j,(Zce j 0).dropWhile (· == 48)=[]:=by
    intro j
    induction j with
    | zero=>rfl
    | succ j ih=>rw[zd0,Yci,Nat.zero_div,ih];rfl
   rw[e,e2,Yci,hz,zdo h1];have:∀d,d<10->d≠0->List.dropWhile (fun x=>x == 48) [UInt8.ofNat (48+d)]=[UInt8.ofNat (48+d)]:=by decide
   simpa using this n h1 h0
  ·have ih:=zio k (n/10) (by omega) (Ya4 (by rw[Y9,<-Yaa];exact h));have hne:Zaa (n/10)≠[]:=by
    unfold Zaa;by_cases h2:n/10<10
    ·rw[zim h2];simp
    ·rw[znz h2];simp
   rw[Yci,ih,zlh h1];rw[if_neg (by simpa using hne)]
theorem zn2(j:Nat):∀(k n:Nat),Zce (j+k) n=Zce j (n/10^k)++Zce k (n%10^k)
 | 0,n=>by simp[zhg]
 | k+1,n=>by
  rw[<-Yaj,zd0,zn2 j k (n/10),zd0,Yax];have e1:n/10/10^k=n/10^(k+1):=by rw[Ybu,Yaa,Y9]
  have e2:n/10%10^k=n%10^(k+1)/10:=by rw[Yaa,Y9,Nat.mod_mul_right_div_self]
  have e3:n%10^(k+1)%10=n%10:=by rw[Yaa,Nat.mod_mul_left_mod]
  rw[e1,e2,e3]
def zmv:∀n,(pieces n).reverse.flatten=Zce (9*(pieces n).length) n:=by
 intro n
 induction n using Nat.strongRecOn with
 | _ n ih=>
  by_cases h0:n=0
  ·subst h0;simp[zb8,zhg]
  ·rw[zcp h0,List.reverse_cons,List.flatten_append,ih _ (Ycd (Y7 h0) (by decide))];simp only[Yl,List.flatten_cons,List.flatten_nil,Ya3];rw[show 9*((pieces (n/1000000000)).length+1)=9*(pieces (n/1000000000)).length+9 by omega,zn2]
def ztn:∀n,n<10^(9*(pieces n).length):=by
 intro n
 induction n using Nat.strongRecOn with
 | _ n ih=>
  by_cases h0:n=0
  ·subst h0;simp[zb8]
  ·have h:=ih _ (Ycd (Y7 h0) (by decide:1<1000000000));rw[zcp h0,Yl,Yae,Yb3];exact(Yaw (by decide:0<10^(9*1))).1 h
def zmw(n:Nat)(h:n≠0):((pieces n).reverse.flatten).dropWhile (· == 48)=Zaa n:=by
 rw[zmv];exact zio _ n h (ztn n)
theorem zc6:∀(l:List (List UInt8)),(∀s∈l,s.length=9)->l.flatten.length=9*l.length
 | [],_=>rfl
 | s::l,h=>by
  rw[List.flatten_cons,Yah,h s Yp,zc6 l fun s hs=>h s (Yh _ hs),Yl];omega
def Zjf(a:List UInt32):St:=⟨[(3,.bs (.loc 3) 1 1 0 0),(3,.sl [] .nl),(10,.b false),(9,.sl (Za a) .an),(2,.s []),(0,.sl (Za a) .an)],[(.loc 3,⟨1,.own,1,[]⟩)],2⟩
end
section
variable{T:Tbl}
def zabu(a:List UInt32):evX (orc T) T 0 tx3 ⟨[(10,.b false),(9,.sl (Za a) .an),(2,.s []),(0,.sl (Za a) .an)],[],1⟩=some (.n,Zjf a):=by
 simp -implicitDefEqProofs[tx3,Zjf]
end
section
variable{T:Tbl}[Zl T][Zo T][Zb0 T]
def zabv(a:List UInt32)(hl:a.length<=1000):evX (orc T) T 0 txP (Zjf a) =
  some (.n,⟨[(3,.bs (.loc 3) 1 1 0 (pieces (val a)).length)],[((.loc 3),⟨1,.own,1,Zbz (pieces (val a))⟩)],3⟩):=by
 have hp:=zlk a;have h:=zvk (T:=T) (pieces (val a)).length (by omega) (pieces (val a)) (a,[]) ⟨by simpa using hl,rfl,rfl⟩;unfold Zi4 at h;simp[Zbz]at h;simp -implicitDefEqProofs[Zjf,txP,h,Zbz]
end
section
variable{T:Tbl}
def zpj(res:List UInt8):∀l:List UInt8,(l.length<=1000000/\l.dropWhile (· == 48)=res) ->
  Zr T 0 0 (.norm false [0]) l125_0 ⟨[(0,.s l),(1,u8 48)],[],2⟩=some (.n,⟨[(0,.s res)],[],2⟩):=by
 refine zcc (fun l:List UInt8=>⟨[(0,.s l),(1,u8 48)],[],2⟩) _ (fun l=>l.length) _ ?_
 rintro l ⟨hl,hr⟩
 cases l with
 | nil=>
  right;simp at hr;subst hr;constructor<;>simp -implicitDefEqProofs[l125_0]
 | cons c r=>
  simp only[Yl]at hl;have h2:(0:Int)<(r.length:Int)+1:=by omega
  have h3:(1:Int)<=(r.length:Int)+1:=by omega
  by_cases hc:c=48
  ·left;subst hc;rw[List.dropWhile_cons_of_pos (by decide)]at hr;exact⟨r,⟨by omega,hr⟩,Yt _,by simp -implicitDefEqProofs[l125_0,h2,h3],rfl⟩
  ·right;rw[List.dropWhile_cons_of_neg (by simpa using hc)]at hr;subst hr;have hc':¬ c.toNat=48:=fun h=>hc (UInt8.toNat_inj.1 h);constructor<;>simp -implicitDefEqProofs[l125_0,h2,hc']
end
section
variable{T:Tbl}[Zf1 T]
def zs6(l:List UInt8)(hl:l.length<=1000000):Zb T 103 [.s l,.s [48]]=some (.s (l.dropWhile (· == 48))):=by
 have h:=zpj (T:=T) _ l ⟨hl,rfl⟩;have h1:Zb T 125 [.s l,u8 48]=some (.s (l.dropWhile (· == 48))):=by
  rw[zaa Zf1.h125 rfl,b125];simp -implicitDefEqProofs[h]
 obtain⟨Z,hZ⟩:∃Z,b103=(.seq
 (.reg [⟨(some 4),none,.mov (.c (.s []))⟩])
 (.seq
  (.seq
  (.reg [⟨(some 7),none,.mov (.t 0)⟩,
   ⟨(some 8),none,.bin .eql (.t 7) (.c (.s []))⟩,
   ⟨(some 9),none,.mov (.t 8)⟩,
   ⟨(some 10),(some (9,false)),.mov (.t 1)⟩,
   ⟨(some 11),(some (9,false)),.bin .eql (.t 10) (.c (.s []))⟩,
   ⟨(some 12),none,.pick (.t 9) (.c (.b true)) (.t 11)⟩])
  (.cond (.t 12)
   (.seq
   (.reg [⟨(some 13),none,.mov (.t 0)⟩,
    ⟨(some 4),none,.mov (.t 13)⟩])
   (.pre (.norm false [4]) .ret))
   .skip))
  (.seq
  (.seq
   (.reg [⟨(some 14),none,.mov (.t 1)⟩,
    ⟨(some 15),none,.lens (.t 14)⟩,
    ⟨(some 16),none,.bin .eql (.t 15) (.c (.i .i64 1))⟩,
    ⟨(some 17),none,.mov (.t 16)⟩,
    ⟨(some 18),(some (17,true)),.mov (.t 1)⟩,
    ⟨(some 19),(some (17,true)),.ixs (.t 18) (.c (.i .i64 0))⟩,
    ⟨(some 20),(some (17,true)),.bin .lss (.t 19) (.c (u8 128))⟩,
    ⟨(some 21),none,.pick (.t 17) (.t 20) (.c (.b false))⟩])
   (.cond (.t 21)
   (.seq
    (.reg [⟨(some 22),none,.mov (.t 0)⟩,
     ⟨(some 23),none,.mov (.t 1)⟩,
     ⟨(some 24),none,.ixs (.t 23) (.c (.i .i64 0))⟩,
     ⟨(some 25),none,.call 125 [(.t 22),(.t 24)]⟩,
     ⟨(some 4),none,.mov (.t 25)⟩])
    (.pre (.norm false [4]) .ret))
   .skip)) Z)):AX):=⟨_,rfl⟩
 rw[zaa Zf1.h103 rfl,hZ];by_cases h0:l=[]
 ·subst h0;simp -implicitDefEqProofs
 ·simp -implicitDefEqProofs[h0,h1]
end
section
variable{P:Program}{ν:Nat->FuncId}{T:Tbl}
def zrz(hT:TOk P ν T)(hm:P.follows .mixedOrders=true){cx:Cx}(hP:cx.P=P)(hk:cx.clk0=1)(c:AX){code:Code}{nt:Nat}(hnt:cx.nt=nt)(hres:Zj P nt code=some (er ν (Zc T) c)){st:St}{e:Ex}{st':St}
  (h:evX (orc T) T 0 c st=some (e,st')) {a:Act} {w:World} (hr:Rel cx st a w) {K:Exit->Act->World->Prop} (hK:∀a' w',Rel cx st' a' w'->K e.out a' w'):code.wp P K a w:=by
 obtain⟨L,h1,h2⟩:=zb1 T 0 c st _ _ h;obtain⟨n,hn⟩:=zmf T h1;have hev:=zav (GoodO.orcN hT hm n) (k:=0) (cx:=cx) hP hk c st e st' (h2 _ hn);subst hP hnt;refine wp_mono (hev code hres hm a w hr) ?_
 rintro ex a' w' ⟨s,⟨rfl,rfl⟩,hr'⟩
 exact hK a' w' hr'
def zr0{nt:Nat}{w:World}{S:Nat->Nat->Prop}{cargs:Array Value}{args:List AV}(hl:cargs.size=args.length)(hn:args.length<=nt)
  (hC:∀(j:Nat) (v:Value) (c:AV),cargs[j]? = some v->args[j]? = some c->CP w S v c) (hS:∀k o,S k o->k<w.heap.size) :
  Rel ⟨P,nt,w,S,fun _=>none,1⟩ ⟨Zbu args,[],1⟩ { tmps:=cargs++Array.replicate (nt-cargs.size) undef,defers:=[] } w:=by
 refine⟨S,fun _=>none,by simp;omega,rfl,fun t=>?_,⟨⟨fun b bx hb=>(by simp at hb),fun g m hm=>(by cases hm),fun b bx b' bx' h1=>(by simp at h1),fun g g' k h1=>(by cases h1)⟩,
  Ext.refl _ _ _ _,⟨rfl,rfl,rfl,Yg _,fun _ _ _=>rfl⟩,fun k o hs=>.inl hs,hS,fun g k hm=>(by cases hm)⟩⟩
 rw[zh3];cases ha:args[t]? with
 | none=>exact .p (.dead _)
 | some x=>
  have htl:=zbs ha;have hv:cargs[t]? = some (cargs[t]'(by omega)):=Yr _;have e1:(cargs++Array.replicate (nt-cargs.size) undef).getD t undef=cargs[t]'(by omega):=by
   simp only[Ycs];rw[Ybd (by omega),hv]
   rfl
  rw[e1];exact .p (hC t _ x hv ha)
def Rel.below{nt:Nat}{w0:World}{S:Nat->Nat->Prop}{st:St}{a:Act}{w:World}(h:Rel ⟨P,nt,w0,S,fun _=>none,1⟩ st a w):RowKit.Below w0.heap.size w0 w:=by
 obtain⟨S',M',hr⟩:=h;exact⟨hr.wr.fr.os,hr.wr.fr.tape,hr.wr.fr.output,hr.wr.fr.size,fun k hk=>hr.wr.fr.block k hk fun⟨g,hg⟩=>(by cases hg)⟩
def Rel.strAt{cx:Cx}{st:St}{a:Act}{w:World}(h:Rel cx st a w){t:Nat}{l:List UInt8}(he:st.env.get t=.s l):a.tmps.getD t undef=.string ⟨l.toArray⟩:=by
 obtain⟨S',M',hr⟩:=h;have:=hr.env t;rw[he]at this;generalize a.tmps.getD t undef=v at *
 cases this with
 | p h=>cases h;rfl
def Rel.strs{cx:Cx}{st:St}{a:Act}{w:World}(h:Rel cx st a w){t:Nat}{b:BId}{g n:Nat}{ls:List (List UInt8)}(hne:ls≠[])(he:st.env.get t=.bs b g 1 0 n)
  (hb:st.heap.lookup b=some ⟨g,.own,1,ls.map fun s=>[.s s]⟩):∃k arr e cap,a.tmps.getD t undef=.slice (some ⟨k,0,none⟩) n cap/\w.heap[k]? = some (.cells arr e (0,0))/\n<=cap/\cap<=maxLen/\cap<=arr.size /\
   ∀(i:Nat) (s:List UInt8),ls[i]? = some s->arr[i]? = some (Value.string ⟨s.toArray⟩):=by
 obtain⟨S',M',hr⟩:=h;have h1:=hr.env t;rw[he]at h1;obtain⟨_,_,m,hm,h2⟩:=hr.wr.heap.box b _ hb;simp only at hm h2;generalize a.tmps.getD t undef=v at *
 cases h1 with
 | p h=>cases h
 | bs _ _ _ _ _ _ hg hB h1=>
  unfold Zd3 at hB;rw[hm]at hB;cases m with
  | none=>exact absurd (by simpa using h2.1) hne
  | some k=>
   obtain⟨arr,e,cap,hk,hv,c1,c2,c3⟩:=hB;obtain⟨arr',e',hk',_,hcells,_⟩:=h2;rw[hk]at hk';cases hk';refine⟨k,arr,e,cap,by rw[hv],hk,c1,c2,by omega,fun i s hi=>?_⟩;obtain⟨u,hu,_,_,hc⟩:=hcells i [.s s] 0 (.s s) (by simp[hi]) rfl;have:=hc (by simp);rw[Ycu,Y0]at hu;cases this;exact hu
end
end Go.Ab
section
namespace Go.Proofs.YtfdblmomnikehaaDoor
open Go Go.Ab Go.RowKit
def list_cons{α:Type}{n:Nat}{l:List α}(h:l.length=n+1):∃x t,l=x::t/\t.length=n:=by
 cases l with
 | nil=>simp at h
 | cons x t=>exact⟨x,t,rfl,by simpa using h⟩
set_option maxHeartbeats 2000000 in
set_option maxRecDepth 100000 in
def text_calls(hm:Tryd.prog.follows .mixedOrders=true)(a:List UInt32)(hl:a.length<=1000){w0:World}{S:Nat->Nat->Prop}{cargs:Array Value}(hsz:cargs.size=1)
  (hC:∀(j:Nat) (v:Value) (c:AV),cargs[j]? = some v->[AV.sl (Za a) .an][j]? = some c->CP w0 S v c) (hS:∀k o,S k o->k<w0.heap.size) :
  Calls Tryd.prog 55 cargs w0 fun e w'=>e=.returned (.string ⟨(Zaa (val a)).toArray⟩)/\Below w0.heap.size w0 w':=by
 refine calls_of_wp Tryd.func55 rfl ?_;have h0:=zr0 (P:=Tryd.prog) (nt:=40) (w:=w0) (S:=S) (cargs:=cargs) (args:=[AV.sl (Za a) .an]) (by simpa using hsz) (by simp) hC hS;refine wp_seq (zrz sTab_ok hm (cx:=⟨Tryd.prog,40,w0,S,fun _=>none,1⟩) rfl rfl tx0 (nt:=40) rfl (by kernel_rfl) (sTab_part.ev (by kernel_rfl) (zabt (T:=tab) _)) h0 fun a1 w1 h1=>?_);refine wp_seq ?_;by_cases hz:val a=0
 ·refine zrz sTab_ok hm (cx:=⟨Tryd.prog,40,w0,S,fun _=>none,1⟩) rfl rfl txA (nt:=40) rfl (by kernel_rfl) (sTab_part.ev (by kernel_rfl) (z3l (T:=tab) a hl hz)) h1 fun a2 w2 h2=>?_;have hv:=h2.strAt (t:=2) (l:=[48]) rfl;have hb:=h2.below;have ht:Zaa (val a)=[48]:=by rw[hz];exact zdo (by decide)
  obtain⟨_,_,hr2⟩:=h2;refine(show bodyPost Tryd.prog Tryd.f55 (fun e w'=>e=.returned (.string ⟨(Zaa (val a)).toArray⟩)/\Below w0.heap.size w0 w') .ret a2 w2 from ?_);refine⟨hr2.defers,.string ⟨[48].toArray⟩,?_,by rw[ht],hb⟩;rw[<-hv];exact results_tmp rfl _ _ _
 ·refine zrz sTab_ok hm (cx:=⟨Tryd.prog,40,w0,S,fun _=>none,1⟩) rfl rfl txA (nt:=40) rfl (by kernel_rfl) (sTab_part.ev (by kernel_rfl) (z3m (T:=tab) a hl hz)) h1 fun a2 w2 h2=>?_;refine wp_seq (zrz sTab_ok hm (cx:=⟨Tryd.prog,40,w0,S,fun _=>none,1⟩) rfl rfl tx3 (nt:=40) rfl (by kernel_rfl) (sTab_part.ev (by kernel_rfl) (zabu (T:=tab) a)) h2 fun a3 w3 h3=>?_);refine wp_seq (zrz sTab_ok hm (cx:=⟨Tryd.prog,40,w0,S,fun _=>none,1⟩) rfl rfl txP (nt:=40) rfl (by kernel_rfl) (sTab_part.ev (by kernel_rfl) (zabv (T:=tab) a hl)) h3 fun a4 w4 h4=>?_);have hb4:=h4.below;have hne:pieces (val a)≠[]:=by rw[zcp hz];simp
  obtain⟨k,arr,e,cap,hv,hk,hc1,hc2,hc3,hcells⟩:=h4.strs (t:=3) (ls:=pieces (val a)) hne rfl (by simp[Zbz]);obtain⟨_,_,hr4⟩:=h4;have hdf:=hr4.defers;have hsz:=hr4.size;have hpl:=zlk a;clear hr4 h0 h1 h2 h3
  change Code.wp _ _ _ a4 w4
  obtain⟨tm,df⟩:=a4;obtain⟨l,rfl⟩:∃l:List Value,tm=l.toArray:=⟨tm.toList,by simp⟩;simp only[List.size_toArray]at hsz;simp only at hdf;subst hdf;obtain⟨x0,l0,rfl,s0⟩:=list_cons hsz;obtain⟨x1,l1,rfl,s1⟩:=list_cons s0;obtain⟨x2,l2,rfl,s2⟩:=list_cons s1;obtain⟨x3,l3,rfl,s3⟩:=list_cons s2;obtain⟨x4,l4,rfl,s4⟩:=list_cons s3;obtain⟨x5,l5,rfl,s5⟩:=list_cons s4;obtain⟨x6,l6,rfl,s6⟩:=list_cons s5;obtain⟨x7,l7,rfl,s7⟩:=list_cons s6;obtain⟨x8,l8,rfl,s8⟩:=list_cons s7;obtain⟨x9,l9,rfl,s9⟩:=list_cons s8;obtain⟨x10,l10,rfl,s10⟩:=list_cons s9;obtain⟨x11,l11,rfl,s11⟩:=list_cons s10;obtain⟨x12,l12,rfl,s12⟩:=list_cons s11;obtain⟨x13,l13,rfl,s13⟩:=list_cons s12;obtain⟨x14,l14,rfl,s14⟩:=list_cons s13;obtain⟨x15,l15,rfl,s15⟩:=list_cons s14;obtain⟨x16,l16,rfl,s16⟩:=list_cons s15;obtain⟨x17,l17,rfl,s17⟩:=list_cons s16;obtain⟨x18,l18,rfl,s18⟩:=list_cons s17;obtain⟨x19,l19,rfl,s19⟩:=list_cons s18;obtain⟨x20,l20,rfl,s20⟩:=list_cons s19;obtain⟨x21,l21,rfl,s21⟩:=list_cons s20;obtain⟨x22,l22,rfl,s22⟩:=list_cons s21;obtain⟨x23,l23,rfl,s23⟩:=list_cons s22;obtain⟨x24,l24,rfl,s24⟩:=list_cons s23;obtain⟨x25,l25,rfl,s25⟩:=list_cons s24;obtain⟨x26,l26,rfl,s26⟩:=list_cons s25;obtain⟨x27,l27,rfl,s27⟩:=list_cons s26;obtain⟨x28,l28,rfl,s28⟩:=list_cons s27;obtain⟨x29,l29,rfl,s29⟩:=list_cons s28;obtain⟨x30,l30,rfl,s30⟩:=list_cons s29;obtain⟨x31,l31,rfl,s31⟩:=list_cons s30;obtain⟨x32,l32,rfl,s32⟩:=list_cons s31;obtain⟨x33,l33,rfl,s33⟩:=list_cons s32;obtain⟨x34,l34,rfl,s34⟩:=list_cons s33;obtain⟨x35,l35,rfl,s35⟩:=list_cons s34;obtain⟨x36,l36,rfl,s36⟩:=list_cons s35;obtain⟨x37,l37,rfl,s37⟩:=list_cons s36;obtain⟨x38,l38,rfl,s38⟩:=list_cons s37;obtain⟨x39,l39,rfl,s39⟩:=list_cons s38;cases Y3 s39;have hx3:x3=.slice (some ⟨k,0,none⟩) (pieces (val a)).length cap:=hv;subst hx3;have hjoin:=zmw (val a) hz;have hall:=zmu (val a);generalize pieces (val a)=ps at *
  have HC:Aside (∀(i:Nat) (s:List UInt8),ps[i]? = some s->arr[i]? = some (Value.string ⟨s.toArray⟩)):=hcells;have HJ:Aside (List.dropWhile (fun x=>x == 48) ps.reverse.flatten=Zaa (val a)):=hjoin;have HN:Aside (∀s∈ps,s.length=9):=hall;have HB:Aside (Below w0.heap.size w0 w4):=hb4;have HK:Aside (w4.heap[k]? = some (.cells arr e (0,0))):=hk;have hk4:k<w4.heap.size:=by
   rcases Yo k w4.heap.size with h' | h'
   ·exact h'
   ·simp[Array.getElem?_eq_none h']at hk
  clear hcells hjoin hall hb4 hk
  go_wp2
  go_loopg [8] ps.length (fun g s8 wx=>s8=.int .i64 ((g:Int)-1)/\g<=ps.length/\Aside (Lib.IsBuilder 92 5 w4.heap.size w4.heap.size (Lib.byteCells (ps.drop g).reverse.flatten) wx/\Below w4.heap.size w4 wx))
  case atStart=>exact⟨rfl,Yg _,by rw[Ybe];exact Lib.fresh_isBuilder 92 5 w4,(Below.refl _ _).alloc (Yg _) _⟩
  case round=>
   obtain⟨rfl,hg,HW⟩:=hrel;cases gk with
   | zero=>
    obtain⟨hBld,hBel⟩:=HW.out;rw[Ycg]at hBld;have hne':ps.reverse.flatten≠[]:=by
     intro h;have:=zc6 ps.reverse (fun s hs=>HN.out s (Ydo.1 hs));rw[h]at this;simp at this;exact hne (Y3 (by omega))
    have HT:Aside (ps.reverse.flatten≠[]):=hne';clear hne';have hlenF:ps.reverse.flatten.length<=1000000:=by
     rw[zc6 ps.reverse (fun s hs=>HN.out s (Ydo.1 hs)),List.length_reverse];omega
    have hT:∀W:World,Calls Tryd.prog 70 #[.string ⟨ps.reverse.flatten.toArray⟩,.string ⟨#[48]⟩] W fun e w'=>e=.returned (.string ⟨(Zaa (val a)).toArray⟩)/\Below W.heap.size W w':=by
     intro W;have h1:=zg6 sTab_ok hm (u:=103) rfl rfl (sTab_part.call (by kernel_rfl) (zs6 (T:=tab) ps.reverse.flatten hlenF));rw[HJ.out]at h1;refine(h1.2 W (fun _ _=>False) #[.string ⟨ps.reverse.flatten.toArray⟩,.string ⟨#[48]⟩] rfl (fun j v c hv hc=>?_) (fun _ _ h=>h.elim)).mono ?_
     ·match j,hv,hc with
      | 0,hv,hc=>cases hv;cases hc;exact .s _
      | 1,hv,hc=>cases hv;cases hc;exact .s _
     ·rintro e w' ⟨v,r,rfl,rfl,hb,hc⟩
      cases hc;exact⟨rfl,hb⟩
    have HTT:=hT;clear hT
    go_wp2_with (go_at_call 58;refine(Tryd.bString w4.heap.size w4.heap.size ps.reverse.flatten wr hBld HT.out).mono ?_)
    rintro e1 w5 ⟨rfl,hb5⟩
    go_wp2_with (go_at_call 70;refine(HTT w5).mono ?_)
    rintro e2 w6 ⟨rfl,hb6⟩
    go_wp2
    go_ret
    refine⟨rfl,?_⟩;have hs1:=HB.out.size;have hs5:=(hBel.trans hb5).size;exact HB.out.trans (((hBel.trans hb5).mono hs1).trans (hb6.mono (by omega)))
   | succ j=>
    obtain⟨hBld,hBel⟩:=HW.out;obtain⟨s,hs⟩:∃s,ps[j]? = some s:=⟨_,Ya (by omega)⟩;have hcell:wr.cell? ⟨k,j,none⟩=some (.string ⟨s.toArray⟩):=by
     rw[hBel.cell (p:=⟨k,j,none⟩) hk4,Lib.cell_of_heap HK.out];exact HC.out j s hs
    have hs9:s.length=9:=HN.out s (Yd hs);have hflen:=zc6 (ps.drop (j+1)).reverse (fun s hs=>HN.out s (Ycn (Ydo.1 hs)));have HS:Aside (ps[j]? = some s):=hs;clear hs;rw[List.length_reverse,Ycj]at hflen;have hbound:(Lib.byteCells (ps.drop (j+1)).reverse.flatten).length+(⟨s.toArray⟩:ByteArray).size<=140737488355328:=by
     rw[Lib.byteCells_length,hflen];show _+s.toArray.size<=_;simp only[List.size_toArray];omega
    have HF:Aside ((Lib.byteCells (ps.drop (j+1)).reverse.flatten).length+(⟨s.toArray⟩:ByteArray).size<=140737488355328):=hbound;clear hflen hbound
    go_wp2_with (go_at_call 57;refine(Tryd.bWrite w4.heap.size w4.heap.size _ ⟨s.toArray⟩ wr hBld HF.out hBel.size).mono ?_)
    rintro e1 w5 ⟨rfl,h5,hb5⟩
    go_wp2
    go_roundg j
    case measure=>omega
    case rel=>
     refine⟨by congr 1,by omega,?_,hBel.trans hb5⟩;have e1:(ps.drop j).reverse.flatten=(ps.drop (j+1)).reverse.flatten++s:=by
      obtain⟨hj,he⟩:=Ys.1 HS.out;rw[Yab hj,he];simp
     rw[e1,Lib.byteCells_append];exact .inr h5
theorem word_rows:∀(els:List (List AV)) (l:List UInt32),els.mapM Zd0=some l->els=Za l
 | [],l,h=>by cases h;rfl
 | r::els,l,h=>by
  rw[Ya8]at h;obtain⟨x,hx,h1⟩:=bind_some h;obtain⟨y,hy,h2⟩:=bind_some h1;cases h2;rw[word_rows els y hy];unfold Zd0 at hx;split at hx
  ·split at hx
   ·cases hx;rename_i n hn;have:(w32 n.toNat).toNat=n.toNat:=zae (by omega);simp only[Za,Yy,this,u32];rw[Int.toNat_of_nonneg hn.1]
   ·cases hx
  ·cases hx
def text_ok(hm:Tryd.prog.follows .mixedOrders=true):∀xs r,prim68 xs=some r->Z9 Tryd.prog (nu 68) xs (·=r):=by
 intro xs r h;unfold prim68 at h;split at h
 ·split at h
  ·rename_i els hl;cases hw:els.mapM Zd0 with
   | none=>rw[hw]at h;cases h
   | some l=>
    rw[hw]at h;cases h;have he:=word_rows els l hw;subst he;rw[zg7]at hl;refine⟨enters_of Tryd.func55 (by kernel_rfl) rfl,fun w S cargs hsz hC hS=>?_⟩;refine(text_calls hm l hl (by simpa using hsz) hC hS).mono ?_
    rintro e w' ⟨rfl,hb⟩
    exact⟨_,_,rfl,rfl,hb,.s _⟩
  ·cases h
 ·cases h
#print axioms text_ok
end Go.Proofs.YtfdblmomnikehaaDoor
end
section
set_option linter.unusedVariables false
namespace Go.Proofs
open Go.Shelf Go.RowKit
variable{P:Program}{ρ:Ren}
structure JL (P:Program) (ρ:Ren):Prop extends Lays.n169 P ρ,Lays.n241 P ρ,Builder.Extra P ρ where
 f156:P.funcs[ρ.f 156]? = some (Body.n156 ρ)
 f165:P.funcs[ρ.f 165]? = some (Body.n165 ρ)
 f166:P.funcs[ρ.f 166]? = some (Body.n166 ρ)
 t4:P.underlying (ρ.t 4)=some (TypeDesc.bool)
 a4:∀w,(isAgg (ρ.t 4)).run P w=.ok false w
 z4:∀w,(Go.sizeOf (ρ.t 4)).run P w=.ok 1 w
 v4:∀w,(zeroValue (ρ.t 4)).run P w=.ok (Value.bool false) w
 t20:P.underlying (ρ.t 20)=some (TypeDesc.interface #[])
 a20:∀w,(isAgg (ρ.t 20)).run P w=.ok false w
 z20:∀w,(Go.sizeOf (ρ.t 20)).run P w=.ok 1 w
 v20:∀w,(zeroValue (ρ.t 20)).run P w=.ok (Value.nilIface) w
 t31:P.underlying (ρ.t 31)=some (TypeDesc.slice (ρ.t 9))
 a31:∀w,(isAgg (ρ.t 31)).run P w=.ok false w
 z31:∀w,(Go.sizeOf (ρ.t 31)).run P w=.ok 1 w
 v31:∀w,(zeroValue (ρ.t 31)).run P w=.ok (Value.slice none 0 0) w
 t75:P.underlying (ρ.t 75)=some (TypeDesc.interface #[("Error",ρ.t 80)])
 a75:∀w,(isAgg (ρ.t 75)).run P w=.ok false w
 z75:∀w,(Go.sizeOf (ρ.t 75)).run P w=.ok 1 w
 v75:∀w,(zeroValue (ρ.t 75)).run P w=.ok (Value.nilIface) w
 t76:P.underlying (ρ.t 76)=some (TypeDesc.tuple #[ρ.t 3,ρ.t 75])
 a76:∀w,(isAgg (ρ.t 76)).run P w=.ok false w
 z76:∀w,(Go.sizeOf (ρ.t 76)).run P w=.ok 1 w
 v76:∀w,(zeroValue (ρ.t 76)).run P w=.ok (Value.tuple #[Value.int IntKind.i64 0,Value.nilIface]) w
 t164:P.underlying (ρ.t 164)=some (TypeDesc.unsafePointer)
 a164:∀w,(isAgg (ρ.t 164)).run P w=.ok false w
 z164:∀w,(Go.sizeOf (ρ.t 164)).run P w=.ok 1 w
 v164:∀w,(zeroValue (ρ.t 164)).run P w=.ok (Value.pointer none) w
 e240:∀args w,(callFunc (ρ.f 240) args).run P w=.ok (.enter (ρ.f 240) args) w
 c240:∀(B b:Nat) (bs:List Value) (w:World),Lib.IsBuilder (ρ.t 72) (ρ.t 5) B b bs w ->
  Calls P (ρ.f 240) #[.pointer (some ⟨b,0,none⟩)] w fun e w'=>e=.returned (.tuple #[])/\(Lib.BuilderAt (ρ.t 72) (ρ.t 5) B b (.pointer (some ⟨b,0,none⟩)) bs w'/\Below B w w')
 c240f:∀(b:Nat) (w:World),w.cell? ⟨b,0,none⟩=some (.pointer none)->w.shape? b=some ((ρ.t 72),2)->w.frozen? ⟨b,0,none⟩=false ->
  Calls P (ρ.f 240) #[.pointer (some ⟨b,0,none⟩)] w fun e w'=>e=.returned (.tuple #[])/\w'=w.setCell ⟨b,0,none⟩ (.pointer (some ⟨b,0,none⟩))
def Jl.hid{p:Prop}(h:p):Hid p:=h
set_option maxHeartbeats 2000000 in
set_option maxRecDepth 100000 in
def Jl.Builder_WriteString(L:JL P ρ)(B b:Nat)(bs:List Value)(s:ByteArray)(w:World)(h:Lib.IsBuilder (ρ.t 72) (ρ.t 5) B b bs w)(hlen:bs.length+s.size<=140737488355328)(hBw:B<=w.heap.size) :
  Calls P (ρ.f 166) #[.pointer (some ⟨b,0,none⟩),.string s] w fun e w'=>e=.returned (.tuple #[.int .i64 s.size,.nilIface])/\(Lib.BuilderAt (ρ.t 72) (ρ.t 5) B b (.pointer (some ⟨b,0,none⟩)) (bs++Lib.strCells s) w'/\Below B w w'):=by
 obtain⟨i0,hi,hz0,hz1,hz2⟩:=info_parts L.infoByte;have mixed:=L.mixed;have t72:=L.t72;have a72:=L.a72;have z72:=L.z72;have v72:=L.v72;have u72:=run_underlying L.t72;have t70:=L.t70;have a70:=L.a70;have z70:=L.z70;have v70:=L.v70;have u70:=run_underlying L.t70;have t37:=L.t37;have a37:=L.a37;have z37:=L.z37;have v37:=L.v37;have u37:=run_underlying L.t37;have t3:=L.t3;have a3:=L.a3;have z3:=L.z3;have v3:=L.v3;have u3:=run_underlying L.t3;have t9:=L.t9;have a9:=L.a9;have z9:=L.z9;have v9:=L.v9;have u9:=run_underlying L.t9;have t4:=L.t4;have a4:=L.a4;have z4:=L.z4;have v4:=L.v4;have u4:=run_underlying L.t4;have t164:=L.t164;have a164:=L.a164;have z164:=L.z164;have v164:=L.v164;have u164:=run_underlying L.t164;have t5:=L.t5;have a5:=L.a5;have z5:=L.z5;have v5:=L.v5;have u5:=run_underlying L.t5;have e240:∀args w,(callFunc (ρ.f 240) args).run P w=.ok (.enter (ρ.f 240) args) w:=L.e240
 go_enter L.f166,Body.n166_ntmps ρ
 go_wp2_with (go_at_fn (ρ.f 240);refine(L.c240 B b bs _ h).mono ?_)
 rintro e w1 ⟨rfl,h1,hb1⟩
 obtain⟨hB,v,hbk,hown,hne⟩:=h1;have c0:w1.cell? ⟨b,0,none⟩=some (.pointer (some ⟨b,0,none⟩)):=by rw[Lib.cell_of_heap hbk];rfl
 have c1:w1.cell? ⟨b,1,none⟩=some v:=by rw[Lib.cell_of_heap hbk];rfl
 go_wp2_with (at_builtin;refine Lib.wpList_append_own_string _ rfl _ _ (ρ.t 37) (ρ.t 9) rfl B (ρ.t 5) i0 L.t37 L.t9 hi hz0 hz1 hz2 _ _ _ rfl hown s rfl ?c3 ?c4 ?c5 ?_)
 case c3=>unfold maxLen;omega
 case c4=>omega
 case c5=>have:=hb1.size;omega
 intro v' w2 hown' hgrow _;have hlt:b<w1.heap.size:=by
  rcases Nat.lt_or_ge b w1.heap.size with h' | h'
  ·exact h'
  ·simp[Array.getElem?_eq_none h']at hbk
 have hb2:w2.heap[b]? = some (.cells #[.pointer (some ⟨b,0,none⟩),v] (ρ.t 72) (0,0)):=by
  rw[hgrow.block b hlt (fun e=>hne e.symm)];exact hbk
 have d0:w2.cell? ⟨b,0,none⟩=some (.pointer (some ⟨b,0,none⟩)):=by rw[Lib.cell_of_heap hb2];rfl
 have d1:w2.cell? ⟨b,1,none⟩=some v:=by rw[Lib.cell_of_heap hb2];rfl
 have f1:w2.frozen? ⟨b,1,none⟩=false:=Lib.frozen_of_heap hb2 1;obtain⟨ao,n',cap,rfl⟩:∃ao n' cap,v'=.slice ao n' cap:=by
  rcases hown'.2 with ⟨hv,_⟩ | ⟨g,cap,cur,hv,_⟩
  ·exact⟨_,_,_,hv⟩
  ·exact⟨_,_,_,hv⟩
 go_wp2
 go_ret2
 refine⟨rfl,?_,?_⟩
 ·exact Lib.BuilderAt.put (T:=(ρ.t 72)) (e:=(ρ.t 5)) hB hb2 (bs':=bs++Lib.strCells s) (by simpa[Lib.strCells_length]using hown') L.neB5
 ·exact(hb1.grown hgrow (by have:=hb1.size;omega) (fun k hk=>(hown.lt k hk).1)).setCell (p:=⟨b,1,none⟩) hB _
set_option maxHeartbeats 2000000 in
set_option maxRecDepth 1000000 in
def Jl.Builder_Grow_fresh(L:JL P ρ)(B b n:Nat)(w:World)(hB:B<=b)(hbk:w.heap[b]? = some (.cells #[.pointer none,.slice none 0 0] (ρ.t 72) (0,0)))(hBw:B<=w.heap.size)(hn:n<=281474976710656) :
  Calls P (ρ.f 165) #[.pointer (some ⟨b,0,none⟩),.int .i64 n] w fun e w'=>e=.returned (.tuple #[])/\(Lib.BuilderAt (ρ.t 72) (ρ.t 5) B b (.pointer (some ⟨b,0,none⟩)) [] w'/\Below B w w'):=by
 have hbk1:(w.setCell ⟨b,0,none⟩ (.pointer (some ⟨b,0,none⟩))).heap[b]? = some (.cells #[.pointer (some ⟨b,0,none⟩),.slice none 0 0] (ρ.t 72) (0,0)):=by
  simp[World.setCell,Array.getElem?_modify,hbk]
 have c1:(w.setCell ⟨b,0,none⟩ (.pointer (some ⟨b,0,none⟩))).cell? ⟨b,1,none⟩=some (.slice none 0 0):=by rw[Lib.cell_of_heap hbk1];rfl
 have hb1:Below B w (w.setCell ⟨b,0,none⟩ (.pointer (some ⟨b,0,none⟩))):=(Below.refl B w).setCell (p:=⟨b,0,none⟩) hB _;have mixed:=L.mixed;have t72:=L.t72;have a72:=L.a72;have z72:=L.z72;have v72:=L.v72;have u72:=run_underlying L.t72;have t70:=L.t70;have a70:=L.a70;have z70:=L.z70;have v70:=L.v70;have u70:=run_underlying L.t70;have t37:=L.t37;have a37:=L.a37;have z37:=L.z37;have v37:=L.v37;have u37:=run_underlying L.t37;have t3:=L.t3;have a3:=L.a3;have z3:=L.z3;have v3:=L.v3;have u3:=run_underlying L.t3;have t9:=L.t9;have a9:=L.a9;have z9:=L.z9;have v9:=L.v9;have u9:=run_underlying L.t9;have t4:=L.t4;have a4:=L.a4;have z4:=L.z4;have v4:=L.v4;have u4:=run_underlying L.t4;have t164:=L.t164;have a164:=L.a164;have z164:=L.z164;have v164:=L.v164;have u164:=run_underlying L.t164;have t5:=L.t5;have a5:=L.a5;have z5:=L.z5;have v5:=L.v5;have u5:=run_underlying L.t5;have e240:∀args w,(callFunc (ρ.f 240) args).run P w=.ok (.enter (ρ.f 240) args) w:=L.e240;have e241:∀args w,(callFunc (ρ.f 241) args).run P w=.ok (.enter (ρ.f 241) args) w:=enters_of L.f241 (by kernel_rfl) rfl
 go_enter L.f165,Body.n165_ntmps ρ
 have hU:Lib.BuilderAt (ρ.t 72) (ρ.t 5) B b (.pointer (some ⟨b,0,none⟩)) [] (w.setCell ⟨b,0,none⟩ (.pointer (some ⟨b,0,none⟩))):=⟨hB,.slice none 0 0,hbk1,World.ownsRow_nil _ _ _ _,by simp[Value.ownBlock]⟩;have c1':(w.setCell ⟨b,0,none⟩ (.pointer (some ⟨b,0,none⟩))).drew.cell? ⟨b,1,none⟩=some (.slice none 0 0):=c1
 go_wp2_with (go_at_fn (ρ.f 240);refine(L.c240f b w (by rw[Lib.cell_of_heap hbk];rfl) (by simp[World.shape?,hbk]) (Lib.frozen_of_heap hbk 0)).mono ?_;rintro e w' ⟨rfl,rfl⟩)
 go_region_o
 all_goals go_wp2_with (go_at_fn (ρ.f 241);refine(Any.Builder_grow_fresh L.ton241 L.toExtra B b n (w.setCell ⟨b,0,none⟩ (.pointer (some ⟨b,0,none⟩))).drew hB hbk1 (by simpa[World.setCell,World.drew,-World.drew_eq]using hBw) hn).mono ?_;rintro e w' ⟨rfl,h1,h2⟩)
 all_goals first
  | (go_end0;exact⟨rfl,h1,hb1.drew.trans h2⟩)
  | (go_end0;exact⟨rfl,hU.drew,hb1.drew⟩)
def Jl.strings_Join_none(L:JL P ρ)(a:Option Addr)(c:Nat)(sep:ByteArray)(w:World) :
  Calls P (ρ.f 156) #[.slice a 0 c,.string sep] w fun e w'=>e=.returned (.string ⟨#[]⟩)/\w'=w:=by
 have u72:=run_underlying L.t72;have u70:=run_underlying L.t70;have u37:=run_underlying L.t37;have u127:=run_underlying L.t127;have u3:=run_underlying L.t3;have u9:=run_underlying L.t9;have u4:=run_underlying L.t4;have u164:=run_underlying L.t164;have t31:=L.t31;have u31:=run_underlying L.t31;have u5:=run_underlying L.t5
 go_enter L.f156,Body.n156_ntmps ρ
 go_wp2
 go_ret
 simp_all
def Jl.strings_Join_one(L:JL P ρ)(bk o c:Nat)(x sep:ByteArray)(w:World)(hc:w.cell? ⟨bk,o,none⟩=some (.string x)) :
  Calls P (ρ.f 156) #[.slice (some ⟨bk,o,none⟩) 1 c,.string sep] w fun e w'=>e=.returned (.string x)/\w'=w:=by
 have u72:=run_underlying L.t72;have u70:=run_underlying L.t70;have u37:=run_underlying L.t37;have u127:=run_underlying L.t127;have u3:=run_underlying L.t3;have a9:=L.a9;have z9:=L.z9;have u9:=run_underlying L.t9;have u4:=run_underlying L.t4;have u164:=run_underlying L.t164;have t31:=L.t31;have u31:=run_underlying L.t31;have u5:=run_underlying L.t5
 go_enter L.f156,Body.n156_ntmps ρ
 go_wp2
 go_ret
 simp_all
set_option maxHeartbeats 4000000 in
set_option maxRecDepth 100000 in
theorem Jl.strings_Join_many(L:JL P ρ)(bk o c:Nat)(xs:List ByteArray)(sep:ByteArray)(w:World)
  (hcells:∀(j:Nat) x,xs[j]? = some x->w.cell? ⟨bk,o+j,none⟩=some (.string x))
  (hbk:bk<w.heap.size) (h2:2<=xs.length) (hN:xs.length<=140737488355328) (hcap:xs.length<=c)
  (hlen:(Lib.join (xs.map (·.data.toList)) sep.data.toList).length<=140737488355328) :
  Calls P (ρ.f 156) #[.slice (some ⟨bk,o,none⟩) xs.length c,.string sep] w fun e w'=>e=.returned (.string ⟨(Lib.join (xs.map (·.data.toList)) sep.data.toList).toArray⟩)/\Below w.heap.size w w':=by
 have HC:=Jl.hid hcells;clear hcells
 -- the lengths
 obtain⟨x0,r,hxs⟩:∃x0 r,xs=x0::r:=by
  cases xs with
  | nil=>simp at h2
  | cons a t=>exact⟨a,t,rfl⟩
 have hjl:sep.size*(xs.length-1)+Lib.lens (xs.map (·.data.toList))<=140737488355328:=by
  have:=Lib.join_length x0.data.toList (r.map (·.data.toList)) sep.data.toList;rw[hxs]at hlen ⊢;simp only[List.map_cons]at hlen ⊢;rw[this,List.length_map]at hlen;rw[Lib.size_eq,List.length_cons,Nat.add_sub_cancel];exact hlen
 have hmul:sep.size*(xs.length-1)<=140737488355328:=by omega
 generalize hM:sep.size*(xs.length-1)=M at hjl hmul;have hcast:((xs.length:Int)-1)=((xs.length-1:Nat):Int):=by omega
 have hlt:sep.size<9223372036854775807/(xs.length-1):=by
  have:sep.size+1<=9223372036854775807/(xs.length-1):=by
   rw[Nat.le_div_iff_mul_le (by omega),Nat.add_mul,hM];omega
  omega
 have hdv:¬ (9223372036854775807/((xs.length:Int)-1)<=(sep.size:Int)):=by
  have e:(9223372036854775807:Int)/((xs.length-1:Nat):Int)=((9223372036854775807/(xs.length-1):Nat):Int):=IntWalk.up_div (x:=9223372036854775807) rfl rfl;rw[hcast,e];generalize 9223372036854775807/(xs.length-1)=q at hlt;omega
 have hprod:wrap64 ((sep.size:Int)*((xs.length:Int)-1))=(M:Int):=by
  have e:(sep.size:Int)*((xs.length-1:Nat):Int)=((sep.size*(xs.length-1):Nat):Int):=IntWalk.up_mul rfl rfl;rw[hcast,e,hM];exact IntWalk.wrap64_in _ ⟨by omega,by omega⟩
 have hM0:sep.size=0->M=0:=fun h=>by rw[<-hM,h,Nat.zero_mul]
 clear hlt hcast;have hne0:((xs.length:Int) == 0)=false:=beq_eq_false_iff_ne.2 (by omega);have hne1:((xs.length:Int) == 1)=false:=beq_eq_false_iff_ne.2 (by omega);have Hxs:=Jl.hid hxs;have Hlen:=Jl.hid hlen;clear hxs hlen;have mixed:=L.mixed;have t72:=L.t72;have a72:=L.a72;have z72:=L.z72;have v72:=L.v72;have u72:=run_underlying L.t72;have t70:=L.t70;have a70:=L.a70;have z70:=L.z70;have v70:=L.v70;have u70:=run_underlying L.t70;have t37:=L.t37;have a37:=L.a37;have z37:=L.z37;have v37:=L.v37;have u37:=run_underlying L.t37;have t127:=L.t127;have a127:=L.a127;have z127:=L.z127;have v127:=L.v127;have u127:=run_underlying L.t127;have t3:=L.t3;have a3:=L.a3;have z3:=L.z3;have v3:=L.v3;have u3:=run_underlying L.t3;have t9:=L.t9;have a9:=L.a9;have z9:=L.z9;have v9:=L.v9;have u9:=run_underlying L.t9;have t4:=L.t4;have a4:=L.a4;have z4:=L.z4;have v4:=L.v4;have u4:=run_underlying L.t4;have t164:=L.t164;have a164:=L.a164;have z164:=L.z164;have v164:=L.v164;have u164:=run_underlying L.t164;have t31:=L.t31;have a31:=L.a31;have z31:=L.z31;have v31:=L.v31;have u31:=run_underlying L.t31;have t5:=L.t5;have a5:=L.a5;have z5:=L.z5;have v5:=L.v5;have u5:=run_underlying L.t5;have e240:∀args w,(callFunc (ρ.f 240) args).run P w=.ok (.enter (ρ.f 240) args) w:=L.e240;have e241:∀args w,(callFunc (ρ.f 241) args).run P w=.ok (.enter (ρ.f 241) args) w:=enters_of L.f241 (by kernel_rfl) rfl;have e165:∀args w,(callFunc (ρ.f 165) args).run P w=.ok (.enter (ρ.f 165) args) w:=enters_of L.f165 (by kernel_rfl) rfl;have e166:∀args w,(callFunc (ρ.f 166) args).run P w=.ok (.enter (ρ.f 166) args) w:=enters_of L.f166 (by kernel_rfl) rfl;have e169:∀args w,(callFunc (ρ.f 169) args).run P w=.ok (.enter (ρ.f 169) args) w:=enters_of L.f169 (by kernel_rfl) rfl
 go_enter L.f156,Body.n156_ntmps ρ
 go_wp2_with fail
 all_goals (
  go_loop [5,41] (fun n i=>∃k:Nat,k<=xs.length/\i=.int .i64 k/\n=.int .i64 ((M+Lib.lens ((xs.map (·.data.toList)).take k):Nat):Int)) (fun _ i=>xs.length-(intOf i).toNat)
  case atStart=>exact⟨0,Nat.zero_le _,rfl,by first | (simp[Lib.lens];done) | (have:=hM0 (by omega);simp[Lib.lens,this])⟩
  case round=>
   obtain⟨k,hk,rfl,rfl⟩:=hrel;by_cases hkn:k<xs.length
   ·obtain⟨x,hx⟩:∃x,xs[k]? = some x:=⟨xs[k],List.getElem?_eq_getElem hkn⟩;have hc:=HC.out k x hx;have hstep:=Lib.lens_take_succ (xs.map (·.data.toList)) k x.data.toList (by simp[hx]);have hbound:Lib.lens ((xs.map (·.data.toList)).take (k+1))<=Lib.lens (xs.map (·.data.toList)):=Lib.lens_take_le _ _;rw[<-Lib.size_eq]at hstep;generalize hA1:Lib.lens ((xs.map (·.data.toList)).take (k+1))=A1 at hstep hbound;generalize Lib.lens ((xs.map (·.data.toList)).take k)=A0 at hstep;have HA1:=Jl.hid hA1;clear hA1
    go_wp2
    exact⟨⟨k+1,by omega,by go_num,by rw[HA1.out];refine congrArg _ ?_;omega⟩,by simp[intOf];omega⟩
   ·have hke:k=xs.length:=by omega
    subst hke;have hall:(xs.map (·.data.toList)).take xs.length=xs.map (·.data.toList):=List.take_of_length_le (by simp);rw[hall];generalize hT:Lib.lens (xs.map (·.data.toList))=T at hjl;have HT:=Jl.hid hT;clear hT hall
    go_wp2_with fail
    have hMT:((M:Int)+(T:Int))=((M+T:Nat):Int):=by omega
    rw[hMT];refine(Jl.Builder_Grow_fresh L w.heap.size w.heap.size (M+T) _ (Nat.le_refl _) (heap_alloc_new w _) (by simp) (by omega)).mono ?_
    rintro e w1 ⟨rfl,h1,hb1⟩
    have hb1':Below w.heap.size w w1:=((Below.refl w.heap.size w).alloc (Nat.le_refl _) _).trans hb1
    -- the first element
    have hx0:xs[0]? = some x0:=by rw[Hxs.out];rfl
    have hc0:w1.cell? ⟨bk,o,none⟩=some (.string x0):=by
     rw[hb1'.cell (p:=⟨bk,o,none⟩) hbk];exact HC.out 0 x0 hx0
    have H1:=Jl.hid (Or.inr h1:Lib.IsBuilder (ρ.t 72) (ρ.t 5) w.heap.size w.heap.size [] w1);have Hb1:=Jl.hid hb1';have hBw1:w.heap.size<=w1.heap.size:=hb1'.size;clear h1 hb1 hb1' hMT
    -- what the builder holds behind k rounds of the second loop;and that it is never longer than the whole
    have hwhole:Lib.join (xs.map (·.data.toList)) sep.data.toList=x0.data.toList++Lib.joinTail sep.data.toList (r.map (·.data.toList)):=by
     rw[Hxs.out,List.map_cons,Lib.join_cons]
    have hCle:∀k,(x0.data.toList++Lib.joinTail sep.data.toList ((r.map (·.data.toList)).take k)).length<=140737488355328:=fun k=>by
     have h1:=Hlen.out;rw[hwhole,List.length_append]at h1;have h2:=Lib.joinTail_take_le sep.data.toList (r.map (·.data.toList)) k;rw[List.length_append];omega
    have HCle:=Jl.hid hCle;have Hwhole:=Jl.hid hwhole;clear hCle hwhole
    go_wp2_with fail
    refine(Jl.Builder_WriteString L w.heap.size w.heap.size [] x0 w1 H1.out (by have:=HCle.out 0;simp[Lib.joinTail]at this ⊢;omega) hBw1).mono ?_
    rintro e w2 ⟨rfl,h2',hb2⟩
    have hstart:([]:List Value)++Lib.strCells x0=Lib.byteCells (x0.data.toList++Lib.joinTail sep.data.toList ((r.map (·.data.toList)).take 0)):=by
     simp[Lib.joinTail,Lib.strCells_eq]
    rw[hstart]at h2';have H2:=Jl.hid (Or.inr h2':Lib.IsBuilder (ρ.t 72) (ρ.t 5) w.heap.size w.heap.size _ w2);have Hb2:=Jl.hid (Hb1.out.trans hb2);clear h2' hb2 hstart;have hrl:r.length=xs.length-1:=by rw[Hxs.out];simp
    go_wp2_with fail
    go_loopw [65] (fun i wr=>∃k:Nat,k<=r.length/\i=.int .i64 k/\Hid (Lib.IsBuilder (ρ.t 72) (ρ.t 5) w.heap.size w.heap.size (Lib.byteCells (x0.data.toList++Lib.joinTail sep.data.toList ((r.map (·.data.toList)).take k))) wr)/\Hid (Below w.heap.size w wr)) (fun i _=>r.length-(intOf i).toNat)
    case atStart=>exact⟨0,Nat.zero_le _,rfl,H2,Hb2⟩
    case round=>
     obtain⟨k,hk',rfl,HB,HW⟩:=hrel;by_cases hkr:k<r.length
     ·obtain⟨y,hy⟩:∃y,r[k]? = some y:=⟨r[k],List.getElem?_eq_getElem hkr⟩;have hxy:xs[k+1]? = some y:=by rw[Hxs.out];simpa using hy
      have hcy:wr.cell? ⟨bk,o+1+k,none⟩=some (.string y):=by
       rw[HW.out.cell (p:=⟨bk,o+1+k,none⟩) hbk,show o+1+k=o+(k+1) by omega];exact HC.out (k+1) y hxy
      have hBw:w.heap.size<=wr.heap.size:=HW.out.size;have hnext:Lib.byteCells (x0.data.toList++Lib.joinTail sep.data.toList ((r.map (·.data.toList)).take k))++Lib.strCells sep++Lib.strCells y=Lib.byteCells (x0.data.toList++Lib.joinTail sep.data.toList ((r.map (·.data.toList)).take (k+1))):=by
       rw[Lib.joinTail_take_succ sep.data.toList (r.map (·.data.toList)) k y.data.toList (by simp[hy]),Lib.strCells_eq,Lib.strCells_eq,<-Lib.byteCells_append,<-Lib.byteCells_append,List.append_assoc,List.append_assoc,List.append_assoc]
      have hl1:=HCle.out (k+1);rw[Lib.joinTail_take_succ sep.data.toList (r.map (·.data.toList)) k y.data.toList (by simp[hy])]at hl1;simp only[List.length_append,<-Lib.size_eq]at hl1;have hl0:(Lib.byteCells (x0.data.toList++Lib.joinTail sep.data.toList ((r.map (·.data.toList)).take k))).length=x0.size+(Lib.joinTail sep.data.toList ((r.map (·.data.toList)).take k)).length:=by
       rw[Lib.byteCells_length,List.length_append,<-Lib.size_eq]
      generalize (Lib.joinTail sep.data.toList ((r.map (·.data.toList)).take k)).length=J at hl0 hl1;have Hn:=Jl.hid hnext;clear hnext hy hxy
      go_wp2_with fail
      refine(Jl.Builder_WriteString L w.heap.size w.heap.size _ sep wr HB.out (by rw[hl0];omega) hBw).mono ?_
      rintro e w3 ⟨rfl,h3,hb3⟩
      have hBw3:w.heap.size<=w3.heap.size:=Nat.le_trans hBw hb3.size;have H3:=Jl.hid h3;have Hb3:=Jl.hid hb3;clear h3 hb3
      go_wp2_with fail
      refine(Jl.Builder_WriteString L w.heap.size w.heap.size _ y w3 (Or.inr H3.out) (by rw[List.length_append,hl0,Lib.strCells_length];omega) hBw3).mono ?_
      rintro e w4 ⟨rfl,h4,hb4⟩
      rw[Hn.out]at h4;have H4:=Jl.hid (Or.inr h4:Lib.IsBuilder (ρ.t 72) (ρ.t 5) w.heap.size w.heap.size _ w4);have Hb4:=Jl.hid ((HW.out.trans Hb3.out).trans hb4);clear h4 hb4
      go_wp2
      exact⟨⟨k+1,by omega,by go_num,H4,Hb4⟩,by simp[intOf];omega⟩
     ·have hke:k=r.length:=by omega
      subst hke;have hfull:(r.map (·.data.toList)).take r.length=r.map (·.data.toList):=List.take_of_length_le (by simp);have hB':=HB.out;rw[hfull,<-Hwhole.out]at hB';have hBw:w.heap.size<=wr.heap.size:=HW.out.size
      go_wp2_with fail
      refine(Any.Builder_String_any L.ton169 L.toExtra w.heap.size w.heap.size _ wr hB' hBw).mono ?_
      rintro e w5 ⟨rfl,hb5⟩
      have Hb5:=Jl.hid (HW.out.trans hb5);clear hb5 hB'
      go_wp2
      go_ret
      exact⟨rfl,Hb5.out⟩)
def Jl.strings_Join(L:JL P ρ)(bk o c:Nat)(xs:List ByteArray)(sep:ByteArray)(w:World)
  (hcells:∀(j:Nat) x,xs[j]? = some x->w.cell? ⟨bk,o+j,none⟩=some (.string x))
  (hbk:bk<w.heap.size) (hN:xs.length<=140737488355328) (hcap:xs.length<=c)
  (hlen:(Lib.join (xs.map (·.data.toList)) sep.data.toList).length<=140737488355328) :
  Calls P (ρ.f 156) #[.slice (some ⟨bk,o,none⟩) xs.length c,.string sep] w fun e w'=>e=.returned (.string ⟨(Lib.join (xs.map (·.data.toList)) sep.data.toList).toArray⟩)/\Below w.heap.size w w':=by
 match xs,hcells,hN,hcap,hlen with
 | [],_,_,_,_=>exact(Jl.strings_Join_none L _ c sep w).mono fun e w' ⟨he,hw⟩=>⟨he,hw▸Below.refl _ _⟩
 | [x],hcells,_,_,_=>
  refine(Jl.strings_Join_one L bk o c x sep w (hcells 0 x rfl)).mono fun e w' ⟨he,hw⟩=>⟨?_,hw▸Below.refl _ _⟩;rw[he,List.map_cons,List.map_nil,Lib.join_one,Lib.mk_data]
 | x::y::r,hcells,hN,hcap,hlen=>grind[Jl.strings_Join_many]
end Go.Proofs
end
section
namespace Go.Proofs
open Go.Shelf Go.RowKit Go.Ab
variable{P:Program}{ρ:Ren}
def sl_inv{w:World}{S:Nat->Nat->Prop}{v:Value}{els:List (List AV)}{f:Fl}(h:CP w S v (.sl els f)) :
  (els=[]/\∃a,v=.slice a 0 0)\/∃(blk off z cap:Nat) (u:Nat->Nat->Value),v=.slice (some ⟨blk,off,none⟩) els.length cap/\els.length<=cap/\cap<=maxLen /\
   (∀(i:Nat) (r:List AV),els[i]? = some r->r.length=z) /\
   (∀i j,i<els.length->j<z->S blk (off+i*z+j)/\w.cell? ⟨blk,off+i*z+j,none⟩=some (u i j)) /\
   (∀(i:Nat) (r:List AV) (j:Nat) (c:AV),els[i]? = some r->r[j]? = some c->CP w S (u i j) c):=by
 cases h with
 | slnil f hf=>exact .inl ⟨rfl,_,rfl⟩
 | slz a f hf=>exact .inl ⟨rfl,_,rfl⟩
 | sl blk off z cap els f u hf hfull hcap hmax hz hS hc=>exact .inr ⟨blk,off,z,cap,u,rfl,hcap,hmax,hz,fun i j hi hj=>⟨(hS i j hi hj).1,(hS i j hi hj).2.1⟩,hc⟩
def s_inv{w:World}{S:Nat->Nat->Prop}{v:Value}{l:List UInt8}(h:CP w S v (.s l)):v=.string ⟨l.toArray⟩:=by
 cases h with
 | s=>rfl
def two_args{cargs:Array Value}(h:cargs.size=2):∃a b,cargs=#[a,b]:=by
 obtain⟨l⟩:=cargs
 match l,h with
 | [a,b],_=>exact⟨a,b,rfl⟩
theorem inter_len(sep:List UInt8)(hs:sep.length<=100):∀ts:List (List UInt8),(∀t∈ts,t.length<=10000)->(Lib.join ts sep).length<=20000*ts.length
 | [],_=>by simp[Lib.join,List.intercalate]
 | x::r,h=>by
  have key:∀r:List (List UInt8),(∀t∈r,t.length<=10000)->Lib.lens r<=10000*r.length:=by
   intro r
   induction r with
   | nil=>intro _;simp[Lib.lens]
   | cons y r ih=>
    intro h;have h1:=ih fun t ht=>h t (List.mem_cons_of_mem _ ht);have h2:=h y List.mem_cons_self;simp only[Lib.lens,List.map_cons,List.sum_cons,List.length_cons]at h1 ⊢;omega
  rw[Lib.join_length];have h1:=key (x::r) h;have h2:=Nat.mul_le_mul_right r.length hs;simp only[List.length_cons]at h1 ⊢;omega
def join_pcall(L:JL P ρ):∀xs r,prim183 xs=some r->Z9 P (ρ.f 156) xs (·=r):=by
 intro xs r h;unfold prim183 at h;split at h
 ·split at h
  ·rename_i els sep hl;cases ht:els.mapM textOf with
   | none=>rw[ht]at h;cases h
   | some ts=>
    rw[ht]at h;cases h;obtain⟨he,hb⟩:=zin ht;refine⟨enters_of L.f156 (by kernel_rfl) rfl,fun w S cargs hsz hC hS=>?_⟩;obtain⟨v0,v1,rfl⟩:=two_args hsz;have c0:=hC 0 _ _ rfl rfl;have c1:=s_inv (hC 1 _ _ rfl rfl);subst c1;have htl:ts.length<=1000:=by rw[he,zc5]at hl;exact hl.1
    have done:∀{Q:World->Prop},(∀w',Q w'->Below w.heap.size w w')->Calls P (ρ.f 156) #[v0,.string ⟨sep.toArray⟩] w (fun e w'=>e=.returned (.string ⟨(List.intercalate sep ts).toArray⟩)/\Q w') ->
      Calls P (ρ.f 156) #[v0,.string ⟨sep.toArray⟩] w fun e w'=>∃v r,e=.returned v/\r=AV.s (List.intercalate sep ts)/\Below w.heap.size w w'/\CP w' (fun k o=>S k o\/(w.heap.size<=k/\k<w'.heap.size)) v r:=by
     intro Q hQ hc;refine hc.mono ?_
     rintro e w' ⟨rfl,hb⟩
     exact⟨_,_,rfl,rfl,hQ _ hb,.s _⟩
    rcases sl_inv c0 with ⟨h0,a,rfl⟩ | ⟨blk,off,z,cap,u,rfl,hcap,hmax,hz,hcell,hcp⟩
    ·have h1:ts=[]:=by
      rw[he]at h0;exact List.eq_nil_of_length_eq_zero (by rw[<-zc5 ts,h0];rfl)
     subst h1;refine done (Q:=fun w'=>w'=w) (fun w' h=>h▸Below.refl _ _) ?_;exact Jl.strings_Join_none L a 0 ⟨sep.toArray⟩ w
    ·have hel:els.length=ts.length:=by rw[he,zc5]
     have hcells:∀(j:Nat) x,(ts.map fun t=>(⟨t.toArray⟩:ByteArray))[j]? = some x->S blk (off+j)/\w.cell? ⟨blk,off+j,none⟩=some (.string x):=by
      intro j x hx;rw[List.getElem?_map]at hx;cases ht2:ts[j]? with
      | none=>rw[ht2]at hx;cases hx
      | some t=>
       rw[ht2]at hx;cases hx;have hj:els[j]? = some [.s t]:=by rw[he];simp[Za4,ht2]
       have hz1:1=z:=hz j _ hj;subst hz1;have hjl:j<els.length:=(List.getElem?_eq_some_iff.1 hj).1;obtain⟨h1,h2⟩:=hcell j 0 hjl Nat.one_pos;have h3:=s_inv (hcp j _ 0 (.s t) hj rfl);rw[h3]at h2;simp only[Nat.mul_one,Nat.add_zero]at h1 h2;exact⟨h1,h2⟩
     cases hts:ts with
     | nil=>
      subst hts;rw[show els.length=0 from hel]at done ⊢;refine done (Q:=fun w'=>w'=w) (fun w' h=>h▸Below.refl _ _) ?_;exact Jl.strings_Join_none L _ cap ⟨sep.toArray⟩ w
     | cons t0 tr=>
      rw[<-hts];have hblk:blk<w.heap.size:=hS _ _ (hcells 0 ⟨t0.toArray⟩ (by rw[hts];rfl)).1;have hm:(ts.map fun t=>(⟨t.toArray⟩:ByteArray)).map (·.data.toList)=ts:=by rw[List.map_map];simp[Function.comp_def]
      have hj:=Jl.strings_Join L blk off cap (ts.map fun t=>(⟨t.toArray⟩:ByteArray)) ⟨sep.toArray⟩ w (fun j x hx=>(hcells j x hx).2) hblk (by rw[List.length_map];omega) (by rw[List.length_map];omega)
       (by rw[hm];have:=inter_len sep hl.2 ts hb;show (Lib.join ts sep).length<=_;omega)
      rw[hm,List.length_map,<-hel]at hj;exact done (fun _ h=>h) hj
  ·cases h
 ·cases h
end Go.Proofs
end
section
namespace Go.Proofs
open Go.Shelf Go.RowKit
set_option maxRecDepth 100000
def Tryd.jren:Ren:=⟨fun | 156=>36 | 165=>56 | 166=>57 | 169=>58 | 240=>71 | 241=>72 | 277=>87 | n=>n,fun | 0=>0 | 1=>1 | 2=>2 | 3=>3 | 4=>4 | 5=>5 | 6=>6 | 7=>7 | 8=>8 | 9=>9 | 10=>10 | 11=>11 | 12=>12 | 13=>13 | 14=>14 | 15=>15 | 16=>16 | 17=>17 | 18=>18 | 19=>19 | 20=>20 | 21=>21 | 23=>111 | 27=>146 | 31=>69 | 37=>90 | 40=>144 | 41=>134 | 46=>85 | 51=>80 | 52=>116 | 53=>68 | 55=>143 | 63=>137 | 64=>138 | 67=>71 | 70=>89 | 71=>91 | 72=>92 | 73=>93 | 74=>94 | 75=>95 | 76=>96 | 77=>97 | 80=>98 | 81=>152 | 105=>135 | 106=>136 | 114=>145 | 115=>122 | 116=>123 | 117=>124 | 118=>125 | 119=>139 | 122=>121 | 123=>126 | 124=>127 | 127=>112 | 137=>140 | 138=>141 | 139=>142 | 146=>104 | 164=>128 | 165=>129 | 166=>130 | n=>n,fun n=>n⟩
def Tryd.joinLaid:JL Tryd.prog Tryd.jren:={
 mixed:=by kernel_rfl,
 f169:=Tryd.func58.trans (congrArg some (by kernel_rfl)),
 t0:=Tryd.underlying0,
 a0:=Tryd.isAgg0,
 z0:=Tryd.sizeOf0,
 v0:=Tryd.zeroValue0,
 t3:=Tryd.underlying3,
 a3:=Tryd.isAgg3,
 z3:=Tryd.sizeOf3,
 v3:=Tryd.zeroValue3,
 t9:=Tryd.underlying9,
 a9:=Tryd.isAgg9,
 z9:=Tryd.sizeOf9,
 v9:=Tryd.zeroValue9,
 t37:=Tryd.underlying90,
 a37:=Tryd.isAgg90,
 z37:=Tryd.sizeOf90,
 v37:=Tryd.zeroValue90,
 t70:=Tryd.underlying89,
 a70:=Tryd.isAgg89,
 z70:=Tryd.sizeOf89,
 v70:=Tryd.zeroValue89,
 t72:=Tryd.underlying92,
 a72:=Tryd.isAgg92,
 z72:=Tryd.sizeOf92,
 v72:=Tryd.zeroValue92,
 t127:=Tryd.underlying112,
 a127:=Tryd.isAgg112,
 z127:=Tryd.sizeOf112,
 v127:=Tryd.zeroValue112,
 f241:=Tryd.func72.trans (congrArg some (by kernel_rfl)),
 f277:=Tryd.func87.trans (congrArg some (by kernel_rfl)),
 sizeBuilder:=by kernel_rfl,
 liesBuilder:=by kernel_rfl,
 t5:=Tryd.underlying5,
 a5:=Tryd.isAgg5,
 z5:=Tryd.sizeOf5,
 v5:=Tryd.zeroValue5,
 infoByte:=by kernel_rfl,
 cellsByte:=by kernel_rfl,
 sizeByte:=by kernel_rfl,
 neB5:=by decide,
 f156:=Tryd.func36.trans (congrArg some (by kernel_rfl)),
 f165:=Tryd.func56.trans (congrArg some (by kernel_rfl)),
 f166:=Tryd.func57.trans (congrArg some (by kernel_rfl)),
 t4:=Tryd.underlying4,
 a4:=Tryd.isAgg4,
 z4:=Tryd.sizeOf4,
 v4:=Tryd.zeroValue4,
 t20:=Tryd.underlying20,
 a20:=Tryd.isAgg20,
 z20:=Tryd.sizeOf20,
 v20:=Tryd.zeroValue20,
 t31:=Tryd.underlying69,
 a31:=Tryd.isAgg69,
 z31:=Tryd.sizeOf69,
 v31:=Tryd.zeroValue69,
 t75:=Tryd.underlying95,
 a75:=Tryd.isAgg95,
 z75:=Tryd.sizeOf95,
 v75:=Tryd.zeroValue95,
 t76:=Tryd.underlying96,
 a76:=Tryd.isAgg96,
 z76:=Tryd.sizeOf96,
 v76:=Tryd.zeroValue96,
 t164:=Tryd.underlying128,
 a164:=Tryd.isAgg128,
 z164:=Tryd.sizeOf128,
 v164:=Tryd.zeroValue128,
 e240:=enters_of Tryd.func71 (by kernel_rfl) rfl,
 c240:=fun B b bs w h=>Tryd.bCheck B b bs w h,
 c240f:=fun b w h0 h1 h2=>Tryd.bCheck_fresh b w h0 h1 h2 }
end Go.Proofs
namespace Go.Proofs.YtfdblmomnikehaaDoor
open Go.Ab
def join_ok:∀xs r,prim183 xs=some r->Z9 Tryd.prog (nu 183) xs (·=r):=by
 have e:nu 183=Tryd.jren.f 156:=by kernel_rfl
 rw[e];exact join_pcall Tryd.joinLaid
end Go.Proofs.YtfdblmomnikehaaDoor
end
namespace Go.Ab
section
open Go.ChangeShapes Go.WideShapes Go.ChangeAt Go.RowKit
def ziu{H:Type}{enc:TypeId×Value->H}{P:Program}{f:Func}{s:ChangeSpec}{apart fresh handsOn again:Bool}{W W':World}{args:Array Value}{v:Value}{ds gs:List (DataW H)}{before pa pv:List MemPlace}
  (hW:DataW.Whole enc P f.params.toList s.vars apart W args.toList ds gs before)
  (hres:∀(b:Nat) (sp:Nat->Bool) (hd:Bool),DataW.TrodAll enc P W' b sp hd f.resultTypes.toList (v.resultList f.resultTypes.size) (s.fn H (ds++gs)).results [])
  (hargs:∀sp:Nat->Bool,(∀p∈before,sp p.block=true)->DataW.TrodAll enc P W' 0 sp true f.params.toList args.toList (s.fn H (ds++gs)).args pa)
  (hvars:∀sp:Nat->Bool,(∀p∈before,sp p.block=true)->DataW.TrodVars enc P W' sp s.vars (s.fn H (ds++gs)).vars pv)
  (hps:before=pa++pv) (hw:Below W.heap.size W W')
  (hok:∀(j:Nat) (t:TypeId) (r:Value),f.resultTypes[j]? = some t->(v.resultList f.resultTypes.size)[j]? = some r->Value.okWide P W' .any 0 t r) :
  s.post enc P f apart fresh handsOn again W args v W':=by
 have hold:∀p∈before,(fun b=>decide (b<W.heap.size)) p.block=true:=fun p hp=>by simpa using hW.lt p hp
 have hlt:∀p∈before,p.block<W.heap.size:=fun p hp=>hW.lt p hp;refine⟨ds,gs,before,[],pa,pv,hW,hres _ _ _,hargs _ hold,hvars _ hold,World.keptBut_mono (fun p hp=>⟨hp,?_⟩) (hw.frame (·∈before)),fun _=>?_⟩
 ·grind
 ·obtain⟨_,_,_,_,_,hz,hn⟩:=hW;refine⟨hok,_,_,([]++pa)++pv,⟨[]++pa,pv,trodAll_append (hargs _ (fun _ _=>rfl)) (hres _ _ _),hvars _ (fun _ _=>rfl),rfl,?_,?_⟩,?_⟩
  ·intro b off hp;have hp':MemPlace.cell b off∈before:=by grind
   rw[hw.frozen (p:=⟨b,off,none⟩) (hlt _ hp')];exact hz b off hp'
  all_goals grind
end
section
open Go.ChangeShapes Go.WideShapes Go.ChangeAt Go.RowKit
inductive Ty where
 | int (k:IntKind)
 | bool
 | str
 | sl (r:Ty)
 | nil
 | cons (a:Ty) (r:Ty)
def Ty.z:Ty->Nat
 | .nil=>0
 | .cons a r=>a.z+r.z
 | _=>1
def Ok:Ty->List AV->Prop
 | .int k,cs=>∃n,cs=[.i k n]/\(Lit.int k n).wf=true
 | .bool,cs=>∃b,cs=[.b b]
 | .str,cs=>∃l,cs=[.s l]/\l.length<=maxLen
 | .sl r,cs=>∃els f,cs=[.sl els f]/\els.length<=maxLen/\(f=.nl/\els=[]\/f=.so)/\∀row∈els,Ok r row
 | .nil,cs=>cs=[]
 | .cons a r,cs=>∃c1 c2,cs=c1++c2/\Ok a c1/\Ok r c2
theorem Ok.len:∀{ty:Ty} {cs:List AV},Ok ty cs->cs.length=ty.z
 | .int _,_,⟨_,h,_⟩=>by rw[h];rfl
 | .bool,_,⟨_,h⟩=>by rw[h];rfl
 | .str,_,⟨_,h,_⟩=>by rw[h];rfl
 | .sl _,_,⟨_,_,h,_⟩=>by rw[h];rfl
 | .nil,_,h=>by rw[show _=[] from h];rfl
 | .cons _ _,_,⟨_,_,h,h1,h2⟩=>by rw[h,Yah,h1.len,h2.len];rfl
def Zcc(w:World)(S:Nat->Nat->Prop)(cs:List Value)(xs:List AV):Prop:=
 xs.length=cs.length/\∀(j:Nat) (v:Value) (c:AV),cs[j]? = some v->xs[j]? = some c->CP w S v c/\v.oneCell'=true
section
variable{H:Type}{enc:TypeId×Value->H}{P:Program}{w:World}{base:Nat}{held:Bool}{S:Nat->Nat->Prop}
def Zcc.nil:Zcc w S [] []:=⟨rfl,fun j v c h=>by grind⟩
def Zcc.one{v:Value}{c:AV}(h:CP w S v c)(h1:v.oneCell'=true):Zcc w S [v] [c]:=by
 refine⟨rfl,fun j v' c' hv hc=>?_⟩
 grind
def Zcc.append{cs cs':List Value}{xs xs':List AV}(h:Zcc w S cs xs)(h':Zcc w S cs' xs'):Zcc w S (cs++cs') (xs++xs'):=by
 refine⟨by rw[Yah,Yah,h.1,h'.1],fun j v c hv hc=>?_⟩;by_cases hj:j<cs.length
 ·rw[Yj hj]at hv;rw[Yj (by rw[h.1];omega)]at hc;exact h.2 j v c hv hc
 ·rw[Ye (by omega)]at hv;rw[Ye (by rw[h.1];omega),h.1]at hc;exact h'.2 _ v c hv hc
def Zea(P:Program)(g:TypeId->Option Ty)(tot:Nat):Nat->List Field->Option Ty
 | off,[]=>if off=tot then some .nil else none
 | off,f::fs=>(g f.type).bind fun a=>if f.offset=off/\a.z=P.cellsOf f.type then (Zea P g tot (off+a.z) fs).map (.cons a) else none
def Zh5:Nat->Ty->Ty
 | 0,_=>.nil
 | n+1,a=>.cons a (Zh5 n a)
def Ze0(P:Program):Nat->TypeId->Option Ty
 | 0,_=>none
 | n+1,t=>
  match P.underlying t with
  | some .bool=>some .bool
  | some (.int k)=>some (.int k)
  | some .string=>some .str
  | some (.slice e)=>(Ze0 P n e).bind fun r=>if r.z=P.cellsOf e/\0<r.z then some (.sl r) else none
  | some (.struct fs)=>Zea P (Ze0 P n) (P.cellsOf t) 0 fs.toList
  | some (.array k e)=>(Ze0 P n e).bind fun a=>if a.z=P.cellsOf e/\k*a.z=P.cellsOf t then some (Zh5 k a) else none
  | _=>none
theorem zqh{α:Type}{Q:Nat->α->Prop}:∀(n:Nat),(∀i,i<n->∃x,Q i x)->∃l:List α,l.length=n/\∀i x,l[i]? = some x->Q i x
 | 0,_=>⟨[],rfl,fun i x h=>by grind⟩
 | n+1,h=>by
  obtain⟨l,hl,hq⟩:=zqh n fun i hi=>h i (by omega);obtain⟨x,hx⟩:=h n (by omega);refine⟨l++[x],by grind,fun i y hy=>?_⟩
  grind
def Zdv(S:Nat->Nat->Prop)(ps:List MemPlace):Prop:=∀k o,MemPlace.cell k o∈ps->S k o
def znb{a:Addr}{m z:Nat}{cs:List Value}(h:w.cells? base (a.add m) z=some cs)(j:Nat)(hj:j<z):w.cell? ((a.add m).add j)=cs[j]? := (World.cells?_some h).2.2 j hj
theorem zqi{a:Addr}{v:Value}(h:w.cell? a=some v):a.spot=none:=by
 unfold World.cell? at h;split at h
 all_goals simp_all
end
end
section
open Go.ChangeShapes Go.WideShapes Go.ChangeAt Go.RowKit
def isAgg(P:Program)(t:TypeId):Bool:=match P.underlying t with | some (.struct _)=>true | some (.array _ _)=>true | _=>false
def Zh6(P:Program)(m:Nat):List TypeId->Option (List (Bool×Ty))
 | []=>some []
 | t::ts=>(Ze0 P m t).bind fun a=>(Zh6 P m ts).map fun r=>(isAgg P t,a)::r
def Zh7:Bool×Ty->AV->Prop
 | (true,ty),x=>∃cs,x=.agg cs/\Ok ty cs
 | (false,ty),x=>Ok ty [x]
def Zjq:List (Bool×Ty)->List AV->Prop
 | [],xs=>xs=[]
 | a::r,xs=>∃x ys,xs=x::ys/\Zh7 a x/\Zjq r ys
section
variable{H:Type}{enc:TypeId×Value->H}{P:Program}{w:World}{S:Nat->Nat->Prop}
theorem znc(hl:laidOutB P=true){W W':World}(hb:Below W.heap.size W W'){sp:Nat->Bool}:∀(ts:List TypeId) (vs:List Value) (ds:List (DataW H)) (p:List MemPlace),
  (ts.all fun t=>P.readableRec t&&decide (t<P.types.size))=true->DataW.TrodAll enc P W 0 (fun _=>true) true ts vs ds p->(∀x∈p,x.block<W.heap.size)->(∀x∈p,sp x.block=true)->DataW.TrodAll enc P W' 0 sp true ts vs ds p
 | [],_,_,_,_,hA,_,_=>by
  obtain⟨rfl,rfl,rfl⟩:=trodAll_nil hA;exact rfl
 | t::ts,vs,ds,p,hr,hA,hlt,hsp=>by
  obtain⟨v,vs1,d,ds1,a,b,rfl,rfl,rfl,h1,h2⟩:=trodAll_cons hA;rw[Ycq,Yk,Yk,decide_eq_true_eq]at hr;exact⟨a,b,WideElems.Trod_stays hl hr.1.1 hr.1.2 h1 (fun x hx=>hb.same (hlt x (Yq _ hx))) (fun x hx=>hsp x (Yq _ hx)),
   znc hl hb ts vs1 ds1 b hr.2 h2 (fun x hx=>hlt x (Ym _ hx)) (fun x hx=>hsp x (Ym _ hx)),rfl⟩
theorem zqj:∀(ts:List TypeId) (vs:List Value) (ds:List (DataW H)) (p:List MemPlace),DataW.TrodAll enc P w 0 (fun _=>true) true ts vs ds p->ds.length=ts.length
 | [],_,_,_,hA=>by
  obtain⟨rfl,rfl,rfl⟩:=trodAll_nil hA
  rfl
 | t::ts,vs,ds,p,hA=>by
  obtain⟨v,vs1,d,ds1,a,b,rfl,rfl,rfl,h1,h2⟩:=trodAll_cons hA;simp[zqj ts vs1 ds1 b h2]
end
end
theorem zi3:∀(els:List (List AV)),(∀row∈els,Ok (.int .u32) row)->∃l:List UInt32,els=Za l
 | [],_=>⟨[],rfl⟩
 | r::els,h=>by
  obtain⟨l,rfl⟩:=zi3 els fun row hr=>h row (Yh _ hr);obtain⟨n,rfl,hw⟩:=h r Yp;have h1:0<=n/\n<4294967296:=by
   simp[Lit.wf,IntKind.min,IntKind.max,IntKind.signed,IntKind.bits]at hw;omega
  refine⟨w32 n.toNat::l,?_⟩;have:(w32 n.toNat).toNat=n.toNat:=zae (by omega);simp only[Za,Yy,this,u32];rw[Int.toNat_of_nonneg h1.1]
def zug{P:Program}{ν:Nat->FuncId}{T:Tbl}(hT:TOk P ν T)(hm:P.follows .mixedOrders=true){u:Nat}{af:AFx}{xs ys:List AV}{r:AV}(hu:T u=some af)(hl:af.lent=none)(h:Zb T u ys=some r)(hx:xs.map wkA=ys):Z9 P (ν u) xs (·=r):=by
 subst hx;have h1:=zg6 hT hm hu hl h;exact Z9.wk (ex:=false) h1
abbrev Fz:=Bool×List UInt32×List UInt32
abbrev Z8(x:Fz):List AV:=[.b x.1,.sl (Za x.2.1) .an,.sl (Za x.2.2) .an]
abbrev efz(x:Fz):AV:=.agg (Z8 x)
def fv(x:Fz):Rat:=mkRat (wv x.1 x.2.1) (val x.2.2)
def fz(q:Rat):Fz:=(decide (q.num<0),ofN q.num.natAbs,ofN q.den)
@[simp] theorem zc0(q:Rat):fv (fz q)=q:=by
 unfold fv fz;rw[zhh,zah,Rat.mkRat_self]
def fsz(x:Fz):Nat:=max x.2.1.length x.2.2.length
def ze6(x:Fz):x.2.1.length<=fsz x:=Nat.le_max_left ..
def zfn(x:Fz):x.2.2.length<=fsz x:=Nat.le_max_right ..
def sz(q:Rat):Nat:=max (ofN q.num.natAbs).length (ofN q.den).length
theorem zhj(q:Rat):(ofN q.num.natAbs).length<=sz q:=Nat.le_max_left ..
theorem zhk(q:Rat):(ofN q.den).length<=sz q:=Nat.le_max_right ..
def zhl{n:Nat}(h:n≠0):1<=(ofN n).length:=by
 have:ofN n≠[]:=fun e=>h (zbq.1 e);exact Ycw.2 this
def zv9(q:Rat):1<=sz q:=Yf (zhl q.den_nz) (zhk q)
def zwa{z:Int}{d:Nat}(h:d≠0):(mkRat z d).num.natAbs=z.natAbs/Nat.gcd z.natAbs d:=by
 rw[Rat.num_mkRat,if_neg h,Int.natAbs_ediv_of_dvd (Int.ofNat_dvd_left.2 (Nat.gcd_dvd_right ..)),Int.natAbs_natCast,Yb1]
def zwb{z:Int}{d:Nat}(h:d≠0):(mkRat z d).den=d/Nat.gcd z.natAbs d:=by
 rw[Rat.den_mkRat,if_neg h,Yb1]
def zwc{z:Int}{d:Nat}(h:d≠0):sgI (mkRat z d).num=sgI z:=by
 rw[Rat.num_mkRat,if_neg h];have hg:0<Nat.gcd d z.natAbs:=Nat.gcd_pos_of_pos_left _ (Y7 h);obtain⟨k,hk⟩:((Nat.gcd d z.natAbs:Nat):Int) ∣ z:=Int.ofNat_dvd_left.2 (Nat.gcd_dvd_right ..);generalize Nat.gcd d z.natAbs=g at *
 have hg':(0:Int)<g:=by omega
 subst hk;rw[Int.mul_ediv_cancel_left _ (by omega)];unfold sgI;rcases Int.lt_trichotomy k 0 with h1 | h1 | h1
 ·have:=Int.mul_neg_of_pos_of_neg hg' h1;rw[if_pos h1,if_pos this]
 ·subst h1;simp
 ·have:=Int.mul_pos hg' h1;rw[if_neg (by omega),if_neg (by omega),if_neg (by omega),if_neg (by omega)]
def ztg(z:Int):decide (z<0)=decide (sgI z<0):=by
 unfold sgI;split
 ·simp[*]
 ·split<;>simp[*]
def z3h{z:Int}{d:Nat}(h:d≠0):decide ((mkRat z d).num<0)=decide (z<0):=by
 rw[ztg,ztg z,zwc h]
def zabr(n:Bool)(x:Nat){d:Nat}(h:d≠0):fz (mkRat (sg n x) d)=(n&&decide (x≠0),ofN (x/Nat.gcd x d),ofN (d/Nat.gcd x d)):=by
 unfold fz;rw[z3h h,zwa h,zwb h,zv6,ztd]
def zd1:ofN 1=[1]:=by
 rw[zhf (by decide),show 1/4294967296=0 from rfl,zjh]
 rfl
theorem zth:sz 0=1:=by
 unfold sz;rw[Rat.zero_num,Rat.zero_den,zd1];simp
def zti:sz 1=1:=by
 unfold sz;rw[Rat.one_num,Rat.one_den,show (1:Int).natAbs=1 from rfl,zd1]
 rfl
theorem za1(q:Rat):fsz (fz q)=sz q:=rfl
def zyj{z:Int}{d L:Nat}(hz:(ofN z.natAbs).length<=L)(hd:(ofN d).length<=L)(h1:1<=L):sz (mkRat z d)<=L:=by
 unfold sz;by_cases h:d=0
 ·subst h;rw[Rat.mkRat_zero,Rat.zero_num,Rat.zero_den,zd1];simp;omega
 ·rw[zwa h,zwb h];exact Nat.max_le.2 ⟨Yf (za3 (Ycx _ _)) hz,Yf (za3 (Ycx _ _)) hd⟩
theorem zdq{x:Fz}{L:Nat}(h:fsz x<=L)(h1:1<=L):sz (fv x)<=L:=
 zyj (Yf (zbr _ _) (Yf (ze6 x) h)) (Yf (zab _) (Yf (zfn x) h)) h1
def zb7{x y L M:Nat}(hx:(ofN x).length<=L)(hy:(ofN y).length<=M):(ofN (x*y)).length<=L+M:=by
 have:=zap (x:=(x:Int)) (y:=(y:Int)) (L:=L) (M:=M) (by simpa using hx) (by simpa using hy);simpa[Ydx]using this
theorem zn0(p q:Rat):sz (p+q)<=sz p+sz q+1:=by
 rw[Rat.add_def'];have h1:=zhj p;have h2:=zhk p;have h3:=zhj q;have h4:=zhk q;have h5:=zv9 p;refine zyj ?_ (Yf (zb7 h2 h4) (by omega)) (by omega);refine zdp ?_ ?_
 ·exact zap h1 (by simpa using h4)
 ·rw[Ya5];exact zap h3 (by simpa using h2)
theorem zhm(p q:Rat):sz (p*q)<=sz p+sz q:=by
 rw[Rat.mul_def'];have h1:=zhj p;have h2:=zhk p;have h3:=zhj q;have h4:=zhk q;have h5:=zv9 p;exact zyj (zap h1 h3) (zb7 h2 h4) (by omega)
def ztj(p:Rat):sz (-p)=sz p:=by
 unfold sz;rw[Rat.neg_num,Rat.neg_den,Int.natAbs_neg]
def zwd(p q:Rat):sz (p-q)<=sz p+sz q+1:=by
 rw[Yc8];have:=zn0 p (-q)
 rwa [ztj]at this
def z3i(p:Rat):sz p⁻¹<=sz p:=by
 unfold sz;rw[Rat.num_inv,Rat.den_inv];by_cases h:p.num=0
 ·simp[h,zd1];have:=zhl p.den_nz;omega
 ·rw[if_neg h,Ydx,Int.natAbs_sign_of_ne_zero h,Ycz,Int.natAbs_natCast,Nat.max_comm];exact Yg _
def zwe(p q:Rat):sz (p/q)<=sz p+sz q:=by
 rw[Rat.div_def];exact Yf (zhm _ _) (Nat.add_le_add_left (z3i q) _)
def sgQ(q:Rat):Int:=sgI q.num
def zwf{z:Int}{d:Nat}(h:d≠0):sgQ (mkRat z d)=sgI z:=zwc h
def zvg{z:Int}:sgI z=0↔z=0:=by
 unfold sgI;split
 ·constructor<;>intro h<;>omega
 ·split<;>constructor<;>intro h<;>omega
def zyk{z:Int}:0<sgI z↔0<z:=by
 unfold sgI;split
 ·constructor<;>intro h<;>omega
 ·split<;>constructor<;>intro h<;>omega
theorem zjj{q:Rat}:sgQ q=0↔q=0:=by
 unfold sgQ;rw[zvg,Rat.num_eq_zero]
def ztk{q:Rat}:0<sgQ q↔0<q:=by
 unfold sgQ;rw[zyk,Rat.lt_iff];simp
def Ze(l:List Fz):List (List AV):=l.map Z8
@[simp] def zhn(l:List Fz):(Ze l).length=l.length:=by simp[Ze]
@[simp] def ztl(l:List Fz):wkL (Ze l)=Ze l:=by rw[zcx];simp[Ze,wkR,wkA]
@[simp] def z6n(l:List Fz)(i:Nat)(h:i<(Ze l).length):(Ze l)[i]=Z8 (l[i]'(by simpa using h)):=by simp[Ze]
def zlj(l:List Fz)(x:Fz):Ze l++[Z8 x]=Ze (l++[x]):=by simp[Ze]
def zvh(l:List Fz)(i:Nat)(x:Fz):(Ze l).set i (Z8 x)=Ze (l.set i x):=by simp[Ze,Ydt]
@[simp] def z3j(l:List Fz)(n:Nat):(Ze l).take n=Ze (l.take n):=by simp[Ze]
@[simp] def zn1:Ze []=[]:=rfl
def Z0(m:List (List Fz)):List (List AV):=m.map fun r=>[.sl (Ze r) .an]
@[simp] def zyl(l:List (List Fz)):(Z0 l).length=l.length:=by simp[Z0]
@[simp] def zabs(l:List (List Fz)):wkL (Z0 l)=Z0 l:=by rw[zcx];simp[Z0,wkR,wkA]
@[simp] def z6o(l:List (List Fz))(i:Nat)(h:i<(Z0 l).length):(Z0 l)[i]=[.sl (Ze (l[i]'(by simpa using h))) .an]:=by simp[Z0]
@[simp] def z6p:Z0 []=[]:=rfl
abbrev tyF:Ty:=.cons .bool (.cons (.sl (.int .u32)) (.cons (.sl (.int .u32)) .nil))
def zry{cs:List AV}(h:Ok tyF cs):∃x:Fz,wkR cs=Z8 x:=by
 obtain⟨c1,c2,rfl,⟨b,rfl⟩,c3,c4,rfl,⟨els,f,rfl,_,_,he⟩,c5,c6,rfl,⟨els2,f2,rfl,_,_,he2⟩,rfl⟩:=h;obtain⟨l,rfl⟩:=zi3 els he;obtain⟨l2,rfl⟩:=zi3 els2 he2;refine⟨(b,l,l2),?_⟩;simp[wkA,wkR]
theorem zkw:∀(els:List (List AV)),(∀r∈els,Ok tyF r)->∃l:List Fz,wkL els=Ze l
 | [],_=>⟨[],rfl⟩
 | r::els,h=>by
  obtain⟨l,hl⟩:=zkw els fun r hr=>h r (Yh _ hr);obtain⟨x,hx⟩:=zry (h r Yp);refine⟨x::l,?_⟩;simp only[wkL,hx,hl]
  rfl
def zow{P:Program}{ν:Nat->FuncId}{l l':List (Nat×AFx)}(hT:TOk P ν fun u=>l'.lookup u)(hp:Part l l')(hm:P.follows .mixedOrders=true){u:Nat}{af:AFx}{xs ys:List AV}{r:AV}
  (hu:l'.lookup u=some af) (hl:af.lent=none) (h:Zb (fun u=>l.lookup u) u ys=some r) (hx:xs.map wkA=ys):Z9 P (ν u) xs (·=r):=
 zug hT hm hu hl (hp.call (by rw[hu];rfl) h) hx
end Go.Ab
section
namespace Go.Ab
end Go.Ab
end
namespace Go.Ab
section
variable{T:Tbl}
def zhr(G:Nat):∀y:Nat×Nat,(y.1<18446744073709551616/\y.2<18446744073709551616/\Nat.gcd y.1 y.2=G) ->
  Zr T 0 0 (.norm false [0]) l198_0 ⟨[(0,u64 y.1),(1,u64 y.2)],[],2⟩=some (.n,⟨[(0,u64 G)],[],2⟩):=by
 refine zcc (fun y:Nat×Nat=>⟨[(0,u64 y.1),(1,u64 y.2)],[],2⟩) _ (fun y=>y.2) _ ?_
 rintro⟨x,y⟩ ⟨hx,hy,hG⟩
 simp only at hx hy hG ⊢;by_cases h:y=0
 ·right;subst h;rw[Nat.gcd_zero_right]at hG;subst hG;constructor<;>simp -implicitDefEqProofs[l198_0]
 ·left;have hm:=Ya7 x (Y7 h);refine⟨(y,x%y),⟨hy,by simp only;omega,by simp only;rw[<-hG,Yb1 y,<-Nat.gcd_rec,Yb1]⟩,hm,?_,trivial⟩;simp -implicitDefEqProofs[l198_0,h]
end
section
variable{T:Tbl}[Zm T]
def zkx(x y:Nat)(hx:x<18446744073709551616)(hy:y<18446744073709551616):Zb T 198 [u64 x,u64 y]=some (u64 (Nat.gcd x y)):=by
 have h:=zhr (T:=T) (Nat.gcd x y) (x,y) ⟨hx,hy,rfl⟩;simp only at h;rw[zaa Zm.h198 rfl,b198];simp -implicitDefEqProofs[h]
def zoz(a:List UInt32):Zb T 200 [.sl (Za (ofN (val a))) .an]=some (.b (decide (val a=1))):=by
 rw[zaa Zm.h200 rfl,b200];generalize val a=n;by_cases h0:n=0
 ·subst h0;simp -implicitDefEqProofs
 ·rw[zhf h0];by_cases h1:n/4294967296=0
  ·have e:ofN (n/4294967296)=[]:=zbq.2 h1;have e2:n%4294967296=n:=Yu (by omega);simp -implicitDefEqProofs[e,Za,zdm,e2]
  ·have h2:¬ ofN (n/4294967296)=[]:=fun e=>h1 (zbq.1 e);have h3:¬ n=1:=by rintro rfl;simp at h1
   have h4:¬ ((ofN (n/4294967296)).length:Int)+1=1:=by
    have:=Ycw.2 h2;omega
   simp -implicitDefEqProofs[Za,h3,h4]
end
section
variable{T:Tbl}[Zl T][Zs T][Zt T][Zo T][Zq T][Zm T]
def zuh(G:Nat):∀y:List UInt32×List UInt32,(y.1.length<=90000/\y.2.length<=90000/\(∃n,y.1=ofN n)/\(∃n,y.2=ofN n)/\Nat.gcd (val y.1) (val y.2)=G) ->
  ∃r,(∃a b:List UInt32,r=(Ex.n,(⟨[(0,.sl (Za a) .an),(1,.sl (Za b) .an)],[],2⟩:St))/\a.length<=90000/\b.length<=2/\(∃n,a=ofN n)/\(∃n,b=ofN n)/\Nat.gcd (val a) (val b)=G) /\
   Zr T 0 0 (.norm false [0,1]) l199_0 ⟨[(0,.sl (Za y.1) .an),(1,.sl (Za y.2) .an)],[],2⟩=some r:=by
 refine zbc (fun y:List UInt32×List UInt32=>⟨[(0,.sl (Za y.1) .an),(1,.sl (Za y.2) .an)],[],2⟩) _ (fun y=>val y.2) _ ?_
 rintro⟨a,b⟩ ⟨ha,hb,hk,hn,hG⟩
 simp only at ha hb hk hn hG ⊢;by_cases h:2<b.length
 ·left;have h':(2:Int)<b.length:=by omega
  have hv:val b≠0:=by
   obtain⟨n,rfl⟩:=hn;rw[zah]
   rintro rfl
   simp at h
  have hd:=ze5 (T:=T) a b ha hb;rw[if_neg hv]at hd;have hm:=Ya7 (val a) (Y7 hv);refine⟨(b,ofN (val a%val b)),⟨hb,?_,hn,⟨_,rfl⟩,?_⟩,?_,?_⟩
  ·have:=za3 (Yc6 hm);have:=zab b;simp only;omega
  ·simp only;rw[zah,<-hG,Yb1 (val b),<-Nat.gcd_rec,Yb1]
  ·simp only[zah];exact hm
  ·clear hG hm hn hv hk;simp -implicitDefEqProofs[l199_0,h',hd]
 ·right;have h':¬ (2:Int)<b.length:=by omega
  refine⟨_,⟨a,b,rfl,ha,by omega,hk,hn,hG⟩,?_,?_⟩<;>clear hG<;>simp -implicitDefEqProofs[l199_0,h']
def zmg(a b:List UInt32)(ha:a.length<=90000)(hb:b.length<=90000):Zb T 199 [.sl (Za a) .an,.sl (Za b) .an]=some (.sl (Za (ofN (Nat.gcd (val a) (val b)))) .an):=by
 have h1:=zbj (T:=T) a (by omega);have h2:=zbj (T:=T) b (by omega);have la:=zab a;have lb:=zab b;obtain⟨G,hG⟩:∃G,G=Nat.gcd (val a) (val b):=⟨_,rfl⟩;obtain⟨_,⟨x,y,rfl,hx,hy,⟨m,rfl⟩,⟨n,rfl⟩,hg⟩,hr⟩:=zuh (T:=T) G (ofN (val a),ofN (val b)) ⟨by simp only;omega,by simp only;omega,⟨_,rfl⟩,⟨_,rfl⟩,by simp only[zah];exact hG.symm⟩;simp only at hr;rw[zah,zah]at hg;rw[zaa Zm.h199 rfl,b199,<-hG];clear hG;by_cases h0:n=0
 ·subst h0;rw[Nat.gcd_zero_right]at hg;subst hg;simp -implicitDefEqProofs[h1,h2,hr]
 ·have hv:val (ofN n)≠0:=by rw[zah];exact h0
  have hd:=ze5 (T:=T) (ofN m) (ofN n) hx (by omega);rw[if_neg hv,zah,zah]at hd;have hn64:n<18446744073709551616:=by
   have:=za0 (ofN n);rw[zah]at this;exact Yn this (Y2 (by decide) hy)
  have hm:=Ya7 m (Y7 h0);have s1:=zk3 (T:=T) (ofN n) (by omega);rw[zah,if_pos hn64]at s1;have s2:=zk3 (T:=T) (ofN (m%n)) (by have:=za3 (Yc6 hm);omega);rw[zah,if_pos (by omega)]at s2;have s3:=zkx (T:=T) n (m%n) hn64 (by omega);have e:Nat.gcd n (m%n)=G:=by rw[<-hg,Yb1 n,<-Nat.gcd_rec,Yb1]
  rw[e]at s3;have s4:=zhb (T:=T) G (by
   rw[<-hg];exact Yc7 (Nat.gcd_le_right _ (Y7 h0)) hn64)
  have hl:¬ ofN n=[]:=fun e=>h0 (zbq.1 e);simp -implicitDefEqProofs[h1,h2,hr,hd,s1,s2,s3,s4,hl,h0]
def zhs(a b:List UInt32)(ha:a.length<=90000)(hb:b.length<=90000):Zb T 201 [.sl (Za a) .an,.sl (Za b) .an] =
  some (.tup [.sl (Za (ofN (val a/Nat.gcd (val a) (val b)))) .an,.sl (Za (ofN (val b/Nat.gcd (val a) (val b)))) .an]):=by
 have hg:=zmg (T:=T) a b ha hb;have ho:=zoz (T:=T) (ofN (Nat.gcd (val a) (val b)));rw[zah]at ho;have ll:(ofN (Nat.gcd (val a) (val b))).length<=90000:=by
  by_cases h:val a=0
  ·rw[h,Nat.gcd_zero_left];have:=zab b;omega
  ·have:=za3 (Nat.gcd_le_left (val b) (Y7 h));have:=zab a;omega
 have d1:=ze5 (T:=T) a (ofN (Nat.gcd (val a) (val b))) ha ll;have d2:=ze5 (T:=T) b (ofN (Nat.gcd (val a) (val b))) hb ll;have n1:=zbj (T:=T) a (by omega);have n2:=zbj (T:=T) b (by omega);rw[zah]at d1 d2;rw[zaa Zm.h201 rfl,b201];by_cases h0:Nat.gcd (val a) (val b)=0
 ·rw[h0]at hg ⊢;simp only[zjh]at hg;simp -implicitDefEqProofs[hg]
 ·rw[if_neg h0]at d1 d2;have hl:¬ ofN (Nat.gcd (val a) (val b))=[]:=fun e=>h0 (zbq.1 e);by_cases h1:Nat.gcd (val a) (val b)=1
  ·rw[h1]at hg ho hl ⊢;simp -implicitDefEqProofs[hg,ho,n1,n2,hl]
  ·generalize Nat.gcd (val a) (val b)=g at *
   simp -implicitDefEqProofs[hg,ho,d1,d2,hl,h0,h1]
end
section
variable{T:Tbl}[Zi T]
def zaz(n:Bool)(k:Nat):Zb T 55 [.b n,.sl (Za (ofN k)) .an]=some (ez (sg n k)):=by
 rw[zaa Zi.h55 rfl,b55,z3e];have h:(0<(ofN k).length)=(k≠0):=by
  rw[eq_iff_iff,Ycw];exact not_congr zbq
 cases n<;>simp -implicitDefEqProofs[h]
end
section
variable{T:Tbl}[Zl T][Zi T]
def zpk(n:Bool)(a:List UInt32)(ha:a.length<=1000000):Zb T 38 [wh n a]=some (ez (wv n a)):=by
 have h:=zbj (T:=T) a (by omega);have hs:=zaz (T:=T) n (val a);rw[zaa Zi.h38 rfl,b38];simp -implicitDefEqProofs[h,hs,wv]
end
section
variable{T:Tbl}[Zl T][Zi T]
theorem zld(n:Bool)(a:List UInt32)(ha:a.length<=1000000):Zb T 40 [wh n a]=some (ez (-wv n a)):=by
 have h:=zbj (T:=T) a (by omega);have hs:=zaz (T:=T) (!n) (val a);rw[z3f]at hs;rw[zaa Zi.h40 rfl,b40];simp -implicitDefEqProofs[h,hs,wv]
end
section
variable{T:Tbl}[Zl T][Zi T]
theorem zij(n m:Bool)(a b:List UInt32)(ha:a.length<=90000)(hb:b.length<=90000):Zb T 23 [wh n a,wh m b]=some (ez (wv n a+wv m b)):=by
 rw[zaa Zi.h23 rfl,b23];by_cases h:n=m
 ·subst h;have hn:=zuz (T:=T) [a,b] (by simp) (by simp;omega);have hs:=zaz (T:=T) n (val a+val b);rw[zms]at hs;have e:lls [a,b]=[[.sl (Za a) .an],[.sl (Za b) .an]]:=rfl;have e2:Zdn [a,b]=val a+val b:=by simp[Zdn]
  rw[e,e2]at hn;simp -implicitDefEqProofs[hn,hs,wv]
 ·have hg:=zx2 (T:=T) a b (by omega) (by omega);by_cases hlt:val a<val b
  ·have hs:=zaz (T:=T) m (val b-val a);rw[zte h hlt]at hs;simp -implicitDefEqProofs[h,hg,hlt,zdj,hs,wv]
  ·have hs:=zaz (T:=T) n (val a-val b);rw[ztf h hlt]at hs;simp -implicitDefEqProofs[h,hg,hlt,zdj,hs,wv]
end
section
variable{T:Tbl}[Zl T][Zi T]
theorem zik(n m:Bool)(a b:List UInt32)(ha:a.length<=90000)(hb:b.length<=90000):Zb T 25 [wh n a,wh m b]=some (ez (wv n a-wv m b)):=by
 obtain⟨z,hz⟩:∃z,z=-wv m b:=⟨_,rfl⟩;have h1:=zld (T:=T) m b (by omega);have hl:=zbr m b;rw[<-zhi,<-hz]at hl;have h2:=zij (T:=T) n (decide (z<0)) a (ofN z.natAbs) (by omega) (by omega);have e:wv n a-wv m b=wv n a+z:=by omega
 rw[zhh,<-e]at h2;rw[<-hz]at h1;rw[zaa Zi.h25 rfl,b25];simp -implicitDefEqProofs[h1,h2]
end
section
variable{T:Tbl}[Zs T][Zi T]
def zle(n m:Bool)(a b:List UInt32)(ha:a.length<=100000)(hb:b.length<=100000):Zb T 27 [wh n a,wh m b]=some (ez (wv n a*wv m b)):=by
 have h1:=ze4 (T:=T) a b ha hb;have hs:=zaz (T:=T) (n != m) (val a*val b);rw[z3g]at hs;rw[zaa Zi.h27 rfl,b27];simp -implicitDefEqProofs[h1,hs,wv]
end
section
variable{T:Tbl}[Zl T][Zi T]
def zec(n:Bool)(a:List UInt32)(ha:a.length<=1000000):Zb T 37 [wh n a]=some (.i .i64 (sgI (wv n a))):=by
 have h1:=ze3 (T:=T) a (by omega);rw[zaa Zi.h37 rfl,b37];unfold wv;rw[zv8];by_cases h:val a=0
 ·simp -implicitDefEqProofs[h1,h]
 ·cases n<;>simp -implicitDefEqProofs[h1,h]
end
section
variable{T:Tbl}[Zl T][Zi T]
theorem zpl(n m:Bool)(a b:List UInt32)(ha:a.length<=90000)(hb:b.length<=90000):Zb T 36 [wh n a,wh m b]=some (.i .i64 (sgI (wv n a-wv m b))):=by
 have h1:=zik (T:=T) n m a b ha hb;have hl:=zdp (x:=wv n a) (y:=-wv m b) (L:=90000) (by have:=zbr n a;omega) (by rw[zhi];have:=zbr m b;omega);rw[<-Int.sub_eq_add_neg]at hl;have h2:=zec (T:=T) (decide (wv n a-wv m b<0)) (ofN (wv n a-wv m b).natAbs) (show (ofN (wv n a-wv m b).natAbs).length<=1000000 by omega);rw[zhh]at h2;rw[zaa Zi.h36 rfl,b36];simp -implicitDefEqProofs[h1,h2]
end
section
variable{T:Tbl}[Zl T][Zi T]
def zvb(k:Int)(h1:-9223372036854775808<=k)(h2:k<9223372036854775808):Zb T 41 [.i .i64 k]=some (ez k):=by
 rw[zaa Zi.h41 rfl,b41];by_cases h:k<0
 ·have hn:=zhb (T:=T) k.natAbs (by omega);have hs:=zaz (T:=T) true k.natAbs;have e:sg true k.natAbs=k:=by simp[sg];omega
  have e2:Zhi 0 (k%18446744073709551616).toNat=k.natAbs:=by unfold Zhi;omega
  rw[e]at hs;simp -implicitDefEqProofs[h,e2,hn,hs]
 ·have hn:=zhb (T:=T) k.natAbs (by omega);have hs:=zaz (T:=T) false k.natAbs;have e:sg false k.natAbs=k:=by simp[sg];omega
  have e2:(k%18446744073709551616).toNat=k.natAbs:=by omega
  rw[e]at hs;simp -implicitDefEqProofs[h,e2,hn,hs]
end
section
variable{T:Tbl}[Zl T][Za8 T][Zi T]
def zpm(n:Bool)(a:List UInt32)(ha:a.length<=1000):Zb T 34 [wh n a]=some (.s (Zef (wv n a))):=by
 have h1:Zb T 68 [.sl (Za a) .an]=some (.s (Zaa (val a))):=by rw[p68,zlg a ha]
 have h2:=zec (T:=T) n a (by omega);have h3:=zeo ha;have h4:1+(Zaa (val a)).length<=9223372036854775807:=by omega
 rw[zaa Zi.h34 rfl,b34];unfold Zef;rw[zv7];by_cases h:wv n a<0
 ·have h5:sgI (wv n a)=-1:=by unfold sgI;rw[if_pos h]
  simp -implicitDefEqProofs[h1,h2,h,h5,h4]
 ·have h5:¬ sgI (wv n a)<0:=by unfold sgI;rw[if_neg h];split<;>omega
  simp -implicitDefEqProofs[h1,h2,h,h5]
end
section
variable{T:Tbl}[Zl T][Zs T][Zt T][Zo T][Zq T][Zi T][Zm T][Zp T]
def zmi(p q:Int)(hp:(ofN p.natAbs).length<=90000)(hq:(ofN q.natAbs).length<=90000):Zb T 23 [ez p,ez q]=some (ez (p+q)):=by
 grind[zij,zhh]
def zmj(p q:Int)(hp:(ofN p.natAbs).length<=90000)(hq:(ofN q.natAbs).length<=90000):Zb T 25 [ez p,ez q]=some (ez (p-q)):=by
 grind[zik,zhh]
def zmk(p q:Int)(hp:(ofN p.natAbs).length<=90000)(hq:(ofN q.natAbs).length<=90000):Zb T 36 [ez p,ez q]=some (.i .i64 (sgI (p-q))):=by
 grind[zpl,zhh]
def zo0(p:Int)(hp:(ofN p.natAbs).length<=1000000):Zb T 40 [ez p]=some (ez (-p)):=by
 grind[zld,zhh]
def zo1{x d:Nat}(h:d≠0):decide (x/Nat.gcd x d≠0)=decide (x≠0):=by
 obtain⟨k,hk⟩:=Nat.gcd_dvd_left x d
 grind[Nat.mul_div_cancel_left,Nat.mul_eq_zero]
def zcg(n:Bool)(a d:List UInt32)(ha:a.length<=90000)(hd:d.length<=90000)(h:val d≠0) :
  Zb T 202 [wh n a,.sl (Za d) .an]=some (efz (fz (mkRat (wv n a) (val d)))):=by
 have e:=zabr n (val a) h
 change fz (mkRat (wv n a) (val d))=_ at e
 have hc:=zhs (T:=T) a d ha hd;have hl:(ofN (val a/Nat.gcd (val a) (val d))).length<=1000000:=by
  have:=za3 (Ycx (val a) (Nat.gcd (val a) (val d)));have:=zab a;omega
 have hn:=zpk (T:=T) n _ hl;have e2:wv n (ofN (val a/Nat.gcd (val a) (val d)))=sg n (val a/Nat.gcd (val a) (val d)):=by unfold wv;rw[zah]
 rw[e2,z3e,zo1 h]at hn;rw[e,zaa Zp.h202 rfl,b202];simp -implicitDefEqProofs[hc,hn]
def zas(x:Fz)(hx:fsz x<=100000):∃y:Fz,val y.2.2≠0/\fv y=fv x/\fsz y<=max 1 (fsz x)/\Zb T 203 [efz x]=some (.tup [wh y.1 y.2.1,.sl (Za y.2.2) .an]):=by
 obtain⟨n,a,d⟩:=x;have h1:=ze6 (n,a,d);have h2:=zfn (n,a,d);simp only at h1 h2;have hz:=ze3 (T:=T) d (by omega);by_cases h:val d=0
 ·refine⟨(false,[],[1]),by simp,?_,?_,?_⟩
  ·unfold fv;simp only[h,Rat.mkRat_zero]
   rfl
  ·show 1<=_;omega
  ·have ho:=zhb (T:=T) 1 (by decide);rw[zd1]at ho;rw[zaa Zp.h203 rfl,b203];simp -implicitDefEqProofs[hz,h,ho]
 ·refine⟨(n,a,d),h,rfl,by omega,?_⟩;rw[zaa Zp.h203 rfl,b203];simp -implicitDefEqProofs[hz,h]
def zda(k:Int)(h1:-9223372036854775808<=k)(h2:k<9223372036854775808):Zb T 205 [.i .i64 k]=some (efz (fz (k:Rat))):=by
 have hw:=zvb (T:=T) k h1 h2;have ho:=zhb (T:=T) 1 (by decide);have e:fz (k:Rat)=(decide (k<0),ofN k.natAbs,ofN 1):=rfl;rw[e,zaa Zp.h205 rfl,b205];simp -implicitDefEqProofs[hw,ho]
def znq:Zb T 205 [.i .i64 0]=some (efz (fz 0)):=zda 0 (by decide) (by decide)
def zui:Zb T 205 [.i .i64 1]=some (efz (fz 1)):=zda 1 (by decide) (by decide)
def zig(x:Fz)(hx:fsz x<=90000):Zb T 207 [efz x]=some (efz (fz (fv x))):=by
 obtain⟨⟨n,a,d⟩,h1,h2,h3,hp⟩:=zas (T:=T) x (by omega);have la:=ze6 (n,a,d);have ld:=zfn (n,a,d);simp only at la ld;have hc:=zcg (T:=T) n a d (by omega) (by omega) h1;rw[<-h2]
 change _=some (efz (fz (mkRat (wv n a) (val d))))
 rw[zaa Zp.h207 rfl,b207];simp -implicitDefEqProofs[hp,hc]
def zr2(x:Fz)(hx:fsz x<=10000):Zb T 207 [efz x]=some (efz (fz (fv x))):=zig (T:=T) x (Yf hx (by decide))
def zo2(x:Fz)(hx:fsz x<=90000):Zb T 209 [efz x]=some (.i .i64 (sgQ (fv x))):=by
 obtain⟨⟨n,a,d⟩,h1,h2,h3,hp⟩:=zas (T:=T) x (by omega);have la:=ze6 (n,a,d);simp only at la;have hc:=zec (T:=T) n a (by omega);rw[<-h2];unfold fv;rw[zwf h1,zaa Zp.h209 rfl,b209];simp -implicitDefEqProofs[hp,hc]
def zky(x:Fz)(hx:fsz x<=10000):Zb T 209 [efz x]=some (.i .i64 (sgQ (fv x))):=zo2 (T:=T) x (Yf hx (by decide))
def zbn(n:Bool)(a d:List UInt32)(ha:a.length<=90000)(hd:d.length<=90000):Zb T 210 [wh n a,.sl (Za d) .an]=some (ez (wv n a*(val d:Int))):=by
 have hm:=zle (T:=T) n false a d (by omega) (by omega);rw[show wv false d=(val d:Int) from rfl]at hm;rw[zaa Zp.h210 rfl,b210];simp -implicitDefEqProofs[hm]
def zr3(x x':Fz)(hx:fsz x<=30000)(hx':fsz x'<=30000):Zb T 211 [efz x,efz x']=some (.i .i64 (sgQ (fv x-fv x'))):=by
 obtain⟨⟨n,a,d⟩,h1,h2,h3,hp⟩:=zas (T:=T) x (by omega);obtain⟨⟨m,b,e⟩,h1',h2',h3',hp'⟩:=zas (T:=T) x' (by omega);have la:=ze6 (n,a,d);have ld:=zfn (n,a,d);have lb:=ze6 (m,b,e);have le:=zfn (m,b,e);simp only at la ld lb le;have c1:=zbn (T:=T) n a e (by omega) (by omega);have c2:=zbn (T:=T) m b d (by omega) (by omega);have l1:(ofN (wv n a*(val e:Int)).natAbs).length<=60000:=by
  have:=zap (x:=wv n a) (y:=(val e:Int)) (L:=30000) (M:=30000) (Yf (zbr n a) (by omega)) (Yf (zbr false e) (by omega));omega
 have l2:(ofN (wv m b*(val d:Int)).natAbs).length<=60000:=by
  have:=zap (x:=wv m b) (y:=(val d:Int)) (L:=30000) (M:=30000) (Yf (zbr m b) (by omega)) (Yf (zbr false d) (by omega));omega
 have e1:sgQ (fv x-fv x')=sgI (wv n a*(val e:Int)-wv m b*(val d:Int)):=by
  rw[<-h2,<-h2',Yc8];unfold fv;rw[Rat.neg_mkRat,Ycy _ _ h1 h1',zwf (Ycb h1 h1'),Int.neg_mul]
  rfl
 generalize wv n a*(val e:Int)=z1 at *
 generalize wv m b*(val d:Int)=z2 at *
 have c3:=zmk (T:=T) z1 z2 (by omega) (by omega);rw[e1,zaa Zp.h211 rfl,b211];simp -implicitDefEqProofs[hp,hp',c1,c2,c3]
def zo3(x x':Fz)(hx:fsz x<=30000)(hx':fsz x'<=30000):Zb T 212 [efz x,efz x']=some (.b (decide (fv x=fv x'))):=by
 have hc:=zr3 (T:=T) x x' hx hx';have e:(sgQ (fv x-fv x') == 0)=decide (fv x=fv x'):=by
  grind[zjj]
 rw[zaa Zp.h212 rfl,b212];simp -implicitDefEqProofs[hc,e]
def zr4(x x':Fz)(hx:fsz x<=1000)(hx':fsz x'<=1000):Zb T 212 [efz x,efz x']=some (.b (decide (fv x=fv x'))):=zo3 (T:=T) x x' (Yf hx (by decide)) (Yf hx' (by decide))
def zr5(x:Fz)(hx:fsz x<=90000):Zb T 213 [efz x]=some (efz (fz (-fv x))):=by
 have h1:=zig (T:=T) x hx;have hl:(ofN (fv x).num.natAbs).length<=1000000:=by
  have:=zdq (x:=x) (L:=90000) hx (by decide);have:=zhj (fv x);omega
 have h2:Zb T 40 [.agg [.b (decide ((fv x).num<0)),.sl (Za (ofN (fv x).num.natAbs)) .an]]=some (.agg [.b (decide (-(fv x).num<0)),.sl (Za (ofN (-(fv x).num).natAbs)) .an]):=zo0 (T:=T) (fv x).num hl;generalize fv x=q at *
 have e:fz (-q)=(decide (-q.num<0),ofN (-q.num).natAbs,ofN q.den):=rfl;have e':fz q=(decide (q.num<0),ofN q.num.natAbs,ofN q.den):=rfl;rw[e,zaa Zp.h213 rfl,b213];rw[e']at h1;simp -implicitDefEqProofs[h1,h2]
def znr(x:Fz)(hx:fsz x<=10000):Zb T 213 [efz x]=some (efz (fz (-fv x))):=zr5 (T:=T) x (Yf hx (by decide))
def zr6(x x':Fz)(hx:fsz x<=30000)(hx':fsz x'<=30000):Zb T 215 [efz x,efz x']=some (efz (fz (fv x+fv x'))):=by
 obtain⟨⟨n,a,d⟩,h1,h2,h3,hp⟩:=zas (T:=T) x (by omega);obtain⟨⟨m,b,e⟩,h1',h2',h3',hp'⟩:=zas (T:=T) x' (by omega);have la:=ze6 (n,a,d);have ld:=zfn (n,a,d);have lb:=ze6 (m,b,e);have le:=zfn (m,b,e);simp only at la ld lb le;have c1:=zbn (T:=T) n a e (by omega) (by omega);have c2:=zbn (T:=T) m b d (by omega) (by omega);have c4:=ze4 (T:=T) d e (by omega) (by omega);have l1:(ofN (wv n a*(val e:Int)).natAbs).length<=60000:=by
  have:=zap (x:=wv n a) (y:=(val e:Int)) (L:=30000) (M:=30000) (Yf (zbr n a) (by omega)) (Yf (zbr false e) (by omega));omega
 have l2:(ofN (wv m b*(val d:Int)).natAbs).length<=60000:=by
  have:=zap (x:=wv m b) (y:=(val d:Int)) (L:=30000) (M:=30000) (Yf (zbr m b) (by omega)) (Yf (zbr false d) (by omega));omega
 have l3:(ofN (val d*val e)).length<=60000:=by
  have:=zb7 (x:=val d) (y:=val e) (L:=30000) (M:=30000) (Yf (zab d) (by omega)) (Yf (zab e) (by omega));omega
 have e1:fv x+fv x'=mkRat (wv n a*(val e:Int)+wv m b*(val d:Int)) (val d*val e):=by
  rw[<-h2,<-h2'];exact Ycy _ _ h1 h1'
 have hne:=Ycb h1 h1';generalize wv n a*(val e:Int)=z1 at *
 generalize wv m b*(val d:Int)=z2 at *
 generalize val d*val e=D at *
 have c3:=zmi (T:=T) z1 z2 (by omega) (by omega);have c5:=zcg (T:=T) (decide (z1+z2<0)) (ofN (z1+z2).natAbs) (ofN D) (by have:=zdp l1 l2;omega) (by omega) (by rw[zah];omega);rw[zhh,zah,<-e1]at c5;rw[zaa Zp.h215 rfl,b215];simp -implicitDefEqProofs[hp,hp',c1,c2,c3,c4,c5]
def zi5(x x':Fz)(hx:fsz x<=1000)(hx':fsz x'<=1000):Zb T 215 [efz x,efz x']=some (efz (fz (fv x+fv x'))):=zr6 (T:=T) x x' (Yf hx (by decide)) (Yf hx' (by decide))
def zr7(x x':Fz)(hx:fsz x<=30000)(hx':fsz x'<=30000):Zb T 216 [efz x,efz x']=some (efz (fz (fv x-fv x'))):=by
 obtain⟨⟨n,a,d⟩,h1,h2,h3,hp⟩:=zas (T:=T) x (by omega);obtain⟨⟨m,b,e⟩,h1',h2',h3',hp'⟩:=zas (T:=T) x' (by omega);have la:=ze6 (n,a,d);have ld:=zfn (n,a,d);have lb:=ze6 (m,b,e);have le:=zfn (m,b,e);simp only at la ld lb le;have c1:=zbn (T:=T) n a e (by omega) (by omega);have c2:=zbn (T:=T) m b d (by omega) (by omega);have c4:=ze4 (T:=T) d e (by omega) (by omega);have l1:(ofN (wv n a*(val e:Int)).natAbs).length<=60000:=by
  have:=zap (x:=wv n a) (y:=(val e:Int)) (L:=30000) (M:=30000) (Yf (zbr n a) (by omega)) (Yf (zbr false e) (by omega));omega
 have l2:(ofN (wv m b*(val d:Int)).natAbs).length<=60000:=by
  have:=zap (x:=wv m b) (y:=(val d:Int)) (L:=30000) (M:=30000) (Yf (zbr m b) (by omega)) (Yf (zbr false d) (by omega));omega
 have l3:(ofN (val d*val e)).length<=60000:=by
  have:=zb7 (x:=val d) (y:=val e) (L:=30000) (M:=30000) (Yf (zab d) (by omega)) (Yf (zab e) (by omega));omega
 have e1:fv x-fv x'=mkRat (wv n a*(val e:Int)-wv m b*(val d:Int)) (val d*val e):=by
  rw[<-h2,<-h2',Yc8];unfold fv;rw[Rat.neg_mkRat,Ycy _ _ h1 h1',Int.neg_mul]
  rfl
 have hne:=Ycb h1 h1';generalize wv n a*(val e:Int)=z1 at *
 generalize wv m b*(val d:Int)=z2 at *
 generalize val d*val e=D at *
 have c3:=zmj (T:=T) z1 z2 (by omega) (by omega);have c5:=zcg (T:=T) (decide (z1-z2<0)) (ofN (z1-z2).natAbs) (ofN D) (by
  have:=zdp (x:=z1) (y:=-z2) (L:=60000) l1 (by grind)
  grind) (by omega) (by rw[zah];omega)
 rw[zhh,zah,<-e1]at c5;rw[zaa Zp.h216 rfl,b216];simp -implicitDefEqProofs[hp,hp',c1,c2,c3,c4,c5]
def zuj(x x':Fz)(hx:fsz x<=1000)(hx':fsz x'<=1000):Zb T 216 [efz x,efz x']=some (efz (fz (fv x-fv x'))):=zr7 (T:=T) x x' (Yf hx (by decide)) (Yf hx' (by decide))
def zr8(x x':Fz)(hx:fsz x<=30000)(hx':fsz x'<=30000):Zb T 217 [efz x,efz x']=some (efz (fz (fv x*fv x'))):=by
 obtain⟨⟨n,a,d⟩,h1,h2,h3,hp⟩:=zas (T:=T) x (by omega);obtain⟨⟨m,b,e⟩,h1',h2',h3',hp'⟩:=zas (T:=T) x' (by omega);have la:=ze6 (n,a,d);have ld:=zfn (n,a,d);have lb:=ze6 (m,b,e);have le:=zfn (m,b,e);simp only at la ld lb le;have c3:=zle (T:=T) n m a b (by omega) (by omega);have c4:=ze4 (T:=T) d e (by omega) (by omega);have l1:(ofN (wv n a*wv m b).natAbs).length<=60000:=by
  have:=zap (x:=wv n a) (y:=wv m b) (L:=30000) (M:=30000) (Yf (zbr n a) (by omega)) (Yf (zbr m b) (by omega));omega
 have l3:(ofN (val d*val e)).length<=60000:=by
  have:=zb7 (x:=val d) (y:=val e) (L:=30000) (M:=30000) (Yf (zab d) (by omega)) (Yf (zab e) (by omega));omega
 have e1:fv x*fv x'=mkRat (wv n a*wv m b) (val d*val e):=by
  rw[<-h2,<-h2'];exact Rat.mkRat_mul_mkRat _ _ _ _
 have hne:=Ycb h1 h1';generalize wv n a*wv m b=z at *
 generalize val d*val e=D at *
 have c5:=zcg (T:=T) (decide (z<0)) (ofN z.natAbs) (ofN D) (by omega) (by omega) (by rw[zah];omega);rw[zhh,zah,<-e1]at c5;rw[zaa Zp.h217 rfl,b217];simp -implicitDefEqProofs[hp,hp',c3,c4,c5]
def zi6(x x':Fz)(hx:fsz x<=1000)(hx':fsz x'<=1000):Zb T 217 [efz x,efz x']=some (efz (fz (fv x*fv x'))):=zr8 (T:=T) x x' (Yf hx (by decide)) (Yf hx' (by decide))
def zxw{n m:Bool}{x y:Nat}{d e:Nat}(hy:y≠0) :
  mkRat (sg n x) d/mkRat (sg m y) e=mkRat (sg (decide (sg n x*(e:Int)<0) != m) (sg n x*(e:Int)).natAbs) (d*y):=by
 have h1:sg (decide (sg n x*(e:Int)<0) != m) (sg n x*(e:Int)).natAbs=sg n x*(e:Int)*sg m 1:=by
  grind[sg]
 rw[h1,Rat.div_def,<-Ydm,<-Ydm,<-Ydm,Rat.inv_divInt,Rat.divInt_mul_divInt];cases m
 ·grind[sg]
 ·simp only[sg,if_true,Ydu,Int.mul_neg,Int.mul_one,Ydp];rw[<-Rat.neg_divInt_neg,Int.neg_neg]
def zr9(x x':Fz)(hx:fsz x<=30000)(hx':fsz x'<=30000):Zb T 218 [efz x,efz x']=some (.tup [efz (fz (fv x/fv x')),.b (decide (fv x'≠0))]):=by
 obtain⟨⟨n,a,d⟩,h1,h2,h3,hp⟩:=zas (T:=T) x (by omega);obtain⟨⟨m,b,e⟩,h1',h2',h3',hp'⟩:=zas (T:=T) x' (by omega);have la:=ze6 (n,a,d);have ld:=zfn (n,a,d);have lb:=ze6 (m,b,e);have le:=zfn (m,b,e);simp only at la ld lb le;have cs:=zec (T:=T) m b (by omega);rw[show wv m b=sg m (val b) from rfl,zv8]at cs;by_cases hb:val b=0
 ·have e0:fv x'=0:=by
   rw[<-h2'];unfold fv;rw[Rat.mkRat_eq_zero h1'];show sg m (val b)=0;rw[hb];cases m<;>rfl
  have ho:=znq (T:=T);rw[if_pos hb]at cs;rw[e0,Rat.div_def,Rat.inv_zero,Rat.mul_zero,zaa Zp.h218 rfl,b218];clear h1 h2 h3 h1' h2' h3' e0;generalize fz 0=R at *
  simp -implicitDefEqProofs[hp,hp',cs,ho]
 ·rw[if_neg hb]at cs;have c1:=zbn (T:=T) n a e (by omega) (by omega);have c4:=ze4 (T:=T) d b (by omega) (by omega);have l1:(ofN (wv n a*(val e:Int)).natAbs).length<=60000:=by
   have:=zap (x:=wv n a) (y:=(val e:Int)) (L:=30000) (M:=30000) (Yf (zbr n a) (by omega)) (Yf (zbr false e) (by omega));omega
  have l3:(ofN (val d*val b)).length<=60000:=by
   have:=zb7 (x:=val d) (y:=val b) (L:=30000) (M:=30000) (Yf (zab d) (by omega)) (Yf (zab b) (by omega));omega
  have hne0:fv x'≠0:=by
   rw[<-h2'];unfold fv;rw[Ne,Rat.mkRat_eq_zero h1'];show ¬ sg m (val b)=0;cases m<;>simp[sg,hb]
  have e1:fv x/fv x'=mkRat (sg (decide (wv n a*(val e:Int)<0) != m) (wv n a*(val e:Int)).natAbs) (val d*val b):=by
   rw[<-h2,<-h2'];exact zxw hb
  have hne:=Ycb h1 hb;generalize wv n a*(val e:Int)=z at *
  generalize val d*val b=D at *
  have c5:=zcg (T:=T) (decide (z<0) != m) (ofN z.natAbs) (ofN D) (by omega) (by omega) (by rw[zah];omega);rw[show wv (decide (z<0) != m) (ofN z.natAbs)=sg (decide (z<0) != m) z.natAbs by unfold wv;rw[zah],zah,<-e1]at c5;have hdec:decide (fv x'≠0)=true:=by grind
  have hs:((if m=true then (-1:Int) else 1) == 0)=false:=by grind
  rw[hdec];rw[zaa Zp.h218 rfl,b218];simp -implicitDefEqProofs[hp,hp',cs,c1,c4,c5,hs]
def zns(x x':Fz)(hx:fsz x<=1000)(hx':fsz x'<=1000):Zb T 218 [efz x,efz x']=some (.tup [efz (fz (fv x/fv x')),.b (decide (fv x'≠0))]):=zr9 (T:=T) x x' (Yf hx (by decide)) (Yf hx' (by decide))
end
def nrm(l:List Fz):List Fz:=l.map fun x=>fz (fv x)
def fzs(l:List Rat):List Fz:=l.map fz
def zs0{m:List Fz}{n:Nat}(h:m.length=n)(x:Fz):wkL (Ze (List.take n m)++[Z8 x])=Ze (m++[x]):=by
 rw[Yb (by omega),zlj,ztl]
def zje{α β:Type}(l:List α)(f:α->β){i:Nat}(h:i<l.length):(l.take (i+1)).map f=(l.take i).map f++[f (l[i]'h)]:=by
 grind[List.take_succ_eq_append_getElem]
@[simp] def zs1:Za4 []=[]:=rfl
def Zee(q:Rat):List UInt8:=if q.den=1 then Zef q.num else Zef q.num++47::Zaa q.den
section
variable{T:Tbl}[Zl T][Zs T][Zt T][Zo T][Zq T][Za8 T][Zi T][Zm T][Zp T][Za7 T][Zbg T]
def zmq(x:Fz)(hx:fsz x<=900):Zb T 251 [efz x]=some (.s (Zee (fv x))):=by
 have h1:=zr2 (T:=T) x (by omega);have hs:=zdq (x:=x) (L:=900) hx (by decide);generalize fv x=q at *
 have l1:=zhj q;have l2:=zhk q;have e':fz q=(decide (q.num<0),ofN q.num.natAbs,ofN q.den):=rfl;have h2:=zpm (T:=T) (decide (q.num<0)) (ofN q.num.natAbs) (by omega);rw[zhh]at h2;have h3:=zhb (T:=T) 1 (by decide);have h4:=zjb (T:=T) (ofN q.den) (ofN 1) (by omega) (by rw[zd1];decide);rw[zah,zah]at h4;have h5:Zb T 68 [.sl (Za (ofN q.den)) .an]=some (.s (Zaa q.den)):=by
  rw[p68,zlg _ (by omega),zah]
 have t1:(Zaa q.den).length<=10000:=by
  grind[zeo,zah]
 have t2:(Zef q.num).length<=20000:=by
  grind[zeo,zah,Zef]
 rw[zaa Zbg.h251 rfl,b251];rw[e']at h1;unfold Zee;obtain⟨D,hD⟩:∃D,D=ofN q.den:=⟨_,rfl⟩;obtain⟨A,hA⟩:∃A,A=ofN q.num.natAbs:=⟨_,rfl⟩;obtain⟨O,hO⟩:∃O,O=ofN 1:=⟨_,rfl⟩;by_cases hd:q.den=1
 ·have hc:Zfs q.den 1=0:=by rw[hd];rfl
  rw[hc]at h4;rw[if_pos hd];simp -implicitDefEqProofs[h1,h2,h3,h4]
 ·have hc:Zfs q.den 1=1:=by
   unfold Zfs;have:=q.den_pos;omega
  rw[hc]at h4;rw[if_neg hd];have b1:1+(Zaa q.den).length<=9223372036854775807:=by omega
  have b2:(Zef q.num).length+((Zaa q.den).length+1)<=9223372036854775807:=by omega
  simp -implicitDefEqProofs[h1,h2,h3,h4,h5,b1,b2]
def Ziq(n i:Nat):St:=⟨[(3,.bs (.loc 9) 1 3 0 n),(10,.i .i64 n),(11,.i .i64 i)],[(.loc 9,⟨1,.own,3,Ze (List.replicate i (fz 0))++List.replicate (n-i) [.b false,.sl [] .an,.sl [] .an]⟩)],3⟩
def zs2(n:Nat)(hn:n<=300):Zr T 0 0 (.norm false [3]) l263_0 (Ziq n 0)=some (.n,⟨[(3,.bs (.loc 9) 1 3 0 n)],[(.loc 9,⟨1,.own,3,Ze (List.replicate n (fz 0))⟩)],3⟩):=by
 refine zb2 (Ziq n) n _ (fun i hi=>?_) ?_
 ·have h0:=znq (T:=T);have hw:=zi2 hi (by omega);have e:(Ze (List.replicate i (fz 0))++List.replicate (n-i) [AV.b false,.sl [] .an,.sl [] .an]).set i (Z8 (fz 0))=Ze (List.replicate (i+1) (fz 0))++List.replicate (n-(i+1)) [AV.b false,.sl [] .an,.sl [] .an]:=by
   rw[Yai _ _ (by simp),zhn,Yay,Yby,show n-i=(n-(i+1))+1 by omega,Ybs (n:=n-(i+1)),Ybv,Ycp (n:=i),<-zlj,Yax]
   rfl
  have hl:(Ze (List.replicate i (fz 0))++List.replicate (n-i) [AV.b false,.sl [] .an,.sl [] .an]).length=n:=by simp;omega
  have hk:wkL ((Ze (List.replicate i (fz 0))++List.replicate (n-i) [AV.b false,.sl [] .an,.sl [] .an]).set i (Z8 (fz 0)))=(Ze (List.replicate i (fz 0))++List.replicate (n-i) [AV.b false,.sl [] .an,.sl [] .an]).set i (Z8 (fz 0)):=by
   rw[e,zcx,Yct,<-zcx,ztl]
   simp_all
  have hg:(Ze (List.replicate i (fz 0))++List.replicate (n-i) [AV.b false,.sl [] .an,.sl [] .an])[i]? = some [AV.b false,.sl [] .an,.sl [] .an]:=by
   grind
  unfold Ziq;rw[<-e];generalize Ze (List.replicate i (fz 0))++List.replicate (n-i) [AV.b false,.sl [] .an,.sl [] .an]=B at *
  obtain⟨hb,hgE⟩:=Ys.1 hg;simp -implicitDefEqProofs[l263_0,hi,hw,h0,hl,hk,hgE]
 ·have e:Ze (List.replicate n (fz 0))++List.replicate (n-n) [AV.b false,.sl [] .an,.sl [] .an]=Ze (List.replicate n (fz 0)):=by simp
  unfold Ziq;constructor<;>simp -implicitDefEqProofs[l263_0]
def zk8(n:Nat)(hn:n<=300):Zcg T 2263 [.i .i64 n] []=some (.bs (.loc 9) 1 3 0 n,[(.loc 9,⟨1,.own,3,Ze (List.replicate n (fz 0))⟩)]):=by
 have h:=zs2 (T:=T) n hn;rw[show l263_0=l2263_0 from rfl]at h;unfold Ziq at h;simp only[Yc0,zn1,Ybn,Nat.sub_zero,Yar]at h;have m1:¬ (n:Int)<0:=by omega
 have m2:¬ (300:Int)<n:=by omega
 have m3:(n:Int)<=4294967296:=by omega
 have hz:wkL (List.replicate n [AV.b false,.sl [] .nl,.sl [] .nl])=List.replicate n [AV.b false,.sl [] .an,.sl [] .an]:=by rw[zcx,List.map_replicate];simp_all
 rw[zc3 Zbg.h2263 rfl,b2263];simp -implicitDefEqProofs[m1,m2,m3,h,mm2,hz]
def Zn0(l:List Fz)(i:Nat):St:=⟨[(3,.bs (.loc 3) 1 3 0 i),(6,.sl (Ze l) .an),(7,.i .i64 l.length),(8,.i .i64 i)],[(.loc 3,⟨1,.own,3,Ze (nrm (l.take i))⟩)],3⟩
def scl(c:Rat)(l:List Fz):List Fz:=l.map fun x=>fz (c*fv x)
def Zn1(c:Fz)(l:List Fz)(i:Nat):St:=⟨[(2,.ptr (.loc 2) 1 3 0 0),(5,.bs (.loc 5) 2 3 0 i),(8,.sl (Ze l) .an),(9,.i .i64 l.length),(10,.i .i64 i)],[(.loc 2,⟨1,.str,3,[Z8 c]⟩),(.loc 5,⟨2,.own,3,Ze (scl (fv c) (l.take i))⟩)],4⟩
def Zg8:List Fz->List Fz->Rat
 | x::a,y::b=>fv x*fv y+Zg8 a b
 | _,_=>0
def Zir(a b:List Fz)(i:Nat):Rat:=Zg8 (a.take i) (b.take i)
theorem zk9:∀(a b:List Fz) (x y:Fz),a.length=b.length->Zg8 (a++[x]) (b++[y])=Zg8 a b+fv x*fv y
 | [],[],x,y,_=>by simp[Zg8,Rat.add_zero,Rat.zero_add]
 | u::a,v::b,x,y,h=>by
  have ih:=zk9 a b x y (by simpa using h);simp only[Yb6,Zg8,ih,Rat.add_assoc]
def z28{a b:List Fz}(hab:a.length=b.length){i:Nat}(hi:i<a.length):Zir a b (i+1)=Zir a b i+fv (a[i]'hi)*fv (b[i]'(by omega)):=by
 grind[Zir,List.take_succ_eq_append_getElem,zk9]
abbrev Zdg:List AV:=[.b false,.sl [] .an,.sl [] .an]
def Zn2(a b:List Fz)(i:Nat):St:=⟨[(1,.sl (Ze b) .an),(4,.ptr (.loc 4) 1 3 0 0),(6,.ptr (.loc 6) 2 3 0 0),(16,.sl (Ze a) .an),(17,.i .i64 a.length),(18,.i .i64 i)],
 [(.loc 4,⟨1,.str,3,[Zdg]⟩),(.loc 6,⟨2,.str,3,[Z8 (fz (Zir a b i))]⟩)],4⟩
def Zhu(a b:List Fz)(i:Nat):St:=⟨[(0,.sl (Ze a) .an),(1,.sl (Ze b) .an),(12,.i .i64 a.length),(13,.i .i64 i)],[],2⟩
def zs3(a b:List Fz)(hab:a.length=b.length)(hl:a.length<=1000)(ha:∀x∈a,fsz x<=1000)(hb:∀x∈b,fsz x<=1000) :
  Zr T 0 0 (.norm false []) l265_0 (Zhu a b 0)=if (a.drop 0).map fv=(b.drop 0).map fv then some (.n,⟨[],[],2⟩) else some (.r,⟨[(4,.b false)],[],2⟩):=by
 refine zfg (Zhu a b) a.length (fun i=>if (a.drop i).map fv=(b.drop i).map fv then some (.n,⟨[],[],2⟩) else some (.r,⟨[(4,.b false)],[],2⟩)) (fun i hi=>?_) ?_
 ·have hib:i<b.length:=by omega
  have hws:=zi2 hi (by omega);have c:=zr4 (T:=T) (a[i]'hi) (b[i]'hib) (ha _ (Y4 hi)) (hb _ (Y4 hib));have hib':(i:Int)<b.length:=by omega
  have key:((a.drop i).map fv=(b.drop i).map fv)↔(fv (a[i]'hi)=fv (b[i]'hib)/\(a.drop (i+1)).map fv=(b.drop (i+1)).map fv):=by
   grind[List.drop_eq_getElem_cons]
  by_cases he:fv (a[i]'hi)=fv (b[i]'hib)
  ·left;refine⟨?_,by grind⟩;unfold Zhu;simp -implicitDefEqProofs[l265_0,hi,hws,c,he,hib,hib']
  ·right;rw[if_neg (fun h=>he (key.1 h).1)];unfold Zhu;constructor<;>simp -implicitDefEqProofs[l265_0,hi,c,he,hib,hib']
 ·rw[Ybe,if_pos (by rw[hab,Ybe])];unfold Zhu;constructor<;>simp -implicitDefEqProofs[l265_0]
def zu7(a b:List Fz)(hl:a.length<=1000)(ha:∀x∈a,fsz x<=1000)(hb:∀x∈b,fsz x<=1000) :
  Zb T 265 [.sl (Ze a) .an,.sl (Ze b) .an]=some (.b (decide (a.map fv=b.map fv))):=by
 rw[zaa Zbg.h265 rfl,b265];by_cases hab:a.length=b.length
 ·have h:=zs3 (T:=T) a b hab hl ha hb;unfold Zhu at h;simp at h;have hab':(b.length:Int)=a.length:=by omega
  by_cases he:a.map fv=b.map fv
  ·simp -implicitDefEqProofs[hab',h,he]
  ·simp -implicitDefEqProofs[hab',h,he]
 ·have he:¬ a.map fv=b.map fv:=fun h=>hab (by simpa using congrArg List.length h);have hab':¬ (a.length:Int)=b.length:=by omega
  simp -implicitDefEqProofs[hab',he]
def Zck(l:List Fz):List (List UInt8):=l.map fun x=>Zee (fv x)
def Zis(l:List Fz)(i:Nat):St:=⟨[(3,.bs (.loc 3) 1 1 0 i),(6,.sl (Ze l) .an),(7,.i .i64 l.length),(8,.i .i64 i)],[(.loc 3,⟨1,.own,1,Za4 (Zck (l.take i))⟩)],3⟩
def zla(l:List Fz)(hl:l.length<=1000)(hw:∀x∈l,fsz x<=400) :
  Zr T 0 0 (.norm false [3]) l274_0 (Zis l 0)=some (.n,⟨[(3,.bs (.loc 3) 1 1 0 l.length)],[(.loc 3,⟨1,.own,1,Za4 (Zck l)⟩)],3⟩):=by
 refine zb2 (Zis l) l.length _ (fun i hi=>?_) ?_
 ·have hws:=zi2 hi (by omega);have hn:=zmq (T:=T) (l[i]'hi) (Yf (hw _ (Y4 hi)) (by decide));have e:Zck (l.take (i+1))=Zck (l.take i)++[Zee (fv (l[i]'hi))]:=zje l _ hi;have hml:(Zck (l.take i)).length=i:=by simp[Zck];omega
  have hp:=zpp (Zck (l.take i)) (Zee (fv (l[i]'hi)));rw[hml]at hp;unfold Zis;rw[e];have hb:i<=4294967295:=by omega
  simp -implicitDefEqProofs[l274_0,hi,hws,hn,hp,hml,hb]
 ·unfold Zis;rw[Yb (Yg _)];constructor<;>simp -implicitDefEqProofs[l274_0]
theorem zs4{q:Rat}(h:sz q<=400):(Zee q).length<=10000:=by
 have key:∀{a:List UInt32},a.length<=400->(Zaa (val a)).length<=4000:=by
  intro a ha;obtain⟨K,hK⟩:∃K,K=3999:=⟨_,rfl⟩;have h1:=za0 a;have h2:4294967296^a.length<=(10^10)^a.length:=Yc2 (by decide) _;rw[<-Ydy]at h2;have h3:10^(10*a.length)<=10^(K+1):=Y2 (by decide) (by omega);have h4:=zli (k:=K) (Yn h1 (Yf h2 h3));omega
 grind[zhj,zhk,zah,Zef,Zee]
def znw(l:List Fz)(hl:l.length<=1000)(hw:∀x∈l,fsz x<=400):Zb T 274 [.sl (Ze l) .an]=some (.s (List.intercalate [44] (Zck l))):=by
 have h:=zla (T:=T) l hl hw;unfold Zis at h;have e:Zck (l.take 0)=[]:=rfl;rw[e]at h;simp only[zs1,Yar]at h;have hj:Zb T 183 [.sl (Za4 (Zck l)) .an,.s [44]]=some (.s (List.intercalate [44] (Zck l))):=by
  grind[p183,zpq,Zck,zs4,zdq]
 have ht:List.take l.length (Za4 (Zck l))=Za4 (Zck l):=Yb (by simp[Zck]);have hl2:(Zck l).length=l.length:=by simp[Zck]
 rw[zaa Zbg.h274 rfl,b274];simp -implicitDefEqProofs[h,ht,hl2,hj]
end
def zu8{α:Type}{L acc:List α}(hl:L.length=acc.length){i:Nat}(h:i<L.length) :
  (L.take i++acc.drop i).set i (L[i]'h)=L.take (i+1)++acc.drop (i+1):=by
 rw[Yai _ _ (by simp;omega),Yau,Ybo (by omega),Yby,Yab (show i<acc.length by omega),Ybv,Yaq h,Yax]
 rfl
def zx8{α:Type}{L acc:List α}(hl:L.length=acc.length){i:Nat}(h:i<L.length):(L.take i++acc.drop i)[i]? = some (acc[i]'(by omega)):=by
 rw[Ye (by simp;omega),Yau,Ybo (by omega),Yby,Yag,Y0,Ya]
def zx9{l:List Rat}{i:Nat}{q:Rat}(h:l[i]? = some q):(fzs l)[i]? = some (fz q):=by
 unfold fzs;rw[Yaf,h]
 rfl
def zya(l:List Rat)(i:Nat)(q:Rat):(fzs l).set i (fz q)=fzs (l.set i q):=by
 unfold fzs;rw[Ydt]
@[simp] def z0d(l:List Rat):(fzs l).length=l.length:=by simp[fzs]
@[simp] def z29(l:List Rat):(fzs l).map fv=l:=by unfold fzs;rw[Ybx];simp[Function.comp_def]
def Zbq(c:Rat)(acc:List Rat)(r:List Fz):List Rat:=List.zipWith (fun q x=>q+c*fv x) acc r
def Zjc(acc:List Rat)(r:List Fz):List Rat:=List.zipWith (fun q x=>q+fv x) acc r
def zhe{c:Rat}{acc:List Rat}{r:List Fz}(h:r.length=acc.length):(Zbq c acc r).length=acc.length:=by simp[Zbq,h]
def zs5{acc:List Rat}{r:List Fz}(h:r.length=acc.length):Zbq 0 acc r=acc:=by
 unfold Zbq
 induction acc generalizing r with
 | nil=>simp
 | cons q acc ih=>
  cases r with
  | nil=>simp at h
  | cons x r=>simp[Rat.zero_mul,Rat.add_zero];simpa[Rat.zero_mul,Rat.add_zero]using ih (by simpa using h)
def zyb{c:Rat}{acc:List Rat}{r:List Fz}{S B:Nat}(hc:sz c<=B)(ha:∀q∈acc,sz q<=S)(hr:∀x∈r,fsz x<=B)(hB:1<=B):∀q∈Zbq c acc r,sz q<=S+(2*B+1):=by
 intro q hq;obtain⟨i,hi,rfl⟩:=List.getElem_of_mem hq;simp only[Zbq,List.length_zipWith]at hi;simp only[Zbq,List.getElem_zipWith];have h1:=ha _ (Y4 (show i<acc.length by omega));have h2:=zdq (hr _ (Y4 (show i<r.length by omega))) hB;have h3:=zhm c (fv (r[i]'(by omega)));have h4:=zn0 (acc[i]'(by omega)) (c*fv (r[i]'(by omega)));omega
section
variable{T:Tbl}[Zl T][Zs T][Zt T][Zo T][Zq T][Za8 T][Zi T][Zm T][Zp T][Za7 T][Zbg T]
def Zn3(k j n:Nat)(rest:List (List Fz))(r:List Fz)(L acc:List Rat)(i:Nat):St:=
 ⟨[(4,.bs (.fld (.loc 15) 3) 1 3 0 n),(17,.sl (Z0 rest) .an),(18,.i .i64 k),(19,.i .i64 j),(28,.sl (Ze r) .an),(29,.i .i64 n),(30,.i .i64 i)],
  [(.fld (.loc 15) 3,⟨1,.own,3,Ze (fzs (L.take i++acc.drop i))⟩)],3⟩
def Zn4(n:Nat)(rest:List (List Fz))(acc:List Rat)(j:Nat):St:=
 ⟨[(4,.bs (.fld (.loc 15) 3) 1 3 0 n),(17,.sl (Z0 rest) .an),(18,.i .i64 rest.length),(19,.i .i64 j)],[(.fld (.loc 15) 3,⟨1,.own,3,Ze (fzs ((rest.take j).foldl Zjc acc))⟩)],3⟩
end
def Zcv(p:List (Fz×List Fz))(acc:List Rat):List Rat:=p.foldl (fun a q=>Zbq (fv q.1) a q.2) acc
theorem zf0:∀(p:List (Fz×List Fz)) (acc:List Rat),(∀q∈p,q.2.length=acc.length)->(Zcv p acc).length=acc.length
 | [],_,_=>rfl
 | q::p,acc,h=>by
  have h1:=zhe (c:=fv q.1) (h q Yp);have:=zf0 p (Zbq (fv q.1) acc q.2) (fun r hr=>by rw[h1];exact h r (Yh _ hr));unfold Zcv at this ⊢;rw[List.foldl_cons,this,h1]
theorem zsn{B:Nat}(hB:1<=B):∀(p:List (Fz×List Fz)) (acc:List Rat) (S:Nat),(∀q∈acc,sz q<=S)->(∀q∈p,fsz q.1<=B/\∀x∈q.2,fsz x<=B)->∀q∈Zcv p acc,sz q<=S+p.length*(2*B+1)
 | [],acc,S,ha,_=>by simpa[Zcv]using ha
 | r::p,acc,S,ha,hw=>by
  intro q hq;have hr:=hw r Yp;have:=zsn hB p (Zbq (fv r.1) acc r.2) (S+(2*B+1)) (zyb (zdq hr.1 hB) ha hr.2 hB) (fun r hr=>hw r (Yh _ hr)) q hq;rw[Yl,Yc9];omega
def zso(p:List (Fz×List Fz))(acc:List Rat){k:Nat}(hk:k<p.length):Zcv (p.take (k+1)) acc=Zbq (fv (p[k]'hk).1) (Zcv (p.take k) acc) (p[k]'hk).2:=by
 grind[Zcv,List.take_succ_eq_append_getElem]
section
variable{T:Tbl}[Zl T][Zs T][Zt T][Zo T][Zq T][Za8 T][Zi T][Zm T][Zp T][Za7 T][Zbg T]
def zuv(C:List Fz)(k j n i:Nat)(l:List (List Fz))(r M:List Fz)(cf x w y z:Fz)(hi:i<n)(hn:n<=1000)(hck:C[k]? = some cf)(hir:i<r.length)(hg:r[i]? = some x)(c0:Zb T 217 [efz cf,efz x]=some (efz w))
  (c1:Zb T 215 [efz y,efz w]=some (efz z)) (hge:M[i]? = some y) (hml:M.length=n) :
  evX (orc T) T 0 l271_1 ⟨[(0,.sl (Ze C) .an),(10,.bs (.fld (.loc 40) 9) 1 3 0 n),(11,.i .i64 k),(41,.sl (Z0 l) .an),(42,.i .i64 j),(43,.i .i64 k),(54,.sl (Ze r) .an),(55,.i .i64 n),(56,.i .i64 i)],[(.fld (.loc 40) 9,⟨1,.own,3,Ze M⟩)],3⟩ =
   some (.n,⟨[(0,.sl (Ze C) .an),(10,.bs (.fld (.loc 40) 9) 1 3 0 n),(11,.i .i64 k),(41,.sl (Z0 l) .an),(42,.i .i64 j),(43,.i .i64 k),(54,.sl (Ze r) .an),(55,.i .i64 n),(56,.i .i64 (i+1:Nat))],[(.fld (.loc 40) 9,⟨1,.own,3,Ze (M.set i z)⟩)],3⟩):=by
 have hws:=zi2 hi (by omega);have hi':(i:Int)<n:=by omega
 obtain⟨hkl,hgC⟩:=Ys.1 hck;obtain⟨_,hgE⟩:=Ys.1 hge;obtain⟨_,hgR⟩:=Ys.1 hg;have hkl':(k:Int)<C.length:=by omega
 have hset:=zvh M i z;simp -implicitDefEqProofs[l271_1,hi,hi',hir,hgR,hws,hkl,hkl',hgC,c0,c1,hgE,hml,hset]
def Zil(C:List Fz)(k j n:Nat)(l:List (List Fz))(r:List Fz)(L acc:List Rat)(i:Nat):St:=
 ⟨[(0,.sl (Ze C) .an),(10,.bs (.fld (.loc 40) 9) 1 3 0 n),(11,.i .i64 k),(41,.sl (Z0 l) .an),(42,.i .i64 j),(43,.i .i64 k),(54,.sl (Ze r) .an),(55,.i .i64 n),(56,.i .i64 i)],
  [(.fld (.loc 40) 9,⟨1,.own,3,Ze (fzs (L.take i++acc.drop i))⟩)],3⟩
def zsp(C:List Fz)(k j:Nat)(l:List (List Fz))(r:List Fz)(cf:Fz)(hck:C[k]? = some cf)(acc:List Rat)(hr:r.length=acc.length)(hn:acc.length<=1000){S B:Nat}
  (ha:∀q∈acc,sz q<=S) (hc:fsz cf<=B) (hw:∀x∈r,fsz x<=B) (hB:1<=B) (hS:S+(2*B+1)<=1000) :
  Zr T 0 4 (.norm false [0,10,41,42,43]) l271_1 (Zil C k j acc.length l r (Zbq (fv cf) acc r) acc 0) =
   some (.n,⟨[(0,.sl (Ze C) .an),(10,.bs (.fld (.loc 40) 9) 1 3 0 acc.length),(41,.sl (Z0 l) .an),(42,.i .i64 j),(43,.i .i64 k)],[(.fld (.loc 40) 9,⟨1,.own,3,Ze (fzs (Zbq (fv cf) acc r))⟩)],3⟩):=by
 have hL:=zhe (c:=fv cf) hr;refine zb2 (Zil C k j acc.length l r (Zbq (fv cf) acc r) acc) acc.length _ (fun i hi=>?_) ?_
 ·have hir:i<r.length:=by omega
  have s1:=ha _ (Y4 hi);have s2:=hw _ (Y4 hir);have c0:=zi6 (T:=T) cf (r[i]'hir) (by omega) (by omega);have s3:=zhm (fv cf) (fv (r[i]'hir));have s4:=zdq hc hB;have s5:=zdq s2 hB;have c1:=zi5 (T:=T) (fz (acc[i]'hi)) (fz (fv cf*fv (r[i]'hir))) (by rw[za1];omega) (by rw[za1];omega);have e1:(Zbq (fv cf) acc r)[i]'(by omega)=acc[i]'hi+fv cf*fv (r[i]'hir):=by simp[Zbq]
  rw[zc0,zc0,<-e1]at c1;have hu:=congrArg fzs (zu8 hL (show i<(Zbq (fv cf) acc r).length by omega));rw[<-zya]at hu;unfold Zil;rw[<-hu];exact zuv C k j _ i l r _ cf _ _ _ _ hi hn hck hir (Ya hir) c0 c1 (zx9 (zx8 hL (show i<(Zbq (fv cf) acc r).length by omega))) (by simp;omega)
 ·have e:(Zbq (fv cf) acc r).take acc.length++acc.drop acc.length=Zbq (fv cf) acc r:=by grind
  unfold Zil;rw[e];constructor<;>simp -implicitDefEqProofs[l271_1]
def Zim(C:List Fz)(n:Nat)(l:List (List Fz))(acc:List Rat)(k:Nat):St:=
 ⟨[(0,.sl (Ze C) .an),(10,.bs (.fld (.loc 40) 9) 1 3 0 n),(41,.sl (Z0 l) .an),(42,.i .i64 l.length),(43,.i .i64 k)],[(.fld (.loc 40) 9,⟨1,.own,3,Ze (fzs (Zcv ((C.zip l).take k) acc))⟩)],3⟩
def zsq(C:List Fz)(l:List (List Fz))(hcl:C.length=l.length)(acc:List Rat)(hn:acc.length<=1000)(hk:l.length<=1000){S B:Nat}
  (ha:∀q∈acc,sz q<=S) (hc:∀x∈C,fsz x<=B) (hw:∀r∈l,∀x∈r,fsz x<=B) (hB:1<=B) (hS:S+l.length*(2*B+1)<=1000) (hall:∀r∈l,r.length=acc.length) :
  Zr T 0 2 (.norm false [10]) l271_2 (Zim C acc.length l acc 0)=some (.n,⟨[(10,.bs (.fld (.loc 40) 9) 1 3 0 acc.length)],[(.fld (.loc 40) 9,⟨1,.own,3,Ze (fzs (Zcv (C.zip l) acc))⟩)],3⟩):=by
 have hzl:(C.zip l).length=l.length:=by grind
 refine zb2 (Zim C acc.length l acc) l.length _ (fun k hk=>?_) ?_
 ·have hkc:k<C.length:=by omega
  have hgc:C[k]? = some (C[k]'hkc):=Ya hkc;have hws:=zi2 hk (by omega);have hm:=Y4 hk;have hmc:=hc _ (Y4 hkc);have hlen:=zf0 ((C.zip l).take k) acc (fun q hq=>hall _ (Ycc (Yat hq)).2);have hr:(l[k]'hk).length=acc.length:=hall _ hm;have hsz:=zsn hB ((C.zip l).take k) acc S ha (fun q hq=>⟨hc _ (Ycc (Yat hq)).1,hw _ (Ycc (Yat hq)).2⟩);rw[Yau,Ybo (by omega)]at hsz;have hj2:(k+1)*(2*B+1)<=l.length*(2*B+1):=Yz _ hk;rw[Yc9]at hj2;have hsg:=zky (T:=T) (C[k]'hkc) (by omega);have e:Zcv ((C.zip l).take (k+1)) acc=Zbq (fv (C[k]'hkc)) (Zcv ((C.zip l).take k) acc) (l[k]'hk):=by
   rw[zso _ _ (by omega)];simp
  have hkc':(k:Int)<C.length:=by omega
  unfold Zim;rw[e];by_cases hz:fv (C[k]'hkc)=0
  ·rw[hz,zs5 (by rw[hlen,hr])];have hq:sgQ (fv (C[k]'hkc))=0:=zjj.2 hz;rw[hq]at hsg;simp -implicitDefEqProofs[l271_2,hk,hkc,hkc',hws,hsg]
  ·have hq:¬ sgQ (fv (C[k]'hkc))=0:=fun h=>hz (zjj.1 h);have hin:=zsp (T:=T) C k l.length l (l[k]'hk) (C[k]'hkc) hgc (Zcv ((C.zip l).take k) acc) (by omega) (by omega) hsz hmc (hw _ hm) hB (by omega);unfold Zil at hin;rw[Ydb,Ycg,Ybn,hlen]at hin;generalize acc.length=n at *
   simp only[Yar]at hin;simp -implicitDefEqProofs[l271_2,hk,hkc,hkc',hws,hsg,hq,hin,hr]
 ·unfold Zim;rw[Yb (by omega)];constructor<;>simp -implicitDefEqProofs[l271_2]
def Zin(C:List Fz)(l:List (List Fz))(n i:Nat):St:=⟨[(0,.sl (Ze C) .an),(1,.sl (Z0 l) .an),(2,.i .i64 n),(28,.sl (Z0 l) .an),(29,.i .i64 l.length),(30,.i .i64 i)],[],2⟩
def zsr(C:List Fz)(l:List (List Fz))(n:Nat)(hk:l.length<=1000)(hall:∀r∈l,r.length=n) :
  Zr T 0 0 (.norm false [0,1,2]) l271_0 (Zin C l n 0)=some (.n,⟨[(0,.sl (Ze C) .an),(1,.sl (Z0 l) .an),(2,.i .i64 n)],[],2⟩):=by
 refine zb2 (Zin C l n) l.length _ (fun i hi=>?_) ?_
 ·have hws:=zi2 hi (by omega);have hr:(l[i]'hi).length=n:=hall _ (Y4 hi);unfold Zin;simp -implicitDefEqProofs[l271_0,hi,hws,hr]
 ·unfold Zin;constructor<;>simp -implicitDefEqProofs[l271_0]
def zss(C:List Fz)(l:List (List Fz))(n:Nat)(hcl:C.length=l.length)(hn:n<=300)(hk:l.length<=1000){B:Nat}(hc:∀x∈C,fsz x<=B)(hw:∀r∈l,∀x∈r,fsz x<=B)(hB:1<=B)
  (hS:1+l.length*(2*B+1)<=1000) (hall:∀r∈l,r.length=n) :
  Zb T 271 [.sl (Ze C) .an,.sl (Z0 l) .an,.i .i64 n]=some (.tup [.sl (Ze (fzs (Zcv (C.zip l) (List.replicate n 0)))) .an,.b true]):=by
 have hz:=zk8 (T:=T) n hn;have e0:List.replicate n (fz 0)=fzs (List.replicate n 0):=by simp[fzs]
 rw[e0]at hz;have h0:=zsr (T:=T) C l n hk hall;have h:=zsq (T:=T) C l hcl (List.replicate n 0) (by grind) hk (S:=1) (by
  grind[zth]) hc hw hB hS (by grind)
 have hfl:=zf0 (C.zip l) (List.replicate n 0) (fun q hq=>by rw[Yay];exact hall _ (Ycc hq).2);unfold Zim at h;unfold Zin at h0;have e1:Zcv ((C.zip l).take 0) (List.replicate n 0)=List.replicate n 0:=by simp[Zcv]
 rw[e1]at h;rw[Yay]at h hfl;have hl2:(fzs (Zcv (C.zip l) (List.replicate n 0))).length=n:=by simp_all
 have ht:List.take n (fzs (Zcv (C.zip l) (List.replicate n 0)))=fzs (Zcv (C.zip l) (List.replicate n 0)):=Yb (by omega);have p2:((C.length:Int)=(l.length:Int))=True:=by grind
 have e3:¬ (n:Int)<0:=by omega
 have e4:¬ (300:Int)<n:=by omega
 rw[zaa Zbg.h271 rfl,b271];simp only[Yar]at h h0;simp -implicitDefEqProofs[hz,h,h0,hl2,ht,p2,e3,e4]
end
abbrev agS(t h:Fz)(y0 y1 f0 f1:List Fz):AV:=
 .agg [.b t.1,.sl (Za t.2.1) .an,.sl (Za t.2.2) .an,.b h.1,.sl (Za h.2.1) .an,.sl (Za h.2.2) .an,.sl (Ze y0) .an,.sl (Ze y1) .an,.sl (Ze f0) .an,.sl (Ze f1) .an]
def Zap(l:List Fz):Rat:=l.foldl (fun p x=>p*fv x) 1
def zfj(l:List Fz)(x:Fz):Zap (l++[x])=Zap l*fv x:=by simp[Zap,List.foldl_append]
def zc4{B:Nat}(hB:1<=B):∀(l:List Fz),(∀x∈l,fsz x<=B)->∀i,sz (Zap (l.take i))<=1+l.length*B:=by
 intro l hl i
 induction i with
 | zero=>simp[Zap,zti]
 | succ i ih=>
  by_cases hi:i<l.length
  ·rw[Yaq hi,zfj];have h1:=zhm (Zap (l.take i)) (fv (l[i]'hi));have h2:=zdq (hl _ (Y4 hi)) hB;have key:∀j,j<=l.length->sz (Zap (l.take j))<=1+j*B:=by
    intro j
    induction j with
    | zero=>intro _;simp[Zap,zti]
    | succ j ihj=>
     intro hj;rw[Yaq (show j<l.length by omega),zfj];have h3:=ihj (by omega);have h4:=zhm (Zap (l.take j)) (fv (l[j]'(by omega)));have h5:=zdq (hl _ (Y4 (show j<l.length by omega))) hB;rw[Yc9];omega
   have h6:=key i (by omega);have h7:(i+1)*B<=l.length*B:=Yz _ hi;rw[Yc9]at h7;omega
  ·rw[Yb (by omega)];rw[Yb (by omega)]at ih;exact ih
theorem zjf{k:Int}(h1:-100<=k)(h2:k<=100):sz (k:Rat)<=1:=by
 unfold sz;rw[Rat.num_intCast,Rat.den_intCast,zd1];exact Nat.max_le.2 ⟨zam (by omega),Yg _⟩
section
variable{T:Tbl}[Zl T][Zs T][Zt T][Zo T][Zq T][Za8 T][Zi T][Zm T][Zp T][Za7 T][Zbg T][Zbf T]
theorem zb4(a b:Int)(x:Fz)(hx:fsz x<=900)(ha1:-100<=a)(ha2:a<=100)(hb1:-100<=b)(hb2:b<=100):Zb T 336 [.i .i64 a,.i .i64 b,efz x]=some (efz (fz ((a:Rat)+(b:Rat)*fv x))):=by
 have c1:=zda (T:=T) a (by omega) (by omega);have c2:=zda (T:=T) b (by omega) (by omega);have small:∀k:Int,-100<=k->k<=100->sz (k:Rat)<=1:=fun k h1 h2=>zjf h1 h2;have s1:=small a ha1 ha2;have s2:=small b hb1 hb2;have c3:=zi6 (T:=T) (fz (b:Rat)) x (by rw[za1];omega) (by omega);rw[zc0]at c3;have s3:=zhm (b:Rat) (fv x);have s4:=zdq (L:=900) hx (by decide);have c4:=zi5 (T:=T) (fz (a:Rat)) (fz ((b:Rat)*fv x)) (by rw[za1];omega) (by rw[za1];omega);rw[zc0,zc0]at c4;rw[zaa Zbf.h336 rfl,b336];generalize fz (a:Rat)=A at *
 generalize fz ((a:Rat)+(b:Rat)*fv x)=R at *
 generalize fz ((b:Rat)*fv x)=M at *
 generalize fz (b:Rat)=B at *
 simp -implicitDefEqProofs[c1,c2,c3,c4]
def Ziw(l:List Fz)(i:Nat):St:=⟨[(2,.ptr (.loc 2) 1 3 0 0),(3,.ptr (.loc 3) 2 3 0 0),(7,.sl (Ze l) .an),(8,.i .i64 l.length),(9,.i .i64 i)],[(.loc 2,⟨1,.str,3,[Zdg]⟩),(.loc 3,⟨2,.str,3,[Z8 (fz (Zap (l.take i)))]⟩)],4⟩
def zpi(l:List Fz){B:Nat}(hl:l.length<=1000)(hB:1<=B)(hw:∀x∈l,fsz x<=B)(hS:1+l.length*B<=1000) :
  Zr T 0 0 (.norm false [2,3]) l337_0 (Ziw l 0)=some (.n,⟨[(2,.ptr (.loc 2) 1 3 0 0),(3,.ptr (.loc 3) 2 3 0 0)],[(.loc 2,⟨1,.str,3,[Zdg]⟩),(.loc 3,⟨2,.str,3,[Z8 (fz (Zap l))]⟩)],4⟩):=by
 refine zb2 (Ziw l) l.length _ (fun i hi=>?_) ?_
 ·have hg:l[i]? = some (l[i]'hi):=Ya hi;have hws:=zi2 hi (by omega);have h1:1*B<=l.length*B:=Yz _ (by omega);have h2:=hw _ (Y4 hi);have c:=zi6 (T:=T) (fz (Zap (l.take i))) (l[i]'hi) (by rw[za1];have:=zc4 hB l hw i;omega) (by omega);rw[zc0,<-zfj,<-Yaq hi]at c;unfold Ziw;generalize fz (Zap (l.take i))=A at *
  generalize fz (Zap (l.take (i+1)))=A' at *
  simp -implicitDefEqProofs[l337_0,hi,hg,hws,c]
 ·unfold Ziw;rw[Yb (Yg _)];generalize fz (Zap l)=A at *
  constructor<;>simp -implicitDefEqProofs[l337_0]
def zb5(l:List Fz){B:Nat}(hl:l.length<=1000)(hB:1<=B)(hw:∀x∈l,fsz x<=B)(hS:1+l.length*B<=1000):Zb T 337 [.sl (Ze l) .an]=some (efz (fz (Zap l))):=by
 have c1:=zui (T:=T);have h:=zpi (T:=T) l hl hB hw hS;have e:Zap (l.take 0)=1:=by simp[Zap]
 unfold Ziw at h;rw[e]at h;rw[zaa Zbf.h337 rfl,b337];generalize fz (Zap l)=A at *
 generalize fz 1=A1 at *
 simp only[Yar]at h;simp -implicitDefEqProofs[c1,h]
def zlb(t h:Fz)(y0 y1 f0 f1:List Fz):Zb T 338 [agS t h y0 y1 f0 f1]=some (.sl (Z0 [y0,y1,f0,f1]) .an):=by
 have e:Z0 [y0,y1,f0,f1]=[[.sl (Ze y0) .an],[.sl (Ze y1) .an],[.sl (Ze f0) .an],[.sl (Ze f1) .an]]:=rfl;rw[zaa Zbf.h338 rfl,b338,e];simp -implicitDefEqProofs
def Zb9(h:Fz)(y0 y1 f0 f1:List Fz):Bool:=decide (0<fv h)&&decide (y0.length<=300)&&decide (y1.length=y0.length)&&decide (f0.length=y0.length)&&decide (f1.length=y0.length)
def zlc(t h s:Fz)(y0 y1 f0 f1:List Fz)(ht:fsz t<=300)(hh:fsz h<=300)(hs:fsz s<=300):Zb T 335 [agS t h y0 y1 f0 f1,efz s]=some (efz (fz ((fv s-fv t)/fv h))):=by
 have c1:=zuj (T:=T) s t (by omega) (by omega);have e1:=zwd (fv s) (fv t);have e2:=zdq (L:=300) ht (by decide);have e3:=zdq (L:=300) hs (by decide);have c2:=zns (T:=T) (fz (fv s-fv t)) h (by rw[za1];omega) (by omega);rw[zc0]at c2;rw[zaa Zbf.h335 rfl,b335];generalize fz ((fv s-fv t)/fv h)=R at *
 generalize fz (fv s-fv t)=D at *
 generalize decide (fv h≠0)=Z at *
 simp -implicitDefEqProofs[c1,c2]
def zfk(t h:Fz)(y0 y1 f0 f1:List Fz)(hh:fsz h<=300):Zb T 329 [agS t h y0 y1 f0 f1]=some (.b (Zb9 h y0 y1 f0 f1)):=by
 have c:=zky (T:=T) h (by omega);rw[zaa Zbf.h329 rfl,b329];unfold Zb9;by_cases h1:0<fv h
 case neg=>
  have e1:¬ 0<sgQ (fv h):=fun x=>h1 (ztk.1 x);rw[decide_eq_false h1];simp -implicitDefEqProofs[c,e1]
 have e1:0<sgQ (fv h):=ztk.2 h1;rw[decide_eq_true h1];by_cases h2:y0.length<=300
 case neg=>
  have e2:¬ (y0.length:Int)<=300:=by omega
  rw[decide_eq_false h2];simp -implicitDefEqProofs[c,e1,e2]
 have e2:(y0.length:Int)<=300:=by omega
 rw[decide_eq_true h2];by_cases h3:y1.length=y0.length
 case neg=>
  have e3:((y1.length:Int) == (y0.length:Int))=false:=by simp;omega
  have p3:((y1.length:Int)=(y0.length:Int))=False:=by simp;omega
  rw[decide_eq_false h3];simp -implicitDefEqProofs[c,e1,e2,e3,p3]
 have e3:((y1.length:Int) == (y0.length:Int))=true:=by simp;omega
 have p3:((y1.length:Int)=(y0.length:Int))=True:=by simp;omega
 rw[decide_eq_true h3];by_cases h4:f0.length=y0.length
 case neg=>
  have e4:((f0.length:Int) == (y0.length:Int))=false:=by simp;omega
  have p4:((f0.length:Int)=(y0.length:Int))=False:=by simp;omega
  rw[decide_eq_false h4];simp -implicitDefEqProofs[c,e1,e2,e3,p3,e4,p4]
 have e4:((f0.length:Int) == (y0.length:Int))=true:=by simp;omega
 have p4:((f0.length:Int)=(y0.length:Int))=True:=by simp;omega
 rw[decide_eq_true h4];have e5:((f1.length:Int) == (y0.length:Int))=decide (f1.length=y0.length):=by
  rw[Ybz];simp only[beq_iff_eq,decide_eq_true_eq];omega
 clear h1 h2 h3 h4;generalize decide (f1.length=y0.length)=Z at *
 simp -implicitDefEqProofs[c,e1,e2,e3,p3,e4,p4,e5]
end
def zox(a b:List AV):wkR (a++b)=wkR a++wkR b:=by rw[zgu,zgu,zgu,Yct]
abbrev tyS:Ty:=.cons tyF (.cons tyF (.cons (.sl tyF) (.cons (.sl tyF) (.cons (.sl tyF) (.cons (.sl tyF) .nil)))))
class Zke (T:Tbl):Prop where
class Zgd (T:Tbl):Prop where
class Zkd (T:Tbl):Prop where
end Go.Ab
section
namespace Go.Ab
end Go.Ab
end
namespace Go.Ab
section
variable{T:Tbl}
def Znk(Q:List UInt32)(o n s i:Nat):St:=⟨[(0,.bs (.bor 0) 0 1 o n),(1,.i .i64 s),(5,.i .i64 i)],[(.bor 0,⟨0,.own,1,Za Q⟩)],4⟩
end
section
variable{T:Tbl}[Zaz T][Za0 T][Zan T][Za1 T][Zbe T]
def Znl(Q R:List UInt32)(o n o2 n2 c i:Nat):St:=⟨[(0,.bs (.bor 0) 0 1 o n),(1,.bs (.bor 1) 1 1 o2 n2),(4,u64 c),(5,.i .i64 i)],[(.bor 0,⟨0,.own,1,Za Q⟩),(.bor 1,⟨1,.own,1,Za R⟩)],6⟩
def nmX:BId:=.fld (.loc 12) 22
def nmY:BId:=.fld (.loc 14) 22
def nm2(f:Bool):BId×BId:=if f then (nmX,nmY) else (nmY,nmX)
def Znm(f:Bool)(P a S P2 b S2:List UInt32)(m n:Nat):St:=
 ⟨[(5,.bs (nm2 f).1 1 1 P.length a.length),(6,.bs (nm2 f).2 2 1 P2.length b.length),(7,.i .i64 m),(8,.i .i64 n)],[((nm2 f).1,⟨1,.own,1,Za (P++(a++S))⟩),((nm2 f).2,⟨2,.own,1,Za (P2++(b++S2))⟩)],4⟩
structure Gc where
 f:Bool
 P:List UInt32
 S:List UInt32
 P2:List UInt32
 S2:List UInt32
 X:Nat
 Y:Nat
end
end Go.Ab
section
namespace Go.Ab
end Go.Ab
end
namespace Go.Ab
section
variable{T:Tbl}[Zaz T][Za0 T][Zan T][Za1 T][Zbe T][Zbn T][Zba T]
def zeb(x:Fz)(k:Nat):Zb T 247 [efz x,.i .i64 k]=some (.b (decide (k<fsz x))):=by
 obtain⟨n,a,d⟩:=x;unfold fsz;rw[zaa Zba.h247 rfl,b247];by_cases h1:k<a.length
 ·have h3:k<max a.length d.length:=by omega
  simp -implicitDefEqProofs[h1,h3]
 ·by_cases h2:k<d.length
  ·have h3:k<max a.length d.length:=by omega
   simp -implicitDefEqProofs[h1,h2,h3]
  ·have h3:¬ k<max a.length d.length:=by omega
   simp -implicitDefEqProofs[h1,h2,h3]
end
section
variable{T:Tbl}[Zaz T][Za0 T][Zan T][Za1 T][Zbe T][Zbn T][Zba T][Zbo T]
def Zno(n i:Nat):St:=⟨[(0,.i .i64 n),(3,.bs (.loc 3) 1 3 0 i),(4,.i .i64 i)],[(.loc 3,⟨1,.own,3,Ze (List.replicate i (fz 0))⟩)],3⟩
def Znp(l:List Fz)(i:Nat):St:=⟨[(0,.sl (Ze l) .an),(3,.bs (.loc 3) 1 3 0 i),(4,.i .i64 i)],[(.loc 3,⟨1,.own,3,Ze (nrm (l.take i))⟩)],3⟩
def Znq(a b:List Fz)(i:Nat):St:=⟨[(0,.sl (Ze a) .an),(1,.sl (Ze b) .an),(5,.i .i64 i)],[],2⟩
def Znr(p q:List Rat)(i:Nat):St:=⟨[(0,.sl (Ze (fzs p)) .an),(1,.sl (Ze (fzs q)) .an),(5,.bs (.loc 5) 1 3 0 i),(6,.i .i64 i)],[(.loc 5,⟨1,.own,3,Ze (fzs ((Zjc p (fzs q)).take i))⟩)],3⟩
def Zns(p q:List Rat)(i:Nat):St:=⟨[(0,.sl (Ze (fzs p)) .an),(1,.sl (Ze (fzs q)) .an),(4,.ptr (.loc 4) 1 3 0 0),(5,.ptr (.loc 5) 2 3 0 0),(6,.i .i64 i)],
 [(.loc 4,⟨1,.str,3,[Zdg]⟩),(.loc 5,⟨2,.str,3,[Z8 (fz (Zir (fzs p) (fzs q) i))]⟩)],4⟩
def Zch(l:List Fz)(many words:Nat):Bool:=decide (many<l.length) || l.any fun x=>decide (words<fsz x)
def Ze4(l:List Fz)(many words:Nat)(i:Nat):St:=⟨[(0,.sl (Ze l) .an),(1,.i .i64 many),(2,.i .i64 words),(7,.i .i64 i)],[],2⟩
def zpf(l:List Fz)(many words:Nat)(hl:l.length<=many)(hm:many<=1000) :
  Zr T 0 0 (.norm false [0,1]) l286_0 (Ze4 l many words 0)=if (l.drop 0).any (fun x=>decide (words<fsz x))=true then some (.r,⟨[(6,.b true)],[],2⟩) else some (.n,⟨[(0,.sl (Ze l) .an),(1,.i .i64 many)],[],2⟩):=by
 refine zfg (Ze4 l many words) l.length (fun i=>if (l.drop i).any (fun x=>decide (words<fsz x))=true then some (.r,⟨[(6,.b true)],[],2⟩) else some (.n,⟨[(0,.sl (Ze l) .an),(1,.i .i64 many)],[],2⟩)) (fun i hi=>?_) ?_
 ·have hga:l[i]? = some (l[i]'hi):=Ya hi;have hws:=zi2 hi (by omega);have c:=zeb (T:=T) (l[i]'hi) words;have h3:(i:Int)<many:=by omega
  have h4:i<many:=by omega
  have key:(l.drop i).any (fun x=>decide (words<fsz x))=(decide (words<fsz (l[i]'hi)) || (l.drop (i+1)).any fun x=>decide (words<fsz x)):=by
   rw[Yab hi,List.any_cons]
  by_cases he:words<fsz (l[i]'hi)
  ·right;rw[if_pos (by rw[key,decide_eq_true he,Bool.true_or])];rw[decide_eq_true he]at c;unfold Ze4;clear key he;constructor<;>simp -implicitDefEqProofs[l286_0,hi,h3,c]
  ·left;refine⟨?_,by grind⟩;rw[decide_eq_false he]at c;unfold Ze4;clear key he;simp -implicitDefEqProofs[l286_0,hi,h3,hws,c]
 ·rw[Ybe,if_neg (by simp)];unfold Ze4;constructor<;>simp -implicitDefEqProofs[l286_0]
theorem zpg(l:List Fz)(many words:Nat)(hl:l.length<=many)(hm:many<=1000):Zb T 286 [.sl (Ze l) .an,.i .i64 many,.i .i64 words]=some (.b (Zch l many words)):=by
 have h:=zpf (T:=T) l many words hl hm;rw[Ycg]at h;unfold Ze4 at h;simp only[Yar]at h;have h1:¬ (many:Int)<l.length:=by omega
 have h2:¬ many<l.length:=by omega
 unfold Zch;rw[zaa Zbo.h286 rfl,b286];cases hc:l.any fun x=>decide (words<fsz x) with
 | true=>
  rw[hc,if_pos rfl]at h;simp -implicitDefEqProofs[h,h2]
 | false=>
  rw[hc,if_neg (by decide)]at h;simp -implicitDefEqProofs[h,h1,h2]
def zph(l:List Fz)(many words:Nat)(hl:many<l.length)(hm:many<=1000) :
  ∃r,(r=some (.r,(⟨[(6,.b true)],[],2⟩:St))\/r=some (.n,⟨[(0,.sl (Ze l) .an),(1,.i .i64 many)],[],2⟩))/\Zr T 0 0 (.norm false [0,1]) l286_0 (Ze4 l many words 0)=r:=by
 obtain⟨G,hG⟩:∃G:Nat->Option (Ex×St),G=fun i=>if ((l.take many).drop i).any (fun x=>decide (words<fsz x))=true then some (.r,⟨[(6,.b true)],[],2⟩) else some (.n,⟨[(0,.sl (Ze l) .an),(1,.i .i64 many)],[],2⟩):=⟨_,rfl⟩
 refine⟨G 0,?_,zfg (Ze4 l many words) many G (fun i hi=>?_) ?_⟩
 ·grind
 ·have hil:i<l.length:=by omega
  have hil':(i:Int)<l.length:=by omega
  have hga:l[i]? = some (l[i]'hil):=Ya hil;have hws:=zi2 hi (by omega);have c:=zeb (T:=T) (l[i]'hil) words;have key:((l.take many).drop i).any (fun x=>decide (words<fsz x))=(decide (words<fsz (l[i]'hil)) || ((l.take many).drop (i+1)).any fun x=>decide (words<fsz x)):=by
   grind[List.drop_eq_getElem_cons]
  by_cases he:words<fsz (l[i]'hil)
  ·right;rw[hG];simp only;rw[if_pos (by rw[key,decide_eq_true he,Bool.true_or])];rw[decide_eq_true he]at c;unfold Ze4;clear key he hG;constructor<;>simp -implicitDefEqProofs[l286_0,hi,hil,hil',c]
  ·left;refine⟨?_,by grind⟩;rw[decide_eq_false he]at c;unfold Ze4;clear key he hG;simp -implicitDefEqProofs[l286_0,hi,hil,hil',hws,c]
 ·rw[hG];simp only;rw[Ya6 (by grind),if_neg (by simp)];have h1:(many:Int)<l.length:=by omega
  unfold Ze4;constructor<;>simp -implicitDefEqProofs[l286_0,h1]
theorem zmp(l:List Fz)(many words:Nat)(hl:many<l.length)(hm:many<=1000):Zb T 286 [.sl (Ze l) .an,.i .i64 many,.i .i64 words]=some (.b true):=by
 obtain⟨r,hr,h⟩:=zph (T:=T) l many words hl hm;unfold Ze4 at h;simp only[Yar]at h;have h1:(many:Int)<l.length:=by omega
 rw[zaa Zbo.h286 rfl,b286];rcases hr with rfl | rfl
 ·simp -implicitDefEqProofs[h]
 ·simp -implicitDefEqProofs[h,hl]
def zdk(l:List Fz)(many words:Nat)(hm:many<=1000):Zb T 286 [.sl (Ze l) .an,.i .i64 many,.i .i64 words]=some (.b (Zch l many words)):=by
 grind[zmp,Zch,zpg]
def zdl{l:List Fz}{many words:Nat}(h:Zch l many words=false):l.length<=many/\∀x∈l,fsz x<=words:=by
 grind[Zch]
end
def Zg9(n:Int):Nat:=(min (max n 0) 300).toNat
section
variable{T:Tbl}[Zl T][Zs T][Zt T][Zo T][Zq T][Za8 T][Zi T][Zm T][Zp T][Za7 T][Zbg T]
def Zmx(n i:Int):List Rat:=if 0<=i/\i<Zg9 n then (List.replicate (Zg9 n) 0).set i.toNat 1 else List.replicate (Zg9 n) 0
end
section
variable{T:Tbl}[Zaz T][Za0 T][Zan T][Za1 T][Zbe T][Zbn T][Zba T][Zbo T]
def Zmy(n:Int)(i:Nat):St:=⟨[(0,.i .i64 n),(3,.bs (.loc 3) 1 3 0 i),(4,.i .i64 i)],[(.loc 3,⟨1,.own,3,Ze (List.replicate i (fz 0))⟩)],3⟩
end
class Zig (T:Tbl):Prop where
def zsc{α:Type}(l:List α){i:Nat}(h:i<l.length):l.take (i+1)=l.take i++[l[i]'h]:=Yaq h
section
variable{T:Tbl}[Zaz T][Za0 T][Zan T][Za1 T][Zbe T][Zbn T][Zba T][Zbo T][Zdy T][Zdz T]
def zi8(x:Fz):Zb T 248 [efz x]=some (efz x):=by
 rw[zaa Zdy.h248 rfl,b248];simp -implicitDefEqProofs
def Zfp(l:List Fz)(i:Nat):St:=⟨[(0,.sl (Ze l) .an),(3,.bs (.loc 3) 1 3 0 i),(4,.i .i64 i)],[((.loc 3),⟨1,.own,3,Ze (l.take i)⟩)],3⟩
def zsd(l:List Fz)(hl:l.length<=2513169434915) :
  Zr T 0 0 (.norm false [3]) l287_0 (Zfp l 0)=some (.n,⟨[(3,.bs (.loc 3) 1 3 0 (l.length))],[((.loc 3),⟨1,.own,3,Ze (l.take (l.length))⟩)],3⟩):=by
 refine zb2 (Zfp l) (l.length) _ (fun i hi=>?_) ?_
 ·have hws:IntKind.wrap .i64 ((i:Int)+1)=((i+1:Nat):Int):=zac _ (by omega);have hb:i<=2513169434915:=by omega
  have hb1:i+1<=2513169434916:=by omega
  have hg:l[i]? = some (l[i]'hi):=Ya hi;have hn:=zi8 (T:=T) (l[i]'hi);have e:=zsc l hi;have hml:(l.take i).length=i:=by simp;omega
  have hp:=zs0 hml (l[i]'hi);unfold Zfp;rw[e];clear e;generalize l.take i=M at *
  simp -implicitDefEqProofs[l287_0,hi,hws,hb,hb1,hp,hml,hg,hn]
 ·unfold Zfp;rw[Yb (Yg _)];constructor<;>simp -implicitDefEqProofs[l287_0]
def zfz(l:List Fz)(hl:l.length<=2513169434915):Zb T 287 [.sl (Ze l) .an]=some (.sl (Ze l) .an):=by
 have h:=zsd (T:=T) l hl;unfold Zfp at h;rw[Ydb,Yb (Yg _)]at h;simp only[zn1,Yar]at h;have ht:List.take l.length l=l:=Yb (Yg _);rw[zaa Zdz.h287 rfl,b287];simp -implicitDefEqProofs[h,ht]
def Zll(l:List Fz)(i:Nat):St:=⟨[(0,.sl (Ze l) .an),(3,.bs (.loc 3) 1 3 0 i),(4,.i .i64 i)],[((.loc 3),⟨1,.own,3,Ze (l.take i)⟩)],3⟩
end
def Zjv:List (List Fz)->Nat
 | []=>0
 | r::_=>r.length
def Zlh(m:List (List Fz)):Bool:=m.all fun r=>decide (r.length=Zjv m)
def Zkj(m:List (List Fz))(j:Nat):List Fz:=m.map fun r=>r.getD j (false,[],[])
def Zkk(m:List (List Fz))(k:Nat):List (List Fz):=(List.range k).map fun j=>nrm (Zkj m j)
def scM(r:List Fz)(m:List (List Fz)):List (List Fz):=List.zipWith (fun x row=>scl (fv x) row) r m
def Zli:List (List Fz)->List Rat
 | []=>[]
 | r::m=>m.foldl Zjc (r.map fv)
def Zkl(r:List Fz)(m:List (List Fz)):List Rat:=Zli (scM r m)
def Zjw(m:List (List Fz))(c:List Fz):List Rat:=m.map fun r=>Zg8 r c
section
variable{T:Tbl}[Zl T][Zs T][Zt T][Zo T][Zq T][Za8 T][Zi T][Zm T][Zp T][Za7 T][Zbg T][Zig T]
def Zmb(m:List (List Fz))(i:Nat):St:=⟨[(0,.sl (Z0 m) .an),(5,.sl (Z0 m) .an),(6,.i .i64 m.length),(7,.i .i64 i)],[],2⟩
def Zmc(a b:List (List Fz))(i:Nat):St:=⟨[(1,.sl (Z0 b) .an),(12,.sl (Z0 a) .an),(13,.i .i64 a.length),(14,.i .i64 i)],[],2⟩
def idQ(k:Nat)(i:Nat):List (List Fz):=(List.range i).map fun j=>fzs ((List.replicate k 0).set j 1)
def Zmd(k:Nat)(i:Nat):St:=⟨[(0,.i .i64 k),(3,.bs (.loc 3) 1 1 0 i),(8,.i .i64 k),(9,.i .i64 i)],[((.loc 3),⟨1,.own,1,Z0 (idQ k i)⟩)],3⟩
def Zme(m R:List (List Fz))(k j:Nat)(i:Nat):St:=⟨[(0,.sl (Z0 m) .an),(3,.bs (.loc 3) 1 1 0 j),(4,.i .i64 j),(5,.bs (.loc 5) 2 3 0 i),(12,.i .i64 k),(13,.i .i64 j),(16,.sl (Z0 m) .an),(17,.i .i64 m.length),(18,.i .i64 i)],[(.loc 3,⟨1,.own,1,Z0 R⟩),((.loc 5),⟨2,.own,3,Ze (nrm (Zkj (m.take i) j))⟩)],4⟩
def Zk8(m:List (List Fz))(k:Nat)(i:Nat):St:=⟨[(0,.sl (Z0 m) .an),(3,.bs (.loc 3) 1 1 0 i),(12,.i .i64 k),(13,.i .i64 i)],[((.loc 3),⟨1,.own,1,Z0 (Zkk m i)⟩)],3⟩
end
section
variable{T:Tbl}[Zl T][Zs T][Zt T][Zo T][Zq T][Za8 T][Zi T][Zm T][Zp T][Za7 T][Zbg T][Zig T]
def Zmf(r:List Fz)(m:List (List Fz))(i:Nat):St:=⟨[(0,.sl (Ze r) .an),(6,.bs (.loc 6) 1 1 0 i),(19,.sl (Z0 m) .an),(20,.i .i64 m.length),(21,.i .i64 i)],[((.loc 6),⟨1,.own,1,Z0 (scM (r.take i) (m.take i))⟩)],3⟩
def Zmg(m:List (List Fz))(c:List Fz)(i:Nat):St:=⟨[(1,.sl (Ze c) .an),(6,.bs (.loc 6) 1 3 0 i),(21,.sl (Z0 m) .an),(22,.i .i64 m.length),(23,.i .i64 i)],[((.loc 6),⟨1,.own,3,Ze (fzs (Zjw (m.take i) c))⟩)],3⟩
def Zlj(a b:List (List Fz)):List (List Fz):=a.map fun r=>fzs (Zkl r b)
def Zmh(a m:List (List Fz))(i:Nat):St:=⟨[(1,.sl (Z0 m) .an),(6,.bs (.loc 6) 1 1 0 i),(26,.sl (Z0 a) .an),(27,.i .i64 a.length),(28,.i .i64 i)],[((.loc 6),⟨1,.own,1,Z0 (Zlj (a.take i) m)⟩)],3⟩
def Zlk(a b:List (List Fz)):List (List Fz):=List.zipWith (fun r s=>fzs (Zjc (r.map fv) s)) a b
def Zmi(a m:List (List Fz))(i:Nat):St:=⟨[(1,.sl (Z0 m) .an),(6,.bs (.loc 6) 1 1 0 i),(33,.sl (Z0 a) .an),(34,.i .i64 a.length),(35,.i .i64 i)],[((.loc 6),⟨1,.own,1,Z0 (Zlk (a.take i) (m.take i))⟩)],3⟩
end
def Zku:List Rat->List Rat->Rat
 | x::a,y::b=>x*y+Zku a b
 | _,_=>0
def Zl1(m:List (List Fz)):List (List Rat):=m.map fun r=>r.map fv
def fzM(L:List (List Rat)):List (List Fz):=L.map fzs
def Ziy:List (List Rat)->Nat
 | []=>0
 | r::_=>r.length
def Zl2(L:List (List Rat)):Bool:=L.all fun r=>decide (r.length=Ziy L)
def Zjz(L:List (List Rat))(j:Nat):List Rat:=L.map fun p=>p.getD j 0
def Zkv(L:List (List Rat)):List (List Rat):=(List.range (Ziy L)).map (Zjz L)
def Ziz(L:List (List Rat))(c:List Rat):List Rat:=L.map fun p=>Zku p c
def Zm2(r:List Rat)(L:List (List Rat)):List Rat:=Ziz (Zkv L) r
def Zkg(q:Rat):Rat:=if q<0 then -q else q
def Zk2(c:Rat)(l:List Rat):List Rat:=l.map fun x=>c*x
def Zl6(a b:List Rat):List Rat:=List.zipWith (· + ·) a b
def Zje(b x:Rat):Rat:=if b<Zkg x then Zkg x else b
def Zjo(l:List Rat):Rat:=l.foldl Zje 0
def Zl7:List (Rat×List Rat)->List Rat->List Rat
 | [],acc=>acc
 | p::l,acc=>Zl7 l (Zl6 acc (Zk2 p.1 p.2))
class Zii (T:Tbl):Prop where
def sqC:List UInt32->Nat
 | []=>0
 | x::r=>4294967296*(x.toNat*val r)+4294967296*4294967296*sqC r
def sqD:List UInt32->Nat
 | []=>0
 | x::r=>x.toNat*x.toNat+4294967296*4294967296*sqD r
section
variable{T:Tbl}[Za3 T][Zl T][Zs T][Zt T][Zii T]
def Zmm(a X:List UInt32)(i:Nat):St:=
 ⟨[(0,.sl (Za a) .an),(3,.bs (.loc 14) 1 1 0 (2*a.length+1)),(15,.sl (Za a) .an),(16,.i .i64 a.length),(17,.i .i64 i)],[(.loc 14,⟨1,.own,1,Za (X++List.replicate (a.length+1-i) 0)⟩)],3⟩
def Zmn(a X:List UInt32)(U:List (List AV))(i:Nat):St:=
 ⟨[(6,.sl U .an),(7,.bs (.loc 38) 1 1 0 (2*a.length)),(39,.sl (Za a) .an),(40,.i .i64 a.length),(41,.i .i64 i)],[(.loc 38,⟨1,.own,1,Za (X++List.replicate (2*a.length-2*i) 0)⟩)],3⟩
end
class Zju (T:Tbl):Prop where
class Zij (T:Tbl):Prop where
section
variable{T:Tbl}[Zaz T][Za0 T][Zan T][Za1 T][Zbe T][Zbn T][Zba T][Zbo T][Zij T]
def Zmq(m:List (List Fz))(i:Nat):St:=⟨[(0,.sl (Z0 m) .an),(3,.i .i64 i)],[],2⟩
def Zmr(m:List (List Fz))(i:Nat):St:=⟨[(0,.sl (Z0 m) .an),(3,.bs (.loc 3) 1 1 0 i),(4,.i .i64 i)],[((.loc 3),⟨1,.own,1,Z0 (fzM (Zl1 (m.take i)))⟩)],3⟩
def Zms(a b:List (List Fz))(i:Nat):St:=⟨[(0,.sl (Z0 a) .an),(1,.sl (Z0 b) .an),(5,.i .i64 i)],[],2⟩
def Zmt(n:Int)(k:Nat)(i:Nat):St:=⟨[(0,.i .i64 n),(3,.bs (.loc 3) 1 1 0 i),(4,.i .i64 i)],[((.loc 3),⟨1,.own,1,Z0 (idQ k i)⟩)],3⟩
def Zls(L:List (List Rat))(R:List (List Fz))(j:Nat)(i:Nat):St:=⟨[(0,.sl (Z0 (fzM L)) .an),(3,.bs (.loc 3) 1 1 0 j),(4,.i .i64 j),(5,.bs (.loc 5) 2 3 0 i),(6,.i .i64 i)],[(.loc 3,⟨1,.own,1,Z0 R⟩),((.loc 5),⟨2,.own,3,Ze (fzs (Zjz (L.take i) j))⟩)],4⟩
def Zlt(L:List (List Rat))(i:Nat):St:=⟨[(0,.sl (Z0 (fzM L)) .an),(3,.bs (.loc 3) 1 1 0 i),(4,.i .i64 i)],[((.loc 3),⟨1,.own,1,Z0 (fzM ((List.range i).map (Zjz L)))⟩)],3⟩
def Zmu(L:List (List Rat))(c:List Rat)(i:Nat):St:=⟨[(0,.sl (Z0 (fzM L)) .an),(1,.sl (Ze (fzs c)) .an),(5,.bs (.loc 5) 1 3 0 i),(6,.i .i64 i)],[((.loc 5),⟨1,.own,3,Ze (fzs (Ziz (L.take i) c))⟩)],3⟩
def Zmv(m:List (List Fz))(many words:Nat):Bool:=decide (many<m.length) || m.any fun r=>Zch r many words
def Zmw(m:List (List Fz))(many words:Nat)(i:Nat):St:=⟨[(0,.sl (Z0 m) .an),(1,.i .i64 many),(2,.i .i64 words),(7,.i .i64 i)],[],2⟩
end
def zse{l:List Rat}{B:Nat}(h:∀q∈l,sz q<=B):∀x∈fzs l,fsz x<=B:=by
 intro x hx;obtain⟨q,hq,rfl⟩:=Yw.1 hx;exact h q hq
def zxy{l:List Fz}{B:Nat}(hB:1<=B)(h:∀x∈l,fsz x<=B):∀q∈l.map fv,sz q<=B:=by
 intro q hq;obtain⟨x,hx,rfl⟩:=Yw.1 hq;exact zdq (h x hx) hB
section
variable{T:Tbl}[Zl T][Zs T][Zt T][Zo T][Zq T][Za8 T][Zi T][Zm T][Zp T][Za7 T][Zbg T][Zig T][Zaz T][Za0 T][Zan T][Za1 T][Zbe T][Zbn T][Zba T][Zbo T][Zij T][Zdy T][Zdz T][Zju T]
def Zlm(m:List (List Fz))(i:Nat):St:=⟨[(0,.sl (Z0 m) .an),(3,.bs (.loc 3) 1 1 0 i),(4,.i .i64 i)],[((.loc 3),⟨1,.own,1,Z0 (m.take i)⟩)],3⟩
def Zln(a b:List (List Fz))(i:Nat):St:=⟨[(0,.sl (Z0 a) .an),(1,.sl (Z0 b) .an),(5,.i .i64 i)],[],2⟩
theorem sz3:sz 3<=1:=by
 unfold sz;rw[show (3:Rat).num=3 from rfl,show (3:Rat).den=1 from rfl,zd1,show (3:Int).natAbs=3 from rfl]
 grind[zam]
def zxz{q:Rat}(h1:q.num.natAbs<4294967296)(h2:q.den<4294967296):sz q<=1:=Nat.max_le.2 ⟨zam (by omega),zam (by omega)⟩
def zkz(n:Nat)(h:n<10):Zee (n:Rat)=[UInt8.ofNat (48+n)]:=by
 grind[Zee,Rat.den_natCast,Rat.num_natCast,Zef,zdo]
end
def Zkn(l:List Rat):Nat->Nat
 | 0=>0
 | n+1=>if l.getD n 0=0 then Zkn l n else n+1
def Zio(l:List Rat):List Rat:=l.take (Zkn l l.length)
section
variable{T:Tbl}[Zl T][Zs T][Zt T][Zo T][Zq T][Za8 T][Zi T][Zm T][Zp T][Za7 T][Zbg T][Zih T]
def Zlo:List Rat->Rat->Rat
 | [],_=>0
 | a::l,x=>Zlo l x*x+a
def dif(l:List Rat):List Rat:=(List.range (l.length-1)).map fun(i:Nat)=>(((i:Int)+1:Int):Rat)*l.getD (i+1) 0
def Zne(l:List Fz)(i:Nat):St:=⟨[(0,.sl (Ze l) .an),(3,.bs (.loc 3) 1 3 0 i),(4,.i .i64 ((i:Int)+1))],[((.loc 3),⟨1,.own,3,Ze (fzs ((dif (l.map fv)).take i))⟩)],3⟩
end
def Zit(x:Fz):Nat:=Zbv (val x.2.1)+Zbv (val x.2.2)
def Zlu(l:List Fz):Nat:=l.foldl (fun n x=>max n (Zit x)) 0
section
variable{T:Tbl}[Za3 T][Zl T][Zs T][Zt T][Zo T][Zq T][Za8 T][Zi T][Zm T][Zp T][Zgc T][Zgd T][Zii T][Za7 T][Zbg T][Zke T]
def Zkr(b c:Rat)(i:Nat):Rat:=if i=0 then 0 else if i=1 then b else (if b<c then c else b)
def Zn5(b c:Rat)(i:Nat):St:=⟨[(2,.ptr (.loc 2) 1 3 0 0),(3,.ptr (.loc 3) 2 3 0 0),(7,.sl [Z8 (fz b),Z8 (fz c)] .an),(8,.i .i64 2),(9,.i .i64 i)],
 [(.loc 2,⟨1,.str,3,[Zdg]⟩),(.loc 3,⟨2,.str,3,[Z8 (fz (Zkr b c i))]⟩)],4⟩
def Zn6(l:List Fz)(i:Nat):St:=⟨[(2,.ptr (.loc 2) 1 3 0 0),(3,.ptr (.loc 3) 2 3 0 0),(7,.sl (Ze l) .an),(8,.i .i64 l.length),(9,.i .i64 i)],
 [(.loc 2,⟨1,.str,3,[Zdg]⟩),(.loc 3,⟨2,.str,3,[Z8 (fz (Zjo ((l.map fv).take i)))]⟩)],4⟩
def Zn7(l:List Fz)(i:Nat):St:=⟨[(3,.i .i64 (Zlu (l.take i))),(6,.sl (Ze l) .an),(7,.i .i64 l.length),(8,.i .i64 i)],[],2⟩
end
section
variable{T:Tbl}[Zaz T][Za0 T][Zan T][Za1 T][Zbe T][Zbn T][Zba T][Zbo T][Zkd T]
def Zn8(c:Rat)(p:List Rat)(i:Nat):St:=⟨[(1,.sl (Ze (fzs p)) .an),(2,.ptr (.loc 2) 1 3 0 0),(5,.bs (.loc 5) 2 3 0 i),(6,.i .i64 i)],
 [(.loc 2,⟨1,.str,3,[Z8 (fz c)]⟩),(.loc 5,⟨2,.own,3,Ze (fzs ((Zk2 c p).take i))⟩)],4⟩
def Zn9(p:List Rat)(i:Nat):St:=⟨[(0,.sl (Ze (fzs p)) .an),(2,.ptr (.loc 2) 1 3 0 0),(3,.ptr (.loc 3) 2 3 0 0),(4,.i .i64 i)],
 [(.loc 2,⟨1,.str,3,[Zdg]⟩),(.loc 3,⟨2,.str,3,[Z8 (fz (Zjo (p.take i)))]⟩)],4⟩
end
structure Ins where
 op:Int
 a:Int
 b:Int
 n:Fz
abbrev Zk4(i:Ins):List AV:=[.i .i64 i.op,.i .i64 i.a,.i .i64 i.b,.b i.n.1,.sl (Za i.n.2.1) .an,.sl (Za i.n.2.2) .an]
def Zhv(l:List Ins):List (List AV):=l.map Zk4
structure Tp where
 code:List Ins
 outs:List Int
 dim:Int
 par:Int
abbrev etp(t:Tp):AV:=.agg [.sl (Zhv t.code) .an,.sl (ints t.outs) .an,.i .i64 t.dim,.i .i64 t.par]
def Zgh(x:Fz):Bool:=decide (x=fz (fv x))
def Zj8(x:Fz):Bool:=!x.1&&x.2.1.isEmpty&&x.2.2.isEmpty
def Zgi(i:Ins):List Int:=if i.op=6\/i.op=11 then [i.a] else if 7<=i.op/\i.op<=10 then [i.a,i.b] else []
def Zeq(i m:Int):Bool:=decide (0<=i)&&decide (i<m)
def Zk5(dim par p:Int)(i:Ins):Bool:=
 if i.op=1 then decide (i.a=0)&&decide (i.b=0)&&Zgh i.n
 else Zj8 i.n&&(Zgi i).all (fun r=>Zeq r p) &&
  (if i.op=2 then decide (i.a=0)&&decide (i.b=0)
   else if i.op=3 then Zeq i.a dim&&decide (i.b=0)
   else if i.op=4 then Zeq i.a par&&decide (i.b=0)
   else if i.op=6 then decide (i.b=0)
   else if i.op=11 then decide (-8<=i.b)&&decide (i.b<=8)
   else decide ((Zgi i).length=2))
def Zhb(dim par:Int):Nat->List Ins->Int
 | _,[]=>-1
 | p,i::r=>if Zk5 dim par p i then Zhb dim par (p+1) r else p
def Zj9(t:Tp):Bool:=Zeq (t.dim-1) 6&&Zeq t.par 7&&decide ((t.outs.length:Int)=t.dim)&&decide (t.code.length<=300)
def Zka(t:Tp):Int:=
 if Zj9 t=false then -2 else if Zhb t.dim t.par 0 t.code≠-1 then Zhb t.dim t.par 0 t.code
 else if (t.outs.all fun o=>Zeq o t.code.length)=false then t.code.length else -1
def okT(t:Tp):Bool:=decide (Zka t=-1)
structure OkTp (t:Tp):Prop where
 d1:1<=t.dim
 d2:t.dim<=6
 p1:0<=t.par
 p2:t.par<=6
 ol:(t.outs.length:Int)=t.dim
 cl:t.code.length<=300
 may:∀(k:Nat) (i:Ins),t.code[k]? = some i->Zk5 t.dim t.par k i=true
 outs:∀o∈t.outs,0<=o/\o<t.code.length
structure Po where
 t:Rat
 y:List Rat
 p:List Rat
structure PoF where
 t:Fz
 y:List Fz
 p:List Fz
def PoF.v(x:PoF):Po:=⟨fv x.t,x.y.map fv,x.p.map fv⟩
def Po.f(x:Po):PoF:=⟨fz x.t,fzs x.y,fzs x.p⟩
abbrev ept(x:PoF):AV:=.agg [.b x.t.1,.sl (Za x.t.2.1) .an,.sl (Za x.t.2.2) .an,.sl (Ze x.y) .an,.sl (Ze x.p) .an]
def gI(l:List Rat)(i:Int):Rat:=l.getD i.toNat 0
def Zk6(x:Rat)(e:Int):Rat:=x^e
def Zgx(P:Po)(D:List Rat)(i:Ins):Rat×Bool:=
 if i.op=1 then (fv i.n,true)
 else if i.op=3 then (gI P.y i.a,true)
 else if i.op=4 then (gI P.p i.a,true)
 else if i.op=6 then (-gI D i.a,true)
 else if i.op=7 then (gI D i.a+gI D i.b,true)
 else if i.op=8 then (gI D i.a-gI D i.b,true)
 else if i.op=9 then (gI D i.a*gI D i.b,true)
 else if i.op=10 then (gI D i.a/gI D i.b,decide (gI D i.b≠0))
 else if i.op=11 then (if i.b<0/\gI D i.a=0 then (0,false) else (Zk6 (gI D i.a) i.b,true))
 else (P.t,true)
def Zk7(q:Rat):Nat:=Zit (fz q)
def Zhw(lim:Nat)(P:Po):List Ins->List Rat->List Rat×Nat×Nat
 | [],D=>(D,0,0)
 | i::r,D=>if (Zgx P D i).2=false then ([],3,D.length) else if lim<Zk7 (Zgx P D i).1 then ([],6,D.length) else Zhw lim P r (D++[(Zgx P D i).1])
@[simp] def z6q:Zhv []=[]:=rfl
abbrev tyI:Ty:=.cons (.int .i64) (.cons (.int .i64) (.cons (.int .i64) (.cons tyF .nil)))
abbrev tyT:Ty:=.cons (.sl tyI) (.cons (.sl (.int .i64)) (.cons (.int .i64) (.cons (.int .i64) .nil)))
abbrev tyP:Ty:=.cons tyF (.cons (.sl tyF) (.cons (.sl tyF) .nil))
class Zlf (T:Tbl):Prop where
section
variable{T:Tbl}[Za7 T][Zlf T]
def wdR(w:Wd):List AV:=[.i .i64 w.1,.s w.2.1,.i .i64 w.2.2]
def Zik(l:List Wd):List (List AV):=l.map wdR
def Zmj(s:List UInt8)(i:Nat)(acc:List Wd):St:=
 ⟨[(0,.s s),(3,.ptr (.loc 3) 1 4 0 0),(4,.bs (.loc 4) 2 3 0 acc.length),(5,.i .i64 i)],[(.loc 3,⟨1,.str,4,[[.i .i64 0,.i .i64 0,.i .i64 0,.i .i64 0]]⟩),(.loc 4,⟨2,.own,3,Zik acc⟩)],4⟩
def Zmk:Except Nat (List Wd)->Option (Ex×St)
 | .ok ws=>some (.n,⟨[(3,.ptr (.loc 3) 1 4 0 0),(4,.bs (.loc 4) 2 3 0 ws.length)],[(.loc 3,⟨1,.str,4,[[.i .i64 0,.i .i64 0,.i .i64 0,.i .i64 0]]⟩),(.loc 4,⟨2,.own,3,Zik ws⟩)],4⟩)
 | .error e=>some (.r,⟨[(2,.sl [] .an),(3,.ptr (.loc 3) 1 4 0 0)],[(.loc 3,⟨1,.str,4,[[.i .i64 1,.i .i64 0,.i .i64 0,.i .i64 e]]⟩)],3⟩)
def Zk9(r:Except Nat (List Wd)):AV:=
 match r with
 | .ok ws=>.tup [.sl (Zik ws) .an,.agg [.i .i64 0,.i .i64 0,.i .i64 0,.i .i64 0]]
 | .error e=>.tup [.sl [] .an,.agg [.i .i64 1,.i .i64 0,.i .i64 0,.i .i64 e]]
def Zml(s:List UInt8):Except Nat (List Wd):=if 4000<s.length then .error 4000 else Zjn (s.drop (Zgw false s)) (Zgw false s) []
def Zjx(k:Int)(t:List UInt8):Bool:=
 match t with
 | []=>false
 | c::r=>decide (k≠0)&&decide ((Zca c:Int)=k)&&decide (Zd1 (Zca c) r=r.length+1)&&decide (r.length+1<=Zhl (Zca c))
abbrev Wz:=Int×List UInt8×Int
def wzR(w:Wz):List AV:=[.i .i64 w.1,.s w.2.1,.i .i64 w.2.2]
def Zkm(l:List Wz):List (List AV):=l.map wzR
def Znd(l:List Wz)(i:Nat)(b:BId):St:=
 ⟨[(3,.bs (.loc 3) 1 1 0 i),(6,.sl (Zkm l) .an),(7,.i .i64 l.length),(8,.i .i64 i)],[(.loc 3,⟨1,.own,1,Za4 ((l.take i).map (·.2.1))⟩)],3⟩
end
structure Trr where
 t:Fz
 w:Fz
 h:Fz
 e:Fz
 y:List Fz
 ok:Bool
abbrev Zl3(r:Trr):List AV:=[.b r.t.1,.sl (Za r.t.2.1) .an,.sl (Za r.t.2.2) .an,.b r.w.1,.sl (Za r.w.2.1) .an,.sl (Za r.w.2.2) .an,.b r.h.1,.sl (Za r.h.2.1) .an,.sl (Za r.h.2.2) .an,.b r.e.1,.sl (Za r.e.2.1) .an,.sl (Za r.e.2.2) .an,.sl (Ze r.y) .an,.b r.ok]
def Zjl(l:List Trr):List (List AV):=l.map Zl3
structure Hs where
 l:List Trr
 t:Fz
 y:List Fz
abbrev ehs(h:Hs):AV:=.agg [.sl (Zjl h.l) .an,.b h.t.1,.sl (Za h.t.2.1) .an,.sl (Za h.t.2.2) .an,.sl (Ze h.y) .an]
def Zgg(l:List Fz):Bool:=l.all Zgh
def Trr.nums(r:Trr):List Fz:=[r.t,r.w,r.h,r.e]
def Zj0(h:Hs):Bool:=(h.l.all fun r=>Zgg r.nums&&Zgg r.y)&&(Zgh h.t&&Zgg h.y)
def Zkw(h:Hs):Bool:=(h.l.all fun r=>decide (r.y.length=h.y.length))&&(decide (1<=h.y.length)&&decide (h.y.length<=6))
def Zkx(r:Trr):Bool:=decide (0<fv r.w)&&decide (0<fv r.h)&&decide (fv r.h<=fv r.w)&&decide (0<=fv r.e)
def Zj1(h:Hs):Bool:=h.l.all Zkx
def Zky(r:Trr)(at_:Fz)(y:List Fz):Bool:=if r.ok then decide (fv at_=fv r.t+fv r.h) else decide (fv at_=fv r.t)&&decide (y.map fv=r.y.map fv)
def Zjm(l:List Trr)(t:Fz)(y:List Fz):Fz×List Fz:=match l with | []=>(t,y) | r::_=>(r.t,r.y)
def Zi0:List Trr->Fz->List Fz->Bool
 | [],_,_=>true
 | r::l,t,y=>Zky r (Zjm l t y).1 (Zjm l t y).2&&Zi0 l t y
def Zj2(h:Hs):Bool:=Zi0 h.l h.t h.y
def Zj3(h:Hs):Int:=if !Zj0 h then 1 else if !Zkw h then 2 else if 200<h.l.length then 3 else if !Zj1 h then 4 else if !Zj2 h then 5 else 0
def Zl4(h:Hs):Bool:=decide (Zj3 h=0)
def Zl5(r:Trr):Trr:=⟨fz (fv r.t),fz (fv r.w),fz (fv r.h),fz (fv r.e),nrm r.y,r.ok⟩
def Zj4(l:List Trr):List Trr:=(l.filter (·.ok)).map Zl5
def Zm3(h:Hs):List Fz:=(Zj4 h.l).map (·.t)++[fz (fv h.t)]
def Zm4(h:Hs):List (List Fz):=(Zj4 h.l).map (·.y)++[nrm h.y]
def Zog(h:Hs):List Fz:=(Zj4 h.l).map (·.h)
structure HsS (h:Hs) (B:Nat):Prop where
 len:h.l.length<=1000
 t:fsz h.t<=B
 y:∀x∈h.y,fsz x<=B
 yl:h.y.length<=1000
 rt:∀r∈h.l,∀x∈r.nums,fsz x<=B
 ry:∀r∈h.l,∀x∈r.y,fsz x<=B
 rl:∀r∈h.l,r.y.length<=1000
@[simp] def z3k:Zjl []=[]:=rfl
class Zkf (T:Tbl):Prop where
def meths1:List RV:=[.cell 1 (some 445),.cell 2 (some 444),.cell 3 (some 441),.cell 4 (some 448),.cell 5 (some 443),.cell 6 (some 447),.cell 7 (some 446),.cell 8 (some 442)]
class Zkc (T:Tbl):Prop where
class Zg6 (T:Tbl):Prop where
class Zif (T:Tbl):Prop where
class Zgq (T:Tbl):Prop where
class Zen (T:Tbl):Prop where
section
variable{T:Tbl}[Za3 T][Zl T][Zs T][Zt T][Zo T][Zq T][Zi T][Zm T][Zp T][Zen T]
def Zna(a:List UInt32)(k i:Nat):St:=⟨[(0,.sl (Za a) .an),(5,.sl (Za (ofN (val a^i))) .an),(7,.i .i64 k),(8,.i .i64 i)],[],2⟩
def Znb(q:Rat)(e:Int):Rat×Bool:=if -8<=e/\e<=8/\¬ (e<0/\q=0) then (Zk6 q e,true) else (0,false)
end
@[simp] def z6m:ints []=[]:=rfl
section
variable{T:Tbl}[Za3 T][Zl T][Zs T][Zt T][Zo T][Zq T][Zi T][Zm T][Zp T][Zen T][Zgq T]
def Zod(t:Tp)(p:Nat)(x:Ins)(i:Nat):St:=
 ⟨[(1,.i .i64 p),(2,.ptr (.loc 2) 1 4 0 0),(5,.ptr (.loc 5) 2 6 0 0),(30,.sl (ints (Zgi x)) .an),(31,.i .i64 (Zgi x).length),(32,.i .i64 i)],
  [(.loc 2,⟨1,.str,4,[[.sl (Zhv t.code) .an,.sl (ints t.outs) .an,.i .i64 t.dim,.i .i64 t.par]]⟩),(.loc 5,⟨2,.str,6,[Zk4 x]⟩)],4⟩
end
section
variable{T:Tbl}[Za3 T][Zl T][Zs T][Zt T][Zo T][Zq T][Zi T][Zm T][Zp T][Zen T][Zgq T]
structure Small (t:Tp):Prop where
 code:t.code.length<=4294967296
 outs:t.outs.length<=4294967296
 ns:∀i∈t.code,fsz i.n<=10000
 d1:-9223372036854775808<=t.dim
 d2:t.dim<9223372036854775808
def bxT(t:Tp):Box:=⟨1,.str,4,[[.sl (Zhv t.code) .an,.sl (ints t.outs) .an,.i .i64 t.dim,.i .i64 t.par]]⟩
def Zoe(t:Tp)(i:Nat):St:=⟨[(1,.ptr (.loc 1) 1 4 0 0),(11,.i .i64 t.code.length),(12,.i .i64 i)],[(.loc 1,bxT t)],3⟩
def Zof(t:Tp)(i:Nat):St:=⟨[(1,.ptr (.loc 1) 1 4 0 0),(22,.sl (ints t.outs) .an),(23,.i .i64 t.outs.length),(24,.i .i64 i)],[(.loc 1,bxT t)],3⟩
end
def Zlg(n:Int):Int:=if n<0 then 0 else if 4096<n then 4096 else n
abbrev bxG(g:Nat)(s p L:Int):Box:=⟨g,.str,3,[[.i .i64 s,.i .i64 p,.i .i64 L]]⟩
def Zkh(s:Int):Int:=IntKind.wrap .i64 (s+1)
def Zki(p:Int)(x:Fz):Int:=if p<(Zit x:Int) then (Zit x:Int) else p
section
variable{T:Tbl}[Za3 T][Zl T][Zs T][Zt T][Zo T][Zq T][Zi T][Zm T][Zp T][Zen T][Zgd T][Zii T][Zgq T][Zg6 T][Zif T]
def Znc(l:List Fz)(i:Nat):St:=⟨[(3,.bs (.loc 3) 1 3 0 i),(6,.sl (Ze l) .an),(7,.i .i64 l.length),(8,.i .i64 i)],[(.loc 3,⟨1,.own,3,Ze (nrm (l.take i))⟩)],3⟩
structure PoS (x:PoF) (B:Nat):Prop where
 t:fsz x.t<=B
 y:∀u∈x.y,fsz u<=B
 p:∀u∈x.p,fsz u<=B
 yl:x.y.length<=1000
 pl:x.p.length<=1000
end
abbrev mD:AV:=.agg [.dead]
structure PvS (P:Po) (B:Nat):Prop where
 t:sz P.t<=B
 y:∀q∈P.y,sz q<=B
 p:∀q∈P.p,sz q<=B
def Ziu(lim:Nat)(P:Po):List Ins->List Rat->Int->Int->Int×Int
 | [],_,s,p=>(s,p)
 | i::r,D,s,p=>if (Zgx P D i).2=false then (s,p) else if lim<Zk7 (Zgx P D i).1 then (Zkh s,Zki p (fz (Zgx P D i).1)) else Ziu lim P r (D++[(Zgx P D i).1]) (Zkh s) (Zki p (fz (Zgx P D i).1))
abbrev bxM:Box:=⟨3,.str,1,[[.ptr (.bor 0) 0 3 0 0]]⟩
abbrev bxP(g:Nat)(x:PoF):Box:=⟨g,.str,5,[[.b x.t.1,.sl (Za x.t.2.1) .an,.sl (Za x.t.2.2) .an,.sl (Ze x.y) .an,.sl (Ze x.p) .an]]⟩
abbrev bxF(g:Nat)(a b c d:Int):Box:=⟨g,.str,4,[[.i .i64 a,.i .i64 b,.i .i64 c,.i .i64 d]]⟩
def Zmz(Q:PoF)(L:Int)(code:List Ins)(i:Nat)(D:List Fz)(s p:Int)(kd:Kind):St:=
 ⟨[(3,.ptr (.loc 3) 3 1 0 0),(5,.ptr (.loc 5) 4 5 0 0),(7,.ptr (.loc 7) 5 4 0 0),(8,.bs (.loc 8) 6 3 0 i),(34,.sl (Zhv code) .an),(35,.i .i64 code.length),(36,.i .i64 i)],
  [(.bor 0,bxG 0 s p L),(.loc 3,bxM),(.loc 5,bxP 4 Q),(.loc 7,bxF 5 0 0 0 0),(.loc 8,⟨6,kd,3,Ze D⟩)],8⟩
def Zlv(n:Nat)(D:List Fz)(s p L:Int)(kd:Kind):Ex×St:=(.n,⟨[(7,.ptr (.loc 7) 3 4 0 0),(8,.bs (.loc 8) 4 3 0 n)],[(.bor 0,bxG 0 s p L),(.loc 7,bxF 3 0 0 0 0),(.loc 8,⟨4,kd,3,Ze D⟩)],6⟩)
def Zlw(kind at_ s p L:Int):Ex×St:=(.r,⟨[(6,.sl [] .an),(7,.ptr (.loc 7) 3 4 0 0)],[(.bor 0,bxG 0 s p L),(.loc 7,bxF 3 kind 0 0 at_)],5⟩)
section
variable{T:Tbl}[Za3 T][Zl T][Zs T][Zt T][Zo T][Zq T][Zi T][Zm T][Zp T][Zen T][Zgd T][Zii T][Zgq T][Zg6 T][Zif T][Zkf T][Zkc T]
def kdE(kd:Kind)(l:List Ins):Kind:=if l=[] then kd else .sh
def Zlx(lim:Nat)(P:Po)(code l:List Ins)(D:List Rat)(s p:Int)(kd:Kind):Ex×St:=
 if (Zhw lim P l D).2.1=0 then Zlv code.length (fzs (Zhw lim P l D).1) (Ziu lim P l D s p).1 (Ziu lim P l D s p).2 lim (kdE kd l)
 else Zlw (Zhw lim P l D).2.1 (Zhw lim P l D).2.2 (Ziu lim P l D s p).1 (Ziu lim P l D s p).2 lim
end
def Zly(t:Tp)(y p:Nat):Bool:=okT t&&decide ((y:Int)=t.dim)&&decide ((p:Int)=t.par)
def Ziv(lim:Nat)(t:Tp)(P:Po):List Rat×Nat×Nat:=if Zly t P.y.length P.p.length=true then Zhw lim P t.code [] else ([],2,0)
def Zks(t:Tp)(D:List Rat):List Rat:=t.outs.map (gI D)
def Zlz(lim:Nat)(t:Tp)(P:Po):List Rat×Nat×Nat:=if (Ziv lim t P).2.1=0 then (Zks t (Ziv lim t P).1,0,0) else ([],(Ziv lim t P).2)
structure TpS (t:Tp):Prop where
 small:Small t
 ns:∀i∈t.code,fsz i.n<=1000
abbrev Zoa(k s g a:Int):AV:=.agg [.i .i64 k,.i .i64 s,.i .i64 g,.i .i64 a]
section
variable{T:Tbl}[Za3 T][Zl T][Zs T][Zt T][Zo T][Zq T][Zi T][Zm T][Zp T][Zen T][Zgd T][Zii T][Zgq T][Zg6 T][Zif T][Zkf T][Zkc T]
def Zob(n:Int):Nat:=(Zlg n).toNat
def Zoc(D:List Fz)(outs:List Int)(E:List Fz)(i:Nat)(kd:Kind):St:=
 ⟨[(1,.sl (Ze D) .an),(5,.bs (.loc 5) 1 3 0 i),(20,.sl (ints outs) .an),(21,.i .i64 outs.length),(22,.i .i64 i)],[(.loc 5,⟨1,.own,3,Ze (E.take i)⟩)],3⟩
end
structure Sm where
 nm:List UInt8
 c:List Fz
 a:List (List Fz)
 b:List Fz
 e:List Fz
abbrev esm(s:Sm):AV:=.agg [.s s.nm,.sl (Ze s.c) .an,.sl (Z0 s.a) .an,.sl (Ze s.b) .an,.sl (Ze s.e) .an]
def Zi3:List (List Fz)->Nat->Bool
 | [],_=>true
 | r::l,i=>decide (r.length=i)&&Zi3 l (i+1)
def Zj5(s:Sm):Bool:=decide (1<=s.b.length)&&decide (s.b.length<=8)&&decide (s.c.length=s.b.length)&&decide (s.a.length=s.b.length)&&(decide (s.e.length=s.b.length) || decide (s.e.length=0))&&Zi3 s.a 0
def Zl8(x:Fz):Bool:=Zgh x&&decide (Zit x<=190)
def Zk3(m:List (List Fz)):Bool:=m.all fun r=>r.all Zl8
def sumF(l:List Fz):Rat:=l.foldl (fun s x=>s+fv x) 0
def Zj6(a:List (List Fz))(c:List Fz):Bool:=(a.zip c).all fun p=>decide (sumF p.1=fv p.2)
def Zj7(s:Sm):Int:=
 if !Zjx 2 s.nm then 1 else if !Zj5 s then 2 else if !(Zk3 s.a&&Zk3 [s.b,s.c,s.e]) then 3
 else if !Zj6 s.a s.c then 4 else if sumF s.b≠1 then 5 else if s.e≠[]/\sumF s.e≠1 then 6 else 0
def okS(s:Sm):Bool:=decide (Zj7 s=0)
structure SmS (s:Sm):Prop where
 nm:s.nm.length<=1000
 cl:s.c.length<=1000
 al:s.a.length<=1000
 bl:s.b.length<=1000
 el:s.e.length<=1000
 c:∀x∈s.c,fsz x<=300
 a:∀r∈s.a,r.length<=1000/\∀x∈r,fsz x<=300
 b:∀x∈s.b,fsz x<=300
 e:∀x∈s.e,fsz x<=300
structure Pb where
 t:Tp
 s:Sm
 p:List Fz
 bits:Int
abbrev epb(p:Pb):AV:=.agg [.sl (Zhv p.t.code) .an,.sl (ints p.t.outs) .an,.i .i64 p.t.dim,.i .i64 p.t.par,.s p.s.nm,.sl (Ze p.s.c) .an,.sl (Z0 p.s.a) .an,.sl (Ze p.s.b) .an,.sl (Ze p.s.e) .an,.sl (Ze p.p) .an,.i .i64 p.bits]
def okP(p:Pb):Bool:=okT p.t&&okS p.s&&decide ((p.p.length:Int)=p.t.par)
abbrev Zlc:Ty:=.cons .str (.cons (.sl tyF) (.cons (.sl (.sl tyF)) (.cons (.sl tyF) (.cons (.sl tyF) .nil))))
abbrev Zm7:Ty:=.cons tyT (.cons Zlc (.cons (.sl tyF) (.cons (.int .i64) .nil)))
abbrev Zld:Ty:=.cons tyF (.cons tyF (.cons tyF (.cons tyF (.cons (.sl tyF) (.cons .bool .nil)))))
abbrev Zm8:Ty:=.cons (.sl Zld) (.cons tyF (.cons (.sl tyF) .nil))
section
open Go.ChangeShapes Go.WideShapes Go.ChangeAt Go.RowKit Go.Proofs
def OkB(B:Nat):Ty->List AV->Prop
 | .int k,cs=>∃n,cs=[.i k n]/\(Lit.int k n).wf=true
 | .bool,cs=>∃b,cs=[.b b]
 | .str,cs=>∃l,cs=[.s l]/\l.length<=maxLen
 | .sl r,cs=>∃els f,cs=[.sl els f]/\els.length<=B/\(f=.nl/\els=[]\/f=.so)/\∀row∈els,OkB B r row
 | .nil,cs=>cs=[]
 | .cons a r,cs=>∃c1 c2,cs=c1++c2/\OkB B a c1/\OkB B r c2
theorem OkB.ok{B:Nat}(hB:B<=maxLen):∀{ty:Ty} {cs:List AV},OkB B ty cs->Ok ty cs
 | .int _,_,h=>h
 | .bool,_,h=>h
 | .str,_,h=>h
 | .sl _,_,⟨els,f,h1,h2,h3,h4⟩=>⟨els,f,h1,Yf h2 hB,h3,fun row hr=>OkB.ok hB (h4 row hr)⟩
 | .nil,_,h=>h
 | .cons _ _,_,⟨c1,c2,h,h1,h2⟩=>⟨c1,c2,h,OkB.ok hB h1,OkB.ok hB h2⟩
theorem OkB.len{B:Nat}:∀{ty:Ty} {cs:List AV},OkB B ty cs->cs.length=ty.z
 | .int _,_,⟨_,h,_⟩=>by rw[h];rfl
 | .bool,_,⟨_,h⟩=>by rw[h];rfl
 | .str,_,⟨_,h,_⟩=>by rw[h];rfl
 | .sl _,_,⟨_,_,h,_⟩=>by rw[h];rfl
 | .nil,_,h=>by rw[show _=[] from h];rfl
 | .cons _ _,_,⟨_,_,h,h1,h2⟩=>by rw[h,Yah,h1.len,h2.len];rfl
def Zg5(B:Nat):Bool×Ty->AV->Prop
 | (true,ty),x=>∃cs,x=.agg cs/\OkB B ty cs
 | (false,ty),x=>OkB B ty [x]
theorem Zg5.ok{B:Nat}(hB:B<=maxLen):∀{a:Bool×Ty} {x:AV},Zg5 B a x->Zh7 a x
 | (true,_),_,⟨cs,h,h1⟩=>⟨cs,h,h1.ok hB⟩
 | (false,_),_,h=>OkB.ok hB h
def Zi8(B:Nat):List (Bool×Ty)->List AV->Prop
 | [],xs=>xs=[]
 | a::r,xs=>∃x ys,xs=x::ys/\Zg5 B a x/\Zi8 B r ys
end
section
open Go.ChangeShapes Go.WideShapes Go.ChangeAt Go.RowKit Go.Proofs
def WtQ(P:Program){H:Type}(t:TypeId)(d:DataW H):Prop:=∀n∈d.weights P t,n<=reachBytes
theorem zem{H:Type}{P:Program}{e:TypeId}{d:DataW H}:∀{l:List (DataW H)},d∈l->∀n∈d.weights P e,n∈DataW.weightsAll P e l
 | [],h,_,_=>by cases h
 | x::l,h,n,hn=>by
  simp only[DataW.weightsAll,Yan];rcases Yv.1 h with rfl | h
  ·exact .inl hn
  ·exact .inr (zem h n hn)
def Zed(P:Program):Bool:=(List.range P.types.size).all fun t=>match P.underlying t with
 | some (.slice e)=>decide (e<P.types.size)&&(decide (P.cellsOf e=0) || decide (0<P.bytesOf e))
 | some (.struct fs)=>fs.toList.all fun f=>decide (f.type<P.types.size)
 | some (.array _ e)=>decide (e<P.types.size)
 | _=>true
def WtI(P:Program){H:Type}(t:TypeId)(d:DataW H):Prop:=t<P.types.size/\WtQ P t d
def WtI.slice{H:Type}{P:Program}(hty:Zed P=true)(t e:TypeId)(elems spare:List (DataW H))(hu:P.underlying t=some (.slice e))(hc:0<P.cellsOf e)(h:WtI P t (.slice elems spare)) :
  elems.length<=reachBytes/\∀d∈elems,WtI P e d:=by
 obtain⟨ht,h⟩:=h;have h0:=Yi.1 hty t (Ydc.2 ht);rw[hu]at h0;simp only[Yk,Ybm,decide_eq_true_eq]at h0;have hb:0<P.bytesOf e:=by omega
 refine⟨?_,fun d hd=>⟨h0.1,fun n hn=>h n ?_⟩⟩
 ·have h1:=h ((elems.length+spare.length)*P.bytesOf e) (by simp[DataW.weights,hu]);have h2:=Yb9 (elems.length+spare.length) hb;omega
 ·simp only[DataW.weights,hu];exact Yh _ (Yq _ (zem hd n hn))
def WtI.struct{H:Type}{P:Program}(hty:Zed P=true)(t:TypeId) fs (parts:List (DataW H)) (hu:P.underlying t=some (.struct fs)) (h:WtI P t (.agg parts)) (i:Nat) (f:Field) (d:DataW H) (hf:fs.toList[i]? = some f) (hd:parts[i]? = some d):WtI P f.type d:=by
 obtain⟨ht,h⟩:=h;have h0:=Yi.1 hty t (Ydc.2 ht);rw[hu]at h0;refine⟨of_decide_eq_true (Yi.1 h0 f (Yd hf)),fun n hn=>h n ?_⟩;simp only[DataW.weights,hu];exact DataW.weights_mem_each (j:=i) (by rw[Yaf,hf];rfl) hd n hn
def WtI.array{H:Type}{P:Program}(hty:Zed P=true)(t:TypeId) k (e:TypeId) (parts:List (DataW H)) (hu:P.underlying t=some (.array k e)) (h:WtI P t (.agg parts)) (d:DataW H) (hd:d∈parts):WtI P e d:=by
 obtain⟨ht,h⟩:=h;have h0:=Yi.1 hty t (Ydc.2 ht);rw[hu]at h0;refine⟨of_decide_eq_true h0,fun n hn=>h n ?_⟩;simp only[DataW.weights,hu];exact zem hd n hn
end
section
open Go.ChangeShapes Go.WideShapes Go.ChangeAt Go.RowKit Go.Proofs
def Zle(B:Nat):AV->Prop
 | .agg cs=>∀els f,AV.sl els f∈cs->els.length<=B
 | _=>True
section
variable{H:Type}{enc:TypeId×Value->H}{P:Program}{w:World}{base:Nat}{held:Bool}{S:Nat->Nat->Prop}{bk:DataW H->Nat}
def SlB(B:Nat)(cs:List Value):Prop:=∀v∈cs,∀a len cap,v=Value.slice a len cap->len<=B
end
def zoy{cs:List AV}{B:Nat}(h:Ok (.sl tyF) cs)(hs:∀els f,AV.sl els f∈cs->els.length<=B):∃l:List Fz,wkR cs=[.sl (Ze l) .an]/\l.length<=B:=by
 obtain⟨els,f,rfl,hm,_,he⟩:=h;obtain⟨l,hl⟩:=zkw els he;refine⟨l,by simp[wkR,wkA,hl],?_⟩;have:=congrArg List.length hl;rw[zgv,zhn]at this;have:=hs els f (List.mem_singleton.2 rfl);omega
end
section
open Go.ChangeShapes Go.WideShapes Go.ChangeAt Go.RowKit Go.Proofs
def Zgo(z:Nat):Nat:=if z=3 then 2513169434915 else reachBytes
def OkZ(B:Nat->Nat):Ty->List AV->Prop
 | .int k,cs=>∃n,cs=[.i k n]/\(Lit.int k n).wf=true
 | .bool,cs=>∃b,cs=[.b b]
 | .str,cs=>∃l,cs=[.s l]/\l.length<=maxLen
 | .sl r,cs=>∃els f,cs=[.sl els f]/\els.length<=B r.z/\(f=.nl/\els=[]\/f=.so)/\∀row∈els,OkZ B r row
 | .nil,cs=>cs=[]
 | .cons a r,cs=>∃c1 c2,cs=c1++c2/\OkZ B a c1/\OkZ B r c2
theorem OkZ.ok{B:Nat->Nat}(hB:∀z,B z<=maxLen):∀{ty:Ty} {cs:List AV},OkZ B ty cs->Ok ty cs
 | .int _,_,h=>h
 | .bool,_,h=>h
 | .str,_,h=>h
 | .sl _,_,⟨els,f,h1,h2,h3,h4⟩=>⟨els,f,h1,Yf h2 (hB _),h3,fun row hr=>OkZ.ok hB (h4 row hr)⟩
 | .nil,_,h=>h
 | .cons _ _,_,⟨c1,c2,h,h1,h2⟩=>⟨c1,c2,h,OkZ.ok hB h1,OkZ.ok hB h2⟩
theorem OkZ.len{B:Nat->Nat}:∀{ty:Ty} {cs:List AV},OkZ B ty cs->cs.length=ty.z
 | .int _,_,⟨_,h,_⟩=>by rw[h];rfl
 | .bool,_,⟨_,h⟩=>by rw[h];rfl
 | .str,_,⟨_,h,_⟩=>by rw[h];rfl
 | .sl _,_,⟨_,_,h,_⟩=>by rw[h];rfl
 | .nil,_,h=>by rw[show _=[] from h];rfl
 | .cons _ _,_,⟨_,_,h,h1,h2⟩=>by rw[h,Yah,h1.len,h2.len];rfl
def Zem(B:Nat->Nat):Bool×Ty->AV->Prop
 | (true,ty),x=>∃cs,x=.agg cs/\OkZ B ty cs
 | (false,ty),x=>OkZ B ty [x]
theorem Zem.ok{B:Nat->Nat}(hB:∀z,B z<=maxLen):∀{a:Bool×Ty} {x:AV},Zem B a x->Zh7 a x
 | (true,_),_,⟨cs,h,h1⟩=>⟨cs,h,h1.ok hB⟩
 | (false,_),_,h=>OkZ.ok hB h
def Ze6(B:Nat->Nat):List (Bool×Ty)->List AV->Prop
 | [],xs=>xs=[]
 | a::r,xs=>∃x ys,xs=x::ys/\Zem B a x/\Ze6 B r ys
section
variable{H:Type}{enc:TypeId×Value->H}{P:Program}{w:World}{base:Nat}{held:Bool}{S:Nat->Nat->Prop}
theorem zfq{Q:TypeId->DataW H->Prop}{B:Nat->Nat}{n:Nat}{g:TypeId->Option Ty}{cs:List Value}
  (ih:∀t cs x ty,DataW.trod enc P w base (fun _=>true) held n t cs=some x->g t=some ty->Zdv S x.2->Q t x.1->∃xs,OkZ B ty xs/\Zcc w S cs xs) :
  ∀(fs:List Field) (off:Nat) (ty:Ty) (ys:List (DataW H×List MemPlace)),
   ys.length=fs.length->(∀(i:Nat) (f:Field),fs[i]? = some f->DataW.trod enc P w base (fun _=>true) held n f.type ((cs.drop f.offset).take (P.cellsOf f.type))=ys[i]?) ->
   Zea P g cs.length off fs=some ty->Zdv S (ys.flatMap (·.2))->(∀(i:Nat) (f:Field) y,fs[i]? = some f->ys[i]? = some y->Q f.type y.1)->∃xs,OkZ B ty xs/\Zcc w S (cs.drop off) xs
 | [],off,ty,ys,hl,hm,ht,hp,hB=>by
  simp only[Zea]at ht;split at ht<;>cases ht;rename_i ho;exact⟨[],rfl,by rw[ho,Ybe];exact Zcc.nil⟩
 | f::fs,off,ty,[],hl,hm,ht,hp,hB=>by grind
 | f::fs,off,ty,y::ys1,hl,hm,ht,hp,hB=>by
  obtain⟨a,ha,ht1⟩:=bind_some ht;split at ht1
  ·rename_i hc;obtain⟨ho,hz⟩:=hc;obtain⟨r,hr,rfl⟩:=map_some ht1;have hy:=hm 0 f rfl;rw[ho,<-hz]at hy;obtain⟨xs1,ho1,hr1⟩:=ih _ _ _ _ hy ha (fun k o h=>hp k o (by grind)) (hB 0 f y rfl rfl);obtain⟨xs2,ho2,hr2⟩:=zfq ih fs _ r ys1 (by grind) (fun i f' hf=>by simpa using hm (i+1) f' (by grind)) hr (fun k o h=>hp k o (by
    grind)) fun i f' z h1 h2=>hB (i+1) f' z (by simpa using h1) (by simpa using h2)
   refine⟨xs1++xs2,⟨xs1,xs2,rfl,ho1,ho2⟩,?_⟩;have e:cs.drop off=(cs.drop off).take a.z++cs.drop (off+a.z):=by rw[<-Ydw,Ya0]
   rw[e];exact hr1.append hr2
  grind
theorem zg8{Q:TypeId->DataW H->Prop}{B:Nat->Nat}{n:Nat}{e:TypeId}{r:Ty}(ih:∀cs x,DataW.trod enc P w base (fun _=>true) held n e cs=some x->Zdv S x.2->Q e x.1->∃xs,OkZ B r xs/\Zcc w S cs xs) :
  ∀(k:Nat) (cs:List Value) (ys:List (DataW H×List MemPlace)),ys.length=k->cs.length=k*r.z ->
   (∀(i:Nat),i<k->DataW.trod enc P w base (fun _=>true) held n e ((cs.drop (i*r.z)).take r.z)=ys[i]?)->Zdv S (ys.flatMap (·.2))->(∀y∈ys,Q e y.1)->∃xs,OkZ B (Zh5 k r) xs/\Zcc w S cs xs
 | 0,cs,ys,hl,hc,hm,hp,hB=>by
  rw[Ych,List.length_eq_zero_iff]at hc;subst hc;exact⟨[],rfl,Zcc.nil⟩
 | k+1,cs,[],hl,hc,hm,hp,hB=>by grind
 | k+1,cs,y::ys,hl,hc,hm,hp,hB=>by
  have hy:=hm 0 (by omega);rw[Ych,Ycg]at hy;obtain⟨xs1,ho1,hr1⟩:=ih _ _ hy (fun k o h=>hp k o (by grind)) (hB y Yp);obtain⟨xs2,ho2,hr2⟩:=zg8 ih k (cs.drop r.z) ys (by grind) (by grind) (fun i hi=>by
   grind[List.drop_drop]) (fun k o h=>hp k o (by
    grind)) fun z hz=>hB z (Yh _ hz)
  refine⟨xs1++xs2,⟨xs1,xs2,rfl,ho1,ho2⟩,?_⟩;have e:cs=cs.take r.z++cs.drop r.z:=(Ya0 ..).symm;rw[e];exact hr1.append hr2
theorem zd9{Q:TypeId->DataW H->Prop}{B:Nat->Nat}(hQs:∀(t e:TypeId) (elems spare:List (DataW H)),P.underlying t=some (.slice e)->0<P.cellsOf e->Q t (.slice elems spare)->elems.length<=B (P.cellsOf e)/\∀d∈elems,Q e d)(hQf:∀(t:TypeId) fs (parts:List (DataW H)),P.underlying t=some (.struct fs)->Q t (.agg parts)->∀(i:Nat) (f:Field) d,fs.toList[i]? = some f->parts[i]? = some d->Q f.type d)(hQa:∀(t:TypeId) k (e:TypeId) (parts:List (DataW H)),P.underlying t=some (.array k e)->Q t (.agg parts)->∀d∈parts,Q e d):∀(n m:Nat) (t:TypeId) (cs:List Value) (x:DataW H×List MemPlace) (ty:Ty),
  DataW.trod enc P w base (fun _=>true) held n t cs=some x->Ze0 P m t=some ty->Zdv S x.2->Q t x.1->∃xs,OkZ B ty xs/\Zcc w S cs xs
 | 0,_,_,_,_,_,h,_,_,_=>by simp[DataW.trod]at h
 | n+1,0,_,_,_,_,_,ht,_,_=>by simp[Ze0]at ht
 | n+1,m+1,t,cs,x,ty,h,ht,hp,hB=>by
  simp only[Ze0]at ht;split at ht
  ·rename_i hu;cases ht;obtain⟨b,rfl,rfl⟩:=DataW.trod_bool hu h;exact⟨[.b b],⟨b,rfl⟩,Zcc.one (.b b) rfl⟩
  ·rename_i k hu;cases ht;obtain⟨z,rfl,rfl,hw⟩:=DataW.trod_int hu h;exact⟨[.i k z],⟨z,rfl,hw⟩,Zcc.one (.i k z) rfl⟩
  ·rename_i hu;cases ht;obtain⟨s,rfl,rfl,hs⟩:=DataW.trod_string hu h;exact⟨[.s s.data.toList],⟨_,rfl,by simp_all⟩,Zcc.one (.s s.data.toList) rfl⟩
  ·rename_i e hu;obtain⟨r,hr,ht1⟩:=bind_some ht;split at ht1
   ·rename_i hz;cases ht1;obtain⟨hz,hzp⟩:=hz;rcases DataW.trod_slice hu h with ⟨rfl,rfl⟩ | ⟨a,len,cap,elems,rest,n',hn',rfl,rfl,hb,hl,hmx,hlen,hel,hsp,hns⟩
    ·exact⟨[.sl [] .nl],⟨[],.nl,rfl,Y5 _,.inl ⟨rfl,rfl⟩,fun row h=>by grind⟩,Zcc.one (.slnil _ (.inl rfl)) rfl⟩
    ·obtain⟨hrl,hrest⟩:=hsp rfl;obtain⟨hlB0,helB⟩:=hQs t e (elems.map (·.1)) (rest.map (·.1)) hu (by omega) hB;have hlB:len<=B r.z:=by
      rw[hz];rw[Yad]at hlB0;omega
     have hallE:∀i,i<len->∃y cs',y∈elems/\w.cells? base (a.add (i*P.cellsOf e)) (P.cellsOf e)=some cs'/\DataW.trod enc P w base (fun _=>true) held n e cs'=some y:=by
      intro i hil;have h1:=hel i hil;rw[Ya (by omega)]at h1;obtain⟨cs',h2,h3⟩:=bind_some h1
      grind
     have hall:∀i,i<cap->∃y cs',y∈elems++rest/\w.cells? base (a.add (i*P.cellsOf e)) (P.cellsOf e)=some cs'/\DataW.trod enc P w base (fun _=>true) held n e cs'=some y:=by
      intro i hi;by_cases hil:i<len
      ·have h1:=hel i hil;rw[Ya (by omega)]at h1;obtain⟨cs',h2,h3⟩:=bind_some h1
       grind
      ·have h1:=hrest (i-len) (by omega);rw[Ya (by omega),show len+(i-len)=i by omega]at h1;obtain⟨cs',h2,h3⟩:=bind_some h1
       grind
     by_cases hcap:cap=0
     ·have hl0:len=0:=by omega
      subst hcap;subst hl0;exact⟨[.sl [] .so],⟨[],.so,rfl,Y5 _,.inr rfl,fun row h=>by grind⟩,Zcc.one (.slz a _ (.inl rfl)) rfl⟩
     ·have hspot:a.spot=none:=by
       obtain⟨y,cs',_,h2,_⟩:=hall 0 (by omega);have h3:=znb h2 0 (by omega)
       grind[World.cells?_some,zqi,Addr.add]
      obtain⟨blk,off,sp⟩:=a;have hrows:∀i,i<len->∃xs,OkZ B r xs/\∃cs',w.cells? base ((⟨blk,off,none⟩:Addr).add (i*P.cellsOf e)) (P.cellsOf e)=some cs'/\Zcc w S cs' xs:=by
       intro i hi;obtain⟨y,cs',hyE,h2,h3⟩:=hallE i hi;have hy:y∈elems++rest:=Yq _ hyE;obtain⟨xs,ho,hrc⟩:=zd9 hQs hQf hQa n m e cs' y r h3 hr (fun k o hk=>hp k o (by
        grind)) (helB y.1 (List.mem_map_of_mem hyE))
       grind
      obtain⟨els,hels,hq⟩:=zqh len hrows;refine⟨[.sl els .so],⟨els,.so,rfl,by omega,.inr rfl,fun row hrow=>?_⟩,Zcc.one ?_ rfl⟩
      ·grind[List.getElem?_of_mem]
      ·have hcell:∀i j,i<els.length->j<r.z->∃v,w.cell? ⟨blk,off+i*r.z+j,none⟩=some v/\v.oneCell'=true/\∀row c,els[i]? = some row->row[j]? = some c->CP w S v c:=by
        intro i j hi hj;obtain⟨ho,cs',h2,hrc⟩:=hq i _ (Ya hi);have h3:=znb h2 j (by omega);have h4:=(World.cells?_some h2).2.1;rw[za4,za4,<-hz,Ya (by omega)]at h3;have hlr:=ho.len;have h5:=hrc.2 j _ _ (Ya (by omega)) (Ya (by omega))
        grind
       have hS:∀i j,i<els.length->j<r.z->S blk (off+i*r.z+j):=by
        intro i j hi hj;refine hp _ _ ?_;rw[Yan];left;unfold MemPlace.row;rw[Yw];refine⟨i*r.z+j,?_,by rw[Yaj]⟩;have h1:(i+1)*r.z<=(elems.length+rest.length)*r.z:=Yz _ (by omega)
        grind
       have:=CP.sl (w:=w) (S:=S) blk off r.z cap els .so (fun i j=>(w.cell? ⟨blk,off+i*r.z+j,none⟩).getD undef) (by simp) (by simp) (by omega) hmx
        (fun i row hrow=>(hq i row hrow).1.len) (fun i j hi hj=>?_) (fun i row j c hrow hc=>?_)
       ·grind
       ·grind
       ·have hi:=(Ys.1 hrow).1;have hj:=(Ys.1 hc).1;rw[(hq i row hrow).1.len]at hj
        grind
   grind
  ·rename_i fs hu;obtain⟨xs,n',hn',rfl,hcl,hxl,hx⟩:=DataW.trod_struct hu h;cases hn';rw[<-hcl]at ht;have:=zfq (S:=S) (g:=Ze0 P m) (cs:=cs) (n:=n) (Q:=Q) (B:=B) (fun t cs x ty h1 h2 h3 h4=>zd9 hQs hQf hQa n m t cs x ty h1 h2 h3 h4) fs.toList 0 ty xs (by omega) (fun i f hf=>hx i f (by grind)) ht hp (fun i f y hf hy=>hQf t _ _ hu hB i f y.1 hf (by rw[Yaf,hy];rfl))
   grind
  ·rename_i k e hu;obtain⟨r,hr,ht1⟩:=bind_some ht;split at ht1
   ·rename_i hz;cases ht1;obtain⟨hz,hzt⟩:=hz;obtain⟨xs,n',hn',rfl,hcl,hxl,hx⟩:=DataW.trod_array hu h;cases hn';rw[<-hz]at hx;exact zg8 (Q:=Q) (B:=B) (S:=S) (n:=n) (e:=e) (r:=r) (fun cs x h1 h3 h4=>zd9 hQs hQf hQa n m e cs x r h1 hr h3 h4) k cs xs hxl (by omega) hx hp (fun y hy=>hQa t _ _ _ hu hB y.1 (List.mem_map_of_mem hy))
   grind
  grind
end
section
variable{H:Type}{enc:TypeId×Value->H}{P:Program}{w:World}{S:Nat->Nat->Prop}
def zrv{Q:TypeId->DataW H->Prop}{B:Nat->Nat}(hQs:∀(t e:TypeId) (elems spare:List (DataW H)),P.underlying t=some (.slice e)->0<P.cellsOf e->Q t (.slice elems spare)->elems.length<=B (P.cellsOf e)/\∀d∈elems,Q e d)(hQf:∀(t:TypeId) fs (parts:List (DataW H)),P.underlying t=some (.struct fs)->Q t (.agg parts)->∀(i:Nat) (f:Field) d,fs.toList[i]? = some f->parts[i]? = some d->Q f.type d)(hQa:∀(t:TypeId) k (e:TypeId) (parts:List (DataW H)),P.underlying t=some (.array k e)->Q t (.agg parts)->∀d∈parts,Q e d){m:Nat}{t:TypeId}{v:Value}{d:DataW H}{p:List MemPlace}{ty:Ty}{base:Nat}(hA:DataW.Trod enc P w 0 (fun _=>true) true t v d p)(hT:Ze0 P m t=some ty)
  (hval:Value.okWide P w .any base t v) (hp:Zdv S p) (hB:Q t d):∃x,Zem B (isAgg P t,ty) x/\CP w S v x:=by
 obtain⟨fuel,hf⟩:=hA;obtain⟨xs,ho,hrc⟩:=zd9 (S:=S) (B:=B) hQs hQf hQa fuel m t _ _ ty hf hT hp hB;have hlen:=ho.len;cases hu:P.underlying t with
 | none=>cases m<;>simp[Ze0,hu]at hT
 | some desc=>
  have one:∀(hag:isAgg P t=false) (hz:ty.z=1) (hv:v.cells=#[v]),∃x,Zem B (isAgg P t,ty) x/\CP w S v x:=by
   intro hag hz hv;rw[hag]
   match xs,hlen with
   | [x],_=>
    refine⟨x,ho,?_⟩;have:=hrc.2 0 v x (by grind) rfl
    grind
   | [],h=>grind
   | _::_::_,h=>grind
  cases m with
  | zero=>simp[Ze0]at hT
  | succ m=>
  cases desc<;>simp only[Ze0,hu]at hT<;>try (cases hT;done)
  case struct fs=>
   have hag:isAgg P t=true:=by simp[isAgg,hu]
   rw[hag];unfold Value.okWide at hval;rw[hu]at hval;obtain⟨cs,rfl,hcs,_⟩:=hval;refine⟨.agg xs,⟨xs,rfl,ho⟩,.agg cs xs ?_ ?_ ?_⟩
   ·have:=hrc.1;simpa[Value.cells]using this.symm
   ·intro j u hu;have hl:=hrc.1;have hj:j<cs.size:=(Yas.1 hu).1;have hj':j<xs.length:=by rw[hl];simpa[Value.cells]using hj
    exact(hrc.2 j u _ (by simpa[Value.cells]using hu) (Ya hj')).2
   ·intro j u c hu hc;exact(hrc.2 j u c (by simpa[Value.cells]using hu) hc).1
  case array k e=>
   have hag:isAgg P t=true:=by simp[isAgg,hu]
   rw[hag];unfold Value.okWide at hval;rw[hu]at hval;obtain⟨cs,rfl,hcs,_⟩:=hval;refine⟨.agg xs,⟨xs,rfl,ho⟩,.agg cs xs ?_ ?_ ?_⟩
   ·have:=hrc.1;simpa[Value.cells]using this.symm
   ·intro j u hu;have hl:=hrc.1;have hj:j<cs.size:=(Yas.1 hu).1;have hj':j<xs.length:=by rw[hl];simpa[Value.cells]using hj
    exact(hrc.2 j u _ (by simpa[Value.cells]using hu) (Ya hj')).2
   ·intro j u c hu hc;exact(hrc.2 j u c (by simpa[Value.cells]using hu) hc).1
  case bool=>
   cases hT;unfold Value.okWide Cell.okWide Cell.ok at hval;refine one (by simp[isAgg,hu]) rfl ?_;cases v<;>first | rfl | grind
  case int k=>
   cases hT;unfold Value.okWide Cell.okWide Cell.ok at hval;rw[hu]at hval;refine one (by simp[isAgg,hu]) rfl ?_;cases v<;>first | rfl | grind
  case string=>
   cases hT;unfold Value.okWide Cell.okWide Cell.ok at hval;rw[hu]at hval;refine one (by simp[isAgg,hu]) rfl ?_;cases v<;>first | rfl | grind
  case slice e=>
   obtain⟨r,hr,ht1⟩:=bind_some hT;split at ht1<;>cases ht1;unfold Value.okWide Cell.okWide Cell.ok at hval;rw[hu]at hval;refine one (by simp[isAgg,hu]) rfl ?_;cases v<;>first | rfl | grind
theorem zif{Q:TypeId->DataW H->Prop}{B:Nat->Nat}(hQs:∀(t e:TypeId) (elems spare:List (DataW H)),P.underlying t=some (.slice e)->0<P.cellsOf e->Q t (.slice elems spare)->elems.length<=B (P.cellsOf e)/\∀d∈elems,Q e d)(hQf:∀(t:TypeId) fs (parts:List (DataW H)),P.underlying t=some (.struct fs)->Q t (.agg parts)->∀(i:Nat) (f:Field) d,fs.toList[i]? = some f->parts[i]? = some d->Q f.type d)(hQa:∀(t:TypeId) k (e:TypeId) (parts:List (DataW H)),P.underlying t=some (.array k e)->Q t (.agg parts)->∀d∈parts,Q e d){m base:Nat} :
  ∀(ts:List TypeId) (vs:List Value) (ds:List (DataW H)) (p:List MemPlace) (tys:List (Bool×Ty)),DataW.TrodAll enc P w 0 (fun _=>true) true ts vs ds p->Zh6 P m ts=some tys ->
  (∀(j:Nat) t v,ts[j]? = some t->vs[j]? = some v->Value.okWide P w .any base t v)->Zdv S p->(∀(j:Nat) t d,ts[j]? = some t->ds[j]? = some d->Q t d) ->
  ∃xs,Ze6 B tys xs/\vs.length=xs.length/\∀(j:Nat) (v:Value) (c:AV),vs[j]? = some v->xs[j]? = some c->CP w S v c
 | [],vs,ds,p,tys,hA,hT,hval,hp,hB=>by
  obtain⟨rfl,_,_⟩:=trodAll_nil hA;cases hT;exact⟨[],rfl,rfl,fun j v c h=>by simp at h⟩
 | t::ts,vs,ds,p,tys,hA,hT,hval,hp,hB=>by
  obtain⟨v,vs1,d,ds1,a,b,rfl,rfl,rfl,h1,h2⟩:=trodAll_cons hA;obtain⟨ty,hty,hT1⟩:=bind_some hT;obtain⟨r,hr,rfl⟩:=map_some hT1;obtain⟨x,hx,hC⟩:=zrv (S:=S) (B:=B) hQs hQf hQa h1 hty (hval 0 t v rfl rfl) (fun k o h=>hp k o (Yq _ h)) (hB 0 t d rfl rfl);obtain⟨xs,ho,hl,hc⟩:=zif hQs hQf hQa (m:=m) (base:=base) ts vs1 ds1 b r h2 hr (fun j t v ht hv=>hval (j+1) t v (by simpa using ht) (by simpa using hv)) (fun k o h=>hp k o (Ym _ h)) fun j t d ht hd=>hB (j+1) t d (by simpa using ht) (by simpa using hd);refine⟨x::xs,⟨x,xs,rfl,hx,ho⟩,by simp[hl],fun j u c hu hcc=>?_⟩;cases j with
  | zero=>simp at hu hcc;subst hu;subst hcc;exact hC
  | succ j=>exact hc j u c (by simpa using hu) (by simpa using hcc)
def zrw{Q:TypeId->DataW H->Prop}{B:Nat->Nat}(hQs:∀(t e:TypeId) (elems spare:List (DataW H)),P.underlying t=some (.slice e)->0<P.cellsOf e->Q t (.slice elems spare)->elems.length<=B (P.cellsOf e)/\∀d∈elems,Q e d)(hQf:∀(t:TypeId) fs (parts:List (DataW H)),P.underlying t=some (.struct fs)->Q t (.agg parts)->∀(i:Nat) (f:Field) d,fs.toList[i]? = some f->parts[i]? = some d->Q f.type d)(hQa:∀(t:TypeId) k (e:TypeId) (parts:List (DataW H)),P.underlying t=some (.array k e)->Q t (.agg parts)->∀d∈parts,Q e d)
  {f:FuncId} {fn:Func} {s:ChangeSpec} {m tb:Nat} {tys:List (Bool×Ty)} {fresh handsOn again:Bool} (hvars:s.vars=[]) (hT:Zh6 P m fn.params.toList=some tys) (hl:laidOutB P=true)
  (hread:(fn.params.toList.all fun t=>P.readableRec t&&decide (t<P.types.size))=true) (hr:fn.resultTypes=#[tb]) (hb:P.underlying tb=some .bool)
  (hfn:∀ds:List (DataW H),ds.length=fn.params.toList.length->s.fn H ds={ results:=[.lit (.bool true)],args:=ds })
  (hcall:∀xs,Ze6 B tys xs->Z9 P f xs (·=.b true)) {W:World} {args:Array Value} {ds gs:List (DataW H)} {before:List MemPlace} {base:Nat}
  (hval:∀(j:Nat) t v,fn.params[j]? = some t->args[j]? = some v->Value.okWide P W .any base t v) (hW:DataW.Whole enc P fn.params.toList s.vars false W args.toList ds gs before) (hB:∀(j:Nat) t d,fn.params.toList[j]? = some t->ds[j]? = some d->Q t d) :
  Calls P f args W fun e W'=>∃v,e=.returned v/\s.post enc P fn false fresh handsOn again W args v W':=by
 have hW':=hW;obtain⟨p,q,hA,hV,rfl,hfz,hnd⟩:=hW;rw[hvars]at hV;obtain⟨rfl,rfl⟩:=trodVars_none hV;have hlt:∀x∈p,x.block<W.heap.size:=fun x hx=>hW'.lt x (Yq _ hx);obtain⟨xs,ho,hlen,hC⟩:=zif hQs hQf hQa (S:=fun k o=>MemPlace.cell k o∈p) _ _ _ _ _ hA hT (fun j t v ht hv=>hval j t v (by simpa using ht) (by simpa using hv)) (fun k o h=>h) hB;have hc:=(hcall xs ho).2 W (fun k o=>MemPlace.cell k o∈p) args (by simpa using hlen) (fun j v c hv hc=>hC j v c (by simpa using hv) hc) (fun k o h=>hlt _ h);refine hc.mono fun e W' ⟨v,r,he,hrr,hbel,hCr⟩=>?_;subst he hrr;have hv:v=.bool true:=by cases hCr;rfl
 subst hv;have hlf:=hfn ds (zqj _ _ _ _ hA);refine⟨_,rfl,ziu (pa:=p) (pv:=[]) hW' (fun b sp hd=>?_) (fun sp hsp=>?_) (fun sp _=>?_) rfl hbel (ok_one hr rfl (okWide_bool_mk hb _))⟩
 ·rw[Ya3,hlf,hr];exact trodAll_mk1 (shut_bool hb _)
 ·rw[Ya3,hlf];exact znc hl hbel _ _ _ _ hread hA hlt fun x hx=>hsp x (Yq _ hx)
 ·rw[Ya3,hlf,hvars];exact rfl
end
def Zgp(P:Program):Bool:=(List.range P.types.size).all fun t=>match P.underlying t with
 | some (.slice e)=>decide (P.cellsOf e≠3) || decide (56<=P.bytesOf e)
 | _=>true
def WtI.sliceZ{H:Type}{P:Program}(hty:Zed P=true)(h3:Zgp P=true)(t e:TypeId)(elems spare:List (DataW H))(hu:P.underlying t=some (.slice e))(hc:0<P.cellsOf e)(h:WtI P t (.slice elems spare)) :
  elems.length<=Zgo (P.cellsOf e)/\∀d∈elems,WtI P e d:=by
 have h0:=WtI.slice hty t e elems spare hu hc h;refine⟨?_,h0.2⟩;unfold Zgo;split
 ·next hz=>
  have h1:=Yi.1 h3 t (Ydc.2 h.1);rw[hu]at h1;simp only[Ybm,decide_eq_true_eq]at h1;have h2:=h.2 ((elems.length+spare.length)*P.bytesOf e) (by simp[DataW.weights,hu]);have h4:56<=P.bytesOf e:=h1.resolve_left (fun hh=>hh hz);have h5:(elems.length+spare.length)*56<=(elems.length+spare.length)*P.bytesOf e:=Yam _ h4;have h6:reachBytes=140737488351232:=by decide
  omega
 ·exact h0.1
def zi4(z:Nat):Zgo z<=maxLen:=by
 unfold Zgo;split<;>decide
def zrx{x:AV}(h:Zem Zgo (true,tyS) x):∃(t h:Fz) (y0 y1 f0 f1:List Fz),wkA x=agS t h y0 y1 f0 f1/\∀r∈[y0,y1,f0,f1],r.length<=2513169434915:=by
 have key:∀{c:List AV},OkZ Zgo (.sl tyF) c->∃y:List Fz,wkR c=[.sl (Ze y) .an]/\y.length<=2513169434915:=fun {c} h=>by
  have h0:=h.ok zi4;obtain⟨els,f,rfl,hl,_⟩:=h;exact zoy h0 fun els' f' hm=>by
   cases List.mem_singleton.1 hm;exact hl
 obtain⟨cs,rfl,c1,c1',rfl,h1,c2,c2',rfl,h2,c3,c3',rfl,h3,c4,c4',rfl,h4,c5,c5',rfl,h5,c6,c6',rfl,h6,rfl⟩:=h;obtain⟨t,e1⟩:=zry (h1.ok zi4);obtain⟨hh,e2⟩:=zry (h2.ok zi4);obtain⟨y0,e3,l3⟩:=key h3;obtain⟨y1,e4,l4⟩:=key h4;obtain⟨f0,e5,l5⟩:=key h5;obtain⟨f1,e6,l6⟩:=key h6;refine⟨t,hh,y0,y1,f0,f1,?_,?_⟩
 ·rw[wkA];simp only[zox,e1,e2,e3,e4,e5,e6]
  rfl
 ·intro r hr;simp only[Yv,Ydl,or_false]at hr;rcases hr with rfl | rfl | rfl | rfl<;>assumption
end
end Go.Ab
section
namespace Go.Proofs.YtfdblmomnikehaaDoor
open Go Go.Ab Go.ChangeShapes Go.WideShapes Go.ChangeAt Go.RowKit
def Tryd.own:ownKnob Tryd.prog.godebug=none:=by kernel_rfl
def Tryd.laidOut:laidOutB Tryd.prog=true:=by kernel_rfl
def Tryd.mixed:Tryd.prog.follows .mixedOrders=true:=by kernel_rfl
def Tryd.rowed:mapsRowed Tryd.prog=true:=by kernel_rfl
def Tryd.heard:Tryd.prog.stopsHeard=true:=by kernel_rfl
def Tryd.enters:Tryd.prog.mayEnter=true:=by kernel_rfl
def Tryd.keys:Tryd.prog.plainKeys=Rows.spanEndsRow.plainKeys:=by kernel_rfl
def Tryd.lifts:Tryd.prog.liftsFinal=Rows.spanEndsRow.lifted:=by kernel_rfl
def Tryd.makes:Tryd.prog.make=some Rows.spanEndsRow.make:=by kernel_rfl
def laid2:List (String×DataW Unit):=[("unicode/utf8.acceptRanges",Rows.laid_unicode_utf8_acceptRanges),("unicode/utf8.first",Rows.laid_unicode_utf8_first)]
noncomputable def laidWorld(os:Os):World:=
 let put (h:Array Obj) (g:Nat) (cs:Array Value):Array Obj:=h.modify g fun
  | .cells _ t frozen=>.cells cs t frozen
  | o=>o
 let w0:=World.holding Tryd.prog os ⟨#[],#[],[]⟩
 let h1:=put w0.heap 1 (Lib.firstTab.map fun z=>Value.int .u8 z).toArray
 let h2:=put h1 2 ((List.range 16).flatMap fun i=>[Value.int .u8 (Lib.accLo i),Value.int .u8 (Lib.accHi i)]).toArray
 { w0 with heap:=h2 }
def laid_met(os:Os)(args:Array Value):laidMetH Tryd.prog laid2 ((laidWorld os).forCall (fun _ _=>0) ⟨#[],args,[]⟩).memory:=
 laidMetH_of_parts3 (fuel:=8) (laidMet_of_run' 8 (by kernel_rfl) (by kernel_rfl)) (by kernel_rfl) (by kernel_rfl)
def laid_shaped(os:Os):(laidWorld os).Shaped Tryd.prog:=World.shaped_of_RefB (by kernel_rfl) (by kernel_rfl)
def tab_all:TOk Tryd.prog nu (fun u=>lTab.lookup u):=lTab_ok (text_ok Tryd.mixed) (join_ok)
end Go.Proofs.YtfdblmomnikehaaDoor
end
namespace Go.Ab
def Zip(x:Rat):Nat->Rat
 | 0=>1
 | n+1=>Zip x n*x
def Zko(l:List Rat)(x:Rat):Nat->Rat
 | 0=>0
 | n+1=>Zko l x n+l.getD n 0*Zip x n
section
variable{T:Tbl}[Zl T][Zs T][Zt T][Zo T][Zq T][Za8 T][Zi T][Zm T][Zp T][Za7 T][Zbg T][Zaz T][Za0 T][Zan T][Za1 T][Zbe T][Zbn T][Zba T][Zeo T]
def Znt(l:List Fz)(i:Nat):St:=⟨[(0,.sl (Ze l) .an),(3,.bs (.loc 3) 1 3 0 i),(4,.i .i64 ((i:Int)+1))],[((.loc 3),⟨1,.own,3,Ze (fzs ((dif (l.map fv)).take i))⟩)],3⟩
def Znu(l:List Rat)(x:Rat)(i:Nat):St:=⟨[(0,.sl (Ze (fzs l)) .an),(3,.ptr (.loc 3) 1 3 0 0),(4,.ptr (.loc 4) 2 3 0 0),(5,.ptr (.loc 5) 3 3 0 0),(6,.ptr (.loc 6) 4 3 0 0),(7,.i .i64 i)],
 [(.loc 3,⟨1,.str,3,[Z8 (fz x)]⟩),(.loc 4,⟨2,.str,3,[Zdg]⟩),(.loc 5,⟨3,.str,3,[Z8 (fz (Zko l x i))]⟩),(.loc 6,⟨4,.str,3,[Z8 (fz (Zip x i))]⟩)],6⟩
def Zkp(a b:List Rat):List Rat:=(List.range (max a.length b.length)).map fun(i:Nat)=>a.getD i 0+b.getD i 0
def Znv(a b:List Rat)(i:Nat):St:=⟨[(0,.sl (Ze (fzs a)) .an),(1,.sl (Ze (fzs b)) .an),(5,.bs (.loc 5) 1 3 0 i),(6,.i .i64 i)],[((.loc 5),⟨1,.own,3,Ze (fzs ((Zkp a b).take i))⟩)],3⟩
end
def cvK(a b:List Rat)(n:Nat):Nat->Rat
 | 0=>0
 | k+1=>cvK a b n k+a.getD k 0*b.getD (n-k) 0
section
variable{T:Tbl}[Zl T][Zs T][Zt T][Zo T][Zq T][Za8 T][Zi T][Zm T][Zp T][Za7 T][Zbg T][Zaz T][Za0 T][Zan T][Za1 T][Zbe T][Zbn T][Zba T][Zeo T]
def Znw(a b O:List Rat)(n j:Nat):St:=⟨[(0,.sl (Ze (fzs a)) .an),(1,.sl (Ze (fzs b)) .an),(5,.bs (.loc 5) 1 3 0 n),(6,.i .i64 n),(7,.ptr (.loc 7) 2 3 0 0),(8,.i .i64 j)],
 [((.loc 5),⟨1,.own,3,Ze (fzs O)⟩),(.loc 7,⟨2,.str,3,[Z8 (fz (cvK a b n j))]⟩)],4⟩
def cnv(a b:List Rat):List Rat:=(List.range (a.length+b.length)).map fun(n:Nat)=>cvK a b n (min (n+1) a.length)
def Znx(a b:List Rat)(n:Nat):St:=⟨[(0,.sl (Ze (fzs a)) .an),(1,.sl (Ze (fzs b)) .an),(5,.bs (.loc 5) 1 3 0 n),(6,.i .i64 n)],[((.loc 5),⟨1,.own,3,Ze (fzs ((cnv a b).take n))⟩)],3⟩
end
def Zgu(h a b:Rat):Rat:=(b-a)/h
def Zg7(h a b f:Rat):Rat:=(Zgu h a b-f)/h
def Zhr(h a b f g:Rat):Rat:=((g-Zgu h a b)/h-Zg7 h a b f)/h
def Zny(h a b f g:Rat):List Rat:=Zio (Zkp (Zio [a,f,Zg7 h a b f]) (Zio (cnv [0,0,Zhr h a b f g] [-h,1])))
def Zhs(h a b f g x:Rat):Rat:=a+f*x+Zg7 h a b f*x*x+Zhr h a b f g*x*x*(x-h)
def Zht(h a b f g x:Rat):Rat:=f+2*Zg7 h a b f*x+Zhr h a b f g*(3*x*x-2*h*x)
section
variable{T:Tbl}[Zl T][Zs T][Zt T][Zo T][Zq T][Za8 T][Zi T][Zm T][Zp T][Za7 T][Zbg T][Zaz T][Za0 T][Zan T][Za1 T][Zbe T][Zbn T][Zba T][Zbo T][Zeo T][Zge T]
def Zkq(sl:Bool)(h a b f g x:Rat):Rat:=if sl then Zht h a b f g x else Zhs h a b f g x
def atQ(sl:Bool)(h x:Rat)(y0 y1 f0 f1:List Rat):List Rat:=(List.range y0.length).map fun i=>Zkq sl h (y0.getD i 0) (y1.getD i 0) (f0.getD i 0) (f1.getD i 0) x
def zb3(sl:Bool)(h x:Rat)(y0 y1 f0 f1:List Rat):(atQ sl h x y0 y1 f0 f1).length=y0.length:=by simp[atQ]
def Znz(sl:Bool)(t:Fz)(h x:Rat)(y0 y1 f0 f1:List Rat)(i:Nat):St:=
 ⟨[(2,.b sl),(3,.ptr (.loc 3) 1 10 0 0),(7,.bs (.loc 7) 2 3 0 i),(8,.ptr (.loc 8) 3 3 0 0),(9,.i .i64 i)],
  [(.loc 3,⟨1,.str,10,[[.b t.1,.sl (Za t.2.1) .an,.sl (Za t.2.2) .an,.b (fz h).1,.sl (Za (fz h).2.1) .an,.sl (Za (fz h).2.2) .an,.sl (Ze (fzs y0)) .an,.sl (Ze (fzs y1)) .an,.sl (Ze (fzs f0)) .an,.sl (Ze (fzs f1)) .an]]⟩),
   (.loc 7,⟨2,.own,3,Ze (fzs ((atQ sl h x y0 y1 f0 f1).take i))⟩),(.loc 8,⟨3,.str,3,[Z8 (fz x)]⟩)],5⟩
end
def z3a(a b c:Fz):Ze [a,b,c]=[Z8 a,Z8 b,Z8 c]:=rfl
def zabo(a b c d:Fz):Ze [a,b,c,d]=[Z8 a,Z8 b,Z8 c,Z8 d]:=rfl
def zabp(a b:Fz):Ze [a,b]=[Z8 a,Z8 b]:=rfl
def zv1{l:List Rat}{B:Nat}(h:∀q∈l,sz q<=B):∀x∈fzs l,fsz x<=B:=by
 intro x hx;obtain⟨q,hq,rfl⟩:=Yw.1 hx;exact h q hq
def Zcw(t h s:Rat):Rat:=(s-t)/h
def Zfr(h x y:Rat):List Rat:=[y*y*(1+2*x),x*x*(3 + -2*x),h*x*y*y,h*x*x * -y]
def Zgf(h x y:Rat):List Rat:=[-(6*x*y/h),6*x*y/h,y*(1 + -3*x),x*(-2+3*x)]
def Ze5(c:List Rat)(y0 y1 f0 f1:List Fz):List Rat:=Zcv ((fzs c).zip [y0,y1,f0,f1]) (List.replicate y0.length 0)
def zv2(a b c:Rat):Zap [fz a,fz b,fz c]=a*b*c:=by simp[Zap,Rat.one_mul]
def z3b(a b:Rat):Zap [fz a,fz b]=a*b:=by simp[Zap,Rat.one_mul]
def z3c(a:Fz)(b c d:Rat):Zap [a,fz b,fz c,fz d]=fv a*b*c*d:=by simp[Zap,Rat.one_mul]
section
variable{T:Tbl}[Zl T][Zs T][Zt T][Zo T][Zq T][Za8 T][Zi T][Zm T][Zp T][Za7 T][Zbg T][Zbf T]
def zv3{t h s:Fz}(ht:fsz t<=6)(hh:fsz h<=6)(hs:fsz s<=6):sz (Zcw (fv t) (fv h) (fv s))<=19:=by
 unfold Zcw;have e1:=zwd (fv s) (fv t);have e2:=zdq (L:=6) ht (by decide);have e3:=zdq (L:=6) hs (by decide);have e4:=zdq (L:=6) hh (by decide);have e5:=zwe (fv s-fv t) (fv h);omega
def zii{a b:Int}{x:Rat}{S:Nat}(hx:sz x<=S)(ha1:-100<=a)(ha2:a<=100)(hb1:-100<=b)(hb2:b<=100):sz ((a:Rat)+(b:Rat)*x)<=S+3:=by
 grind[zjf,zhm,zn0]
def mem3{a b c:Fz}{B:Nat}(h1:fsz a<=B)(h2:fsz b<=B)(h3:fsz c<=B):∀x∈[a,b,c],fsz x<=B:=by
 grind
def mem2{a b:Fz}{B:Nat}(h1:fsz a<=B)(h2:fsz b<=B):∀x∈[a,b],fsz x<=B:=by
 grind
def mem4{a b c d:Fz}{B:Nat}(h1:fsz a<=B)(h2:fsz b<=B)(h3:fsz c<=B)(h4:fsz d<=B):∀x∈[a,b,c,d],fsz x<=B:=by
 grind
def zmr(t h s:Fz)(y0 y1 f0 f1:List Fz)(ht:fsz t<=6)(hh:fsz h<=6)(hs:fsz s<=6)(hr:Zb9 h y0 y1 f0 f1=true)(hw:∀r∈[y0,y1,f0,f1],∀x∈r,fsz x<=89) :
  Zb T 324 [agS t h y0 y1 f0 f1,efz s]=some (.tup [.sl (Ze (fzs (Ze5 (Zfr (fv h) (Zcw (fv t) (fv h) (fv s)) (1 + -1*Zcw (fv t) (fv h) (fv s))) y0 y1 f0 f1))) .an,.b true]):=by
 have c0:=zfk (T:=T) t h y0 y1 f0 f1 (by omega);rw[hr]at c0;have c1:=zlc (T:=T) t h s y0 y1 f0 f1 (by omega) (by omega) (by omega);have zx:=zv3 ht hh hs
 change Zb T 335 _=some (efz (fz (Zcw (fv t) (fv h) (fv s)))) at c1
 obtain⟨x,hx⟩:∃x,x=Zcw (fv t) (fv h) (fv s):=⟨_,rfl⟩;rw[<-hx]at c1 zx;rw[<-hx];have zy:sz (1 + -1*x)<=22:=zii (a:=1) (b:=-1) zx (by decide) (by decide) (by decide) (by decide);have z1:sz (1+2*x)<=22:=zii (a:=1) (b:=2) zx (by decide) (by decide) (by decide) (by decide);have z2:sz (3 + -2*x)<=22:=zii (a:=3) (b:=-2) zx (by decide) (by decide) (by decide) (by decide);have k1:Zb T 336 [.i .i64 1,.i .i64 (-1),efz (fz x)]=some (efz (fz (1 + -1*x))):=by
  grind[zb4,za1,zc0]
 have k2:Zb T 336 [.i .i64 1,.i .i64 2,efz (fz x)]=some (efz (fz (1+2*x))):=by
  grind[zb4,za1,zc0]
 have k3:Zb T 336 [.i .i64 3,.i .i64 (-2),efz (fz x)]=some (efz (fz (3 + -2*x))):=by
  grind[zb4,za1,zc0]
 generalize 1 + -1*x=y at *
 have k4:=znr (T:=T) (fz y) (by rw[za1];omega);rw[zc0]at k4;have zn:sz (-y)<=22:=by rw[ztj];omega
 have m1:=zb5 (T:=T) [fz y,fz y,fz (1+2*x)] (B:=22) (by simp) (by decide) (mem3 zy zy z1) (by simp);have m2:=zb5 (T:=T) [fz x,fz x,fz (3 + -2*x)] (B:=22) (by simp) (by decide) (mem3 (Yf zx (by decide)) (Yf zx (by decide)) z2) (by simp);have m3:=zb5 (T:=T) [h,fz x,fz y,fz y] (B:=22) (by simp) (by decide) (mem4 (by omega) (Yf zx (by decide)) zy zy) (by simp);have m4:=zb5 (T:=T) [h,fz x,fz x,fz (-y)] (B:=22) (by simp) (by decide) (mem4 (by omega) (Yf zx (by decide)) (Yf zx (by decide)) zn) (by simp);have q1:=zc4 (B:=22) (by decide) [fz y,fz y,fz (1+2*x)] (mem3 zy zy z1) 3;have q2:=zc4 (B:=22) (by decide) [fz x,fz x,fz (3 + -2*x)] (mem3 (Yf zx (by decide)) (Yf zx (by decide)) z2) 3;have q3:=zc4 (B:=22) (by decide) [h,fz x,fz y,fz y] (mem4 (by omega) (Yf zx (by decide)) zy zy) 4;have q4:=zc4 (B:=22) (by decide) [h,fz x,fz x,fz (-y)] (mem4 (by omega) (Yf zx (by decide)) (Yf zx (by decide)) zn) 4;simp only[Ycv,Ydj,Yl,Ybi]at q1 q2 q3 q4;rw[zv2]at m1 m2 q1 q2;rw[z3c]at m3 m4 q3 q4;simp only[Zb9,Yk,decide_eq_true_eq]at hr;obtain⟨⟨⟨⟨_,h2⟩,h3⟩,h4⟩,h5⟩:=hr;have mx:=zss (T:=T) (fzs (Zfr (fv h) x y)) [y0,y1,f0,f1] y0.length (by simp[Zfr]) h2 (by simp) (B:=89) (zv1 (by
  grind[Zfr])) hw (by decide) (by simp) (by
  grind)
 have rw5:=zlb (T:=T) t h y0 y1 f0 f1
 change Zb T 271 _=some (.tup [.sl (Ze (fzs (Ze5 (Zfr (fv h) x y) y0 y1 f0 f1))) .an,.b true]) at mx
 have ef:Ze (fzs (Zfr (fv h) x y))=[Z8 (fz (y*y*(1+2*x))),Z8 (fz (x*x*(3 + -2*x))),Z8 (fz (fv h*x*y*y)),Z8 (fz (fv h*x*x * -y))]:=rfl;rw[ef]at mx;rw[z3a]at m1 m2;rw[zabo]at m3 m4;rw[zaa Zbf.h324 rfl,b324];clear hw ef q1 q2 q3 q4 zx zy z1 z2 zn hx;generalize fzs (Ze5 (Zfr (fv h) x y) y0 y1 f0 f1)=R at *
 generalize [y0,y1,f0,f1]=LL at *
 generalize fz (y*y*(1+2*x))=F0 at *
 generalize fz (x*x*(3 + -2*x))=F1 at *
 generalize fz (fv h*x*y*y)=F2 at *
 generalize fz (fv h*x*x * -y)=F3 at *
 generalize fz (-y)=Y' at *
 generalize fz (1+2*x)=L1 at *
 generalize fz (3 + -2*x)=L2 at *
 generalize fz x=X at *
 generalize fz y=Y at *
 simp -implicitDefEqProofs[c0,c1,k1,k2,k3,k4,m1,m2,m3,m4,mx,rw5]
def zfl(t h s:Fz)(y0 y1 f0 f1:List Fz)(ht:fsz t<=6)(hh:fsz h<=6)(hs:fsz s<=6)(hr:Zb9 h y0 y1 f0 f1=true)(hw:∀r∈[y0,y1,f0,f1],∀x∈r,fsz x<=89) :
  Zb T 326 [agS t h y0 y1 f0 f1,efz s]=some (.tup [.sl (Ze (fzs (Ze5 (Zgf (fv h) (Zcw (fv t) (fv h) (fv s)) (1 + -1*Zcw (fv t) (fv h) (fv s))) y0 y1 f0 f1))) .an,.b true]):=by
 have c0:=zfk (T:=T) t h y0 y1 f0 f1 (by omega);rw[hr]at c0;have c1:=zlc (T:=T) t h s y0 y1 f0 f1 (by omega) (by omega) (by omega);have zx:=zv3 ht hh hs
 change Zb T 335 _=some (efz (fz (Zcw (fv t) (fv h) (fv s)))) at c1
 obtain⟨x,hx⟩:∃x,x=Zcw (fv t) (fv h) (fv s):=⟨_,rfl⟩;rw[<-hx]at c1 zx;rw[<-hx];have zy:sz (1 + -1*x)<=22:=zii (a:=1) (b:=-1) zx (by decide) (by decide) (by decide) (by decide);have z1:sz (1 + -3*x)<=22:=zii (a:=1) (b:=-3) zx (by decide) (by decide) (by decide) (by decide);have z2:sz (-2+3*x)<=22:=zii (a:=-2) (b:=3) zx (by decide) (by decide) (by decide) (by decide);have z6:sz (6:Rat)<=1:=zjf (k:=6) (by decide) (by decide);have k0:Zb T 205 [.i .i64 6]=some (efz (fz 6)):=zda (T:=T) 6 (by decide) (by decide);have k1:Zb T 336 [.i .i64 1,.i .i64 (-1),efz (fz x)]=some (efz (fz (1 + -1*x))):=by
  grind[zb4,za1,zc0]
 have k2:Zb T 336 [.i .i64 1,.i .i64 (-3),efz (fz x)]=some (efz (fz (1 + -3*x))):=by
  grind[zb4,za1,zc0]
 have k3:Zb T 336 [.i .i64 (-2),.i .i64 3,efz (fz x)]=some (efz (fz (-2+3*x))):=by
  grind[zb4,za1,zc0]
 generalize 1 + -1*x=y at *
 have zx22:fsz (fz x)<=22:=Yf zx (by decide);have z622:fsz (fz 6)<=22:=Yf z6 (by decide);have m1:=zb5 (T:=T) [fz 6,fz x,fz y] (B:=22) (by simp) (by decide) (mem3 z622 zx22 zy) (by simp);have m2:=zb5 (T:=T) [fz y,fz (1 + -3*x)] (B:=22) (by simp) (by decide) (mem2 zy z1) (by simp);have m3:=zb5 (T:=T) [fz x,fz (-2+3*x)] (B:=22) (by simp) (by decide) (mem2 zx22 z2) (by simp);have q1:=zc4 (B:=22) (by decide) [fz 6,fz x,fz y] (mem3 z622 zx22 zy) 3;have q2:=zc4 (B:=22) (by decide) [fz y,fz (1 + -3*x)] (mem2 zy z1) 2;have q3:=zc4 (B:=22) (by decide) [fz x,fz (-2+3*x)] (mem2 zx22 z2) 2;simp only[Ycv,Ydj,Yl,Ybi]at q1 q2 q3;rw[zv2]at m1 q1;rw[z3b]at m2 m3 q2 q3;have zh:=zdq (L:=6) hh (by decide);have zq:=zwe (6*x*y) (fv h);have k4:=zns (T:=T) (fz (6*x*y)) h (by rw[za1];omega) (by omega);rw[zc0]at k4;have k5:=znr (T:=T) (fz (6*x*y/fv h)) (by rw[za1];omega);rw[zc0]at k5;have zn:sz (-(6*x*y/fv h))<=89:=by rw[ztj];omega
 simp only[Zb9,Yk,decide_eq_true_eq]at hr;obtain⟨⟨⟨⟨_,h2⟩,h3⟩,h4⟩,h5⟩:=hr;have mx:=zss (T:=T) (fzs (Zgf (fv h) x y)) [y0,y1,f0,f1] y0.length (by simp[Zgf]) h2 (by simp) (B:=89) (zv1 (by
  grind[Zgf])) hw (by decide) (by simp) (by
  grind)
 have rw5:=zlb (T:=T) t h y0 y1 f0 f1
 change Zb T 271 _=some (.tup [.sl (Ze (fzs (Ze5 (Zgf (fv h) x y) y0 y1 f0 f1))) .an,.b true]) at mx
 have ef:Ze (fzs (Zgf (fv h) x y))=[Z8 (fz (-(6*x*y/fv h))),Z8 (fz (6*x*y/fv h)),Z8 (fz (y*(1 + -3*x))),Z8 (fz (x*(-2+3*x)))]:=rfl;rw[ef]at mx;rw[z3a]at m1;rw[zabp]at m2 m3;rw[zaa Zbf.h326 rfl,b326];simp -implicitDefEqProofs[c0,c1,k0,k1,k2,k3,k4,k5,m1,m2,m3,mx,rw5]
end
def Zgr(t h:Fz)(y0 y1 f0 f1:List Fz):Bool:=decide (2<fsz t) || decide (2<fsz h) || Zch y0 4 2 || Zch y1 4 2 || Zch f0 4 2 || Zch f1 4 2
def zml{t h:Fz}{y0 y1 f0 f1:List Fz}(e:Zgr t h y0 y1 f0 f1=false) :
  fsz t<=2/\fsz h<=2/\(∀r∈[y0,y1,f0,f1],r.length<=4)/\∀r∈[y0,y1,f0,f1],∀x∈r,fsz x<=2:=by
 unfold Zgr at e;simp only[Bool.or_eq_false_iff,decide_eq_false_iff_not]at e;obtain⟨⟨⟨⟨⟨e1,e2⟩,e3⟩,e4⟩,e5⟩,e6⟩:=e;obtain⟨a3,b3⟩:=zdl e3;obtain⟨a4,b4⟩:=zdl e4;obtain⟨a5,b5⟩:=zdl e5;obtain⟨a6,b6⟩:=zdl e6
 grind
theorem znt(c0 c1 c2 c3:Rat)(y0 y1 f0 f1:List Fz)(l1:y1.length=y0.length)(l2:f0.length=y0.length)(l3:f1.length=y0.length)(i:Nat)(hi:i<y0.length) :
  (Ze5 [c0,c1,c2,c3] y0 y1 f0 f1).getD i 0=c0*(y0.map fv).getD i 0+c1*(y1.map fv).getD i 0+c2*(f0.map fv).getD i 0+c3*(f1.map fv).getD i 0:=by
 have e:Ze5 [c0,c1,c2,c3] y0 y1 f0 f1=Zbq c3 (Zbq c2 (Zbq c1 (Zbq c0 (List.replicate y0.length 0) y0) y1) f0) f1:=by
  simp[Ze5,Zcv,fzs]
 grind[Zbq]
def znu(c:List Rat)(hc:c.length=4)(y0 y1 f0 f1:List Fz)(l1:y1.length=y0.length)(l2:f0.length=y0.length)(l3:f1.length=y0.length):(Ze5 c y0 y1 f0 f1).length=y0.length:=by
 unfold Ze5;rw[zf0 _ _ (fun q hq=>by
  have:=(Ycc hq).2
  grind),Yay]
theorem zum{h u:Rat}(hh:h≠0)(a b f g:Rat):(1 + -1*u)*(1 + -1*u)*(1+2*u)*a+u*u*(3 + -2*u)*b+h*u*(1 + -1*u)*(1 + -1*u)*f+h*u*u * -(1 + -1*u)*g=Zhs h a b f g (h*u):=by
 unfold Zhs Zhr Zg7 Zgu
 grind
theorem zun{h u:Rat}(hh:h≠0)(a b f g:Rat):-(6*u*(1 + -1*u)/h)*a+6*u*(1 + -1*u)/h*b+(1 + -1*u)*(1 + -3*u)*f+u*(-2+3*u)*g=Zht h a b f g (h*u):=by
 unfold Zht Zhr Zg7 Zgu
 grind
theorem zsf{t h s:Rat}(hh:h≠0):h*Zcw t h s=s-t:=by
 unfold Zcw
 grind
def zea{a b:List Rat}(hl:a.length=b.length)(h:∀i,i<a.length->a.getD i 0=b.getD i 0):a=b:=by
 grind[List.ext_getElem]
def zmm(sl:Bool)(h x:Rat)(y0 y1 f0 f1:List Rat)(i:Nat)(hi:i<y0.length):(atQ sl h x y0 y1 f0 f1).getD i 0=Zkq sl h (y0.getD i 0) (y1.getD i 0) (f0.getD i 0) (f1.getD i 0) x:=by
 grind[atQ]
def zsg{t h s:Rat}(hh:h≠0)(y0 y1 f0 f1:List Fz)(l1:y1.length=y0.length)(l2:f0.length=y0.length)(l3:f1.length=y0.length) :
  Ze5 (Zfr h (Zcw t h s) (1 + -1*Zcw t h s)) y0 y1 f0 f1=atQ false h (s-t) (y0.map fv) (y1.map fv) (f0.map fv) (f1.map fv):=by
 have hm:=znu (Zfr h (Zcw t h s) (1 + -1*Zcw t h s)) rfl y0 y1 f0 f1 l1 l2 l3;refine zea (by rw[zb3,Yad,hm]) fun i hi=>?_;rw[hm]at hi;rw[zmm _ _ _ _ _ _ _ _ (by grind)];unfold Zfr;rw[znt _ _ _ _ _ _ _ _ l1 l2 l3 i hi,zum hh,zsf hh]
 rfl
def zsh{t h s:Rat}(hh:h≠0)(y0 y1 f0 f1:List Fz)(l1:y1.length=y0.length)(l2:f0.length=y0.length)(l3:f1.length=y0.length) :
  Ze5 (Zgf h (Zcw t h s) (1 + -1*Zcw t h s)) y0 y1 f0 f1=atQ true h (s-t) (y0.map fv) (y1.map fv) (f0.map fv) (f1.map fv):=by
 have hm:=znu (Zgf h (Zcw t h s) (1 + -1*Zcw t h s)) rfl y0 y1 f0 f1 l1 l2 l3;refine zea (by rw[zb3,Yad,hm]) fun i hi=>?_;rw[hm]at hi;rw[zmm _ _ _ _ _ _ _ _ (by grind)];unfold Zgf;rw[znt _ _ _ _ _ _ _ _ l1 l2 l3 i hi,zun hh,zsf hh]
 rfl
def zuo{h:Rat}(hh:h≠0)(a b f g:Rat):Zhs h a b f g 0=a/\Zhs h a b f g h=b/\Zht h a b f g 0=f/\Zht h a b f g h=g:=by
 grind[Zhs,Zht,Zhr,Zg7,Zgu]
def sz2:sz 2<=1:=zxz (by decide) (by decide)
def zmn{h:Fz}{y0 y1 f0 f1:List Fz}(e:Zb9 h y0 y1 f0 f1=true):0<fv h/\y1.length=y0.length/\f0.length=y0.length/\f1.length=y0.length:=by
 grind[Zb9]
def z25{h:Rat}(e:0<h):h≠0:=by grind
section
variable{T:Tbl}[Zl T][Zs T][Zt T][Zo T][Zq T][Za8 T][Zi T][Zm T][Zp T][Zgc T][Za7 T][Zbg T][Zbf T][Zaz T][Za0 T][Zan T][Za1 T][Zbe T][Zbn T][Zba T][Zbo T][Zeo T][Zge T][Zdy T][Zdz T][Zc3 T]
def zup(t h:Fz)(y0 y1 f0 f1:List Fz)(hl:∀r∈[y0,y1,f0,f1],r.length<=2513169434915):Zb T 325 [agS t h y0 y1 f0 f1]=some (agS t h y0 y1 f0 f1):=by
 have c1:=zi8 (T:=T) t;have c2:=zi8 (T:=T) h;have d1:=zfz (T:=T) y0 (hl y0 (by simp));have d2:=zfz (T:=T) y1 (hl y1 (by simp));have d3:=zfz (T:=T) f0 (hl f0 (by simp));have d4:=zfz (T:=T) f1 (hl f1 (by simp));rw[zaa Zc3.h325 rfl,b325];simp -implicitDefEqProofs[c1,c2,d1,d2,d3,d4]
def zo5(t h:Fz)(y0 y1 f0 f1:List Fz):Zb T 322 [agS t h y0 y1 f0 f1]=some (.b (Zgr t h y0 y1 f0 f1)):=by
 have c1:=zeb (T:=T) t 2;have c2:=zeb (T:=T) h 2;have d1:=zdk (T:=T) y0 4 2 (by decide);have d2:=zdk (T:=T) y1 4 2 (by decide);have d3:=zdk (T:=T) f0 4 2 (by decide);have d4:=zdk (T:=T) f1 4 2 (by decide);simp only[Int.cast_ofNat_Int]at c1 c2 d1 d2 d3 d4;unfold Zgr;rw[zaa Zc3.h322 rfl,b322];generalize decide (2<fsz t)=B1 at *
 generalize decide (2<fsz h)=B2 at *
 generalize Zch y0 4 2=B3 at *
 generalize Zch y1 4 2=B4 at *
 generalize Zch f0 4 2=B5 at *
 cases B1
 case true=>simp -implicitDefEqProofs[c1]
 cases B2
 case true=>simp -implicitDefEqProofs[c1,c2]
 cases B3
 case true=>simp -implicitDefEqProofs[c1,c2,d1]
 cases B4
 case true=>simp -implicitDefEqProofs[c1,c2,d1,d2]
 cases B5
 case true=>simp -implicitDefEqProofs[c1,c2,d1,d2,d3]
 simp -implicitDefEqProofs[c1,c2,d1,d2,d3,d4]
def zmo:Zb T 323 []=some (.b true):=by
 have k0:=zda (T:=T) 0 (by decide) (by decide);have k1:=zda (T:=T) 1 (by decide) (by decide);have k2:=zda (T:=T) 2 (by decide) (by decide);have k8:=zda (T:=T) 8 (by decide) (by decide);have k12:=zda (T:=T) 12 (by decide) (by decide);have s8:sz 8<=1:=zxz (by decide) (by decide);have s12:sz 12<=1:=zxz (by decide) (by decide);have s2:=sz2;have s0:=zth;have s1:=zti;have hr:Zb9 (fz 2) [fz 0] [fz 8] [fz 0] [fz 12]=true:=by
  unfold Zb9;rw[zc0]
  grind
 have hw:∀r∈[[fz 0],[fz 8],[fz 0],[fz 12]],∀x∈r,fsz x<=89:=by
  grind[za1]
 have c1:=zmr (T:=T) (fz 0) (fz 2) (fz 1) [fz 0] [fz 8] [fz 0] [fz 12] (by rw[za1];omega) (by rw[za1];omega) (by rw[za1];omega) hr hw;have c2:=zfl (T:=T) (fz 0) (fz 2) (fz 1) [fz 0] [fz 8] [fz 0] [fz 12] (by rw[za1];omega) (by rw[za1];omega) (by rw[za1];omega) hr hw;simp only[zc0]at c1 c2;rw[zsg (t:=0) (h:=2) (s:=1) (by grind) [fz 0] [fz 8] [fz 0] [fz 12] rfl rfl rfl]at c1;rw[zsh (t:=0) (h:=2) (s:=1) (by grind) [fz 0] [fz 8] [fz 0] [fz 12] rfl rfl rfl]at c2;simp only[Yy,Ybp,zc0]at c1 c2;have e1:atQ false 2 (1-0) [0] [8] [0] [12]=[1]:=by decide +kernel
 have e2:atQ true 2 (1-0) [0] [8] [0] [12]=[3]:=by decide +kernel
 rw[e1]at c1;rw[e2]at c2;have t1:=znw (T:=T) (fzs [1]) (by decide) (zse fun q hq=>by
  grind)
 have t2:=znw (T:=T) (fzs [3]) (by decide) (zse fun q hq=>by
  grind[sz3])
 have w1:List.intercalate [44] (Zck (fzs [1]))=[49]:=by
  have e1:=zkz 1 (by decide);simp only[Zck,fzs,Yy,Ybp,zc0]
  simp_all
 have w2:List.intercalate [44] (Zck (fzs [3]))=[51]:=by
  have e1:=zkz 3 (by decide);simp only[Zck,fzs,Yy,Ybp,zc0]
  simp_all
 rw[w1]at t1;rw[w2]at t2;have r0:Ze [fz 0]=[Z8 (fz 0)]:=rfl;have r8:Ze [fz 8]=[Z8 (fz 8)]:=rfl;have r12:Ze [fz 12]=[Z8 (fz 12)]:=rfl;simp only[agS,r0,r8,r12]at c1 c2;have q0:((0:Int):Rat)=0:=rfl;have q1:((1:Int):Rat)=1:=rfl;have q2:((2:Int):Rat)=2:=rfl;have q8:((8:Int):Rat)=8:=rfl;have q12:((12:Int):Rat)=12:=rfl;rw[zaa Zc3.h323 rfl,b323];simp -implicitDefEqProofs[k0,k1,k2,k8,k12,c1,c2,t1,t2]
end
def zabn{h:Rat}(hh:h≠0)(y0 y1 f0 f1:List Rat)(l1:y1.length=y0.length)(l2:f0.length=y0.length)(l3:f1.length=y0.length) :
  atQ false h 0 y0 y1 f0 f1=y0/\atQ false h h y0 y1 f0 f1=y1/\atQ true h 0 y0 y1 f0 f1=f0/\atQ true h h y0 y1 f0 f1=f1:=by
 refine⟨zea (by rw[zb3]) fun i hi=>?_,zea (by rw[zb3,l1]) fun i hi=>?_,zea (by rw[zb3,l2]) fun i hi=>?_,zea (by rw[zb3,l3]) fun i hi=>?_⟩ <;>
  rw[zb3]at hi<;>rw[zmm _ _ _ _ _ _ _ _ hi]
 ·exact(zuo hh _ _ _ _).1
 ·exact(zuo hh _ _ _ _).2.1
 ·exact(zuo hh _ _ _ _).2.2.1
 ·exact(zuo hh _ _ _ _).2.2.2
def plQ(a0 a1 a2 a3 x:Rat):Rat:=a0+a1*x+a2*x*x+a3*x*x*x
def dlQ(a1 a2 a3 x:Rat):Rat:=a1+2*a2*x+3*a3*x*x
section
variable{T:Tbl}[Zl T][Zs T][Zt T][Zo T][Zq T][Za8 T][Zi T][Zm T][Zp T][Zgc T][Za7 T][Zbg T][Zbf T][Zih T][Zaz T][Za0 T][Zan T][Za1 T][Zbe T][Zbn T][Zba T][Zbo T][Zeo T][Zge T][Zdy T][Zdz T][Zc3 T]
variable[Ze7 T] in
def zo6(t h:Fz)(y0 y1 f0 f1:List Fz)(hl:∀r∈[y0,y1,f0,f1],r.length<=2513169434915):Zb T 365 [agS t h y0 y1 f0 f1]=some (.b true):=by
 have hw:=zmo (T:=T);have cl:=zo5 (T:=T) t h y0 y1 f0 f1;have hto:=zup (T:=T) t h y0 y1 f0 f1 hl;rw[zaa Ze7.h365 rfl,b365];cases hL:Zgr t h y0 y1 f0 f1 with
 | true=>
  rw[hL]at cl;simp -implicitDefEqProofs[hw,cl,hto]
 | false=>
  rw[hL]at cl;obtain⟨zt,zh,zl,zw⟩:=zml hL;have hsp:=zfk (T:=T) t h y0 y1 f0 f1 (by omega);cases hR:Zb9 h y0 y1 f0 f1 with
  | false=>
   rw[hR]at hsp;simp -implicitDefEqProofs[hw,cl,hto,hsp]
  | true=>
   rw[hR]at hsp;obtain⟨hp,l1,l2,l3⟩:=zmn hR;have hne:=z25 hp;have zt2:=zdq (L:=2) zt (by decide);have zh2:=zdq (L:=2) zh (by decide);have ze:=zn0 (fv t) (fv h);have hw89:∀r∈[y0,y1,f0,f1],∀x∈r,fsz x<=89:=fun r hr x hx=>Yf (zw r hr x hx) (by decide);have ad:=zi5 (T:=T) t h (by omega) (by omega);have a1:=zmr (T:=T) t h t y0 y1 f0 f1 (by omega) (by omega) (by omega) hR hw89;have a2:=zmr (T:=T) t h (fz (fv t+fv h)) y0 y1 f0 f1 (by omega) (by omega) (by rw[za1];omega) hR hw89;have a3:=zfl (T:=T) t h t y0 y1 f0 f1 (by omega) (by omega) (by omega) hR hw89;have a4:=zfl (T:=T) t h (fz (fv t+fv h)) y0 y1 f0 f1 (by omega) (by omega) (by rw[za1];omega) hR hw89;rw[zsg hne _ _ _ _ l1 l2 l3]at a1 a2;rw[zsh hne _ _ _ _ l1 l2 l3]at a3 a4;have e0:fv t-fv t=0:=by grind
   have e1:fv (fz (fv t+fv h))-fv t=fv h:=by rw[zc0];grind
   obtain⟨o1,o2,o3,o4⟩:=zabn hne (y0.map fv) (y1.map fv) (f0.map fv) (f1.map fv) (by simp;omega) (by simp;omega) (by simp;omega);rw[e0,o1]at a1;rw[e1,o2]at a2;rw[e0,o3]at a3;rw[e1,o4]at a4;have same:∀r∈[y0,y1,f0,f1],Zb T 265 [.sl (Ze (fzs (r.map fv))) .an,.sl (Ze r) .an]=some (.b true):=by
    intro r hr;have:=zu7 (T:=T) (fzs (r.map fv)) r (by have:=zl r hr;simp;omega) (zse (zxy (by decide) fun x hx=>Yf (zw r hr x hx) (by decide))) (fun x hx=>Yf (zw r hr x hx) (by decide))
    rwa [z29,decide_eq_true rfl]at this
   have s1:=same y0 (by simp);have s2:=same y1 (by simp);have s3:=same f0 (by simp);have s4:=same f1 (by simp);clear same o1 o2 o3 o4 hw89 zl zw hl e0 e1 ze;generalize fzs (y0.map fv)=N0 at *
   generalize fzs (y1.map fv)=N1 at *
   generalize fzs (f0.map fv)=N2 at *
   generalize fzs (f1.map fv)=N3 at *
   generalize fz (fv t+fv h)=E at *
   simp -implicitDefEqProofs[hw,cl,hto,hsp,ad,a1,a2,a3,a4,s1,s2,s3,s4]
end
end Go.Ab