/-
  A calculus of values, boxes and code, and what functions of the program compute, proved in it.
  Conditions: none beyond those that the theorems state. (Part 5.)
-/
import Derived.Test.YtajopjoiaogapaaGreatDoorPart4
import Derived.Test.YtajopjoiaogapaaGreatDoorProg
import Derived.KernelRfl
import Derived.Shelf.Strings.Builder1
import Derived.Shelf.Strings.Builder2
import Derived.Shelf.Strings.OnBuilder
import Derived.Shelf.Strings.IndexAnyAll
import Derived.Shelf.Strings.Count
import Derived.Shelf.Strings.Search2
import Derived.Laws.RangeAny
import Derived.Laws.Runes
import Derived.Lib.DecodeN
import Derived.Shelf.RegionOpenPlain
import Derived.WalkMore
import Derived.Deep.LoopGhost
import Derived.Shelf.Small.Utf8
import Derived.Shelf.Strings.Cut
import Derived.ProofKit
import Derived.OpenShut
import Derived.WalkKit
import Derived.Deep.DeepCutAuto
import Derived.Deep.DeepFit
import Derived.Deep.CutBlock
import Derived.Lib.OthersKept
import Derived.Test.YtajopjoiaogapaaGreatDoorRows
import Derived.Test.YtajopjoiaogapaaGreatDoorCards
import Derived.Test.YtajopjoiaogapaaGreatDoorTie
import Derived.LaidMore
import Derived.Stop.Joined
import Derived.SevenTiedAt
import Derived.Lib.LaidU8

set_option linter.unusedSectionVars false
set_option linter.unusedVariables false
set_option linter.unusedSimpArgs false
set_option linter.unnecessarySimpa false

section
namespace Go.Proofs.YtajopjoiaogapaaGreatDoor
open Go Go.Ab
set_option maxRecDepth 100000
def nus:List (Nat×Nat):=[(23,63),(25,114),(27,66),(32,170),(36,83),(37,113),(38,86),(40,141),(41,67),(55,87),(56,88),(57,89),(60,65),(62,117),(64,138),(65,183),(70,84),(71,91),(72,68),(73,142),(85,118),(86,92),(87,119),(88,120),(89,90),(90,144),(91,145),(92,146),(93,147),(94,148),(98,159),(99,190),(100,191),(106,122),(115,149),(116,150),(117,121),(118,161),(119,162),(120,163),(121,164),(123,175),(172,94),(177,124),(178,125),(179,126),(184,93),(185,152),(186,153),(187,154),(188,155),(194,151),(198,143),(199,115),(200,116),(201,85),(202,62),(203,61),(204,171),(205,36),(207,82),(208,127),(210,64),(211,60),(212,33),(215,34),(217,35),(223,128),(247,29),(248,30),(252,185),(253,184),(254,172),(255,173),(256,158),(258,192),(267,31),(269,32),(275,139),(286,16),(287,19),(308,41),(344,169),(345,174),(346,160),(354,176),(356,156),(357,196),(360,186),(361,187),(362,157),(515,15),(527,17),(536,42),(551,70),(559,95),(560,96),(561,97),(562,98),(588,7),(589,8),(594,13),(595,14),(603,37),(604,20),(605,38),(607,40),(608,58),(609,57),(610,69),(611,26),(612,81),(613,56),(614,110),(615,111),(616,112),(617,18),(618,135),(619,136),(620,137),(621,140),(622,43),(640,6),(2071,91),(2092,146),(2106,122),(2266,59)]
def nu(u:Nat):FuncId:=(nus.lookup u).getD 0
def RowOk(P:Program)(ν:Nat→FuncId)(τ:Nat→Nat)(u:Nat)(af:AFx):Prop:=
 match af.body.isPrim with
 | some f=>∀xs r,f xs=some r→Zad P (ν u) xs (·=r)
 | none=>if af.body.isBad=true then (∀m∈Zhz af,Zdx P af.np m.1=some (ν m.2))∧(af.res.isEmpty=true→af.np=ν af.nt) else Zfd P (ν u)=some (erF ν τ af)
theorem ok_pr{P:Program}{ν:Nat→FuncId}{τ:Nat→Nat}{u:Nat}{af:AFx}{f:List AV→Option AV}(h0:af.body.isPrim=some f)(h:∀xs r,f xs=some r→Zad P (ν u) xs (·=r)):RowOk P ν τ u af:=by unfold RowOk;rw[h0];exact h
theorem ok_fn{P:Program}{ν:Nat→FuncId}{τ:Nat→Nat}{u:Nat}{af:AFx}(h0:af.body.isPrim=none)(h1:af.body.isBad=false)(h:Zfd P (ν u)=some (erF ν τ af)):RowOk P ν τ u af:=by unfold RowOk;rw[h0];simp only[h1];exact h
theorem ok_cons{P:Program}{ν:Nat→FuncId}{τ:Nat→Nat}{u:Nat}{af:AFx}{l:List (Nat×AFx)}(h:RowOk P ν τ u af)(hl:∀p∈l,RowOk P ν τ p.1 p.2) :
  ∀p∈(u,af)::l,RowOk P ν τ p.1 p.2:=by
 intro p hp;rcases List.mem_cons.1 hp with rfl | hp
 ·exact h
 ·exact hl p hp
theorem ok_lookup{P:Program}{ν:Nat→FuncId}{l:List (Nat×AFx)}(hl:∀p∈l,RowOk P ν (Zu fun u=>l.lookup u) p.1 p.2):TOk P ν (fun u=>l.lookup u):=fun _ _ h=>hl _ (zc7 h)
def pT(i:Nat):List (Nat×AFx):=match i with
 | 0=>[(115,row115),(116,row116),(117,row117),(118,row118),(91,row91),(86,row86),(106,row106),(71,row71),(72,row72),(73,row73),(70,row70),(87,row87),(85,row85),(56,row56),(88,row88),(57,row57),(2106,row2106),(89,row89),(100,row100),(60,row60),(92,row92),(94,row94),(90,row90),(119,row119),(120,row120)]
 | 1=>[(121,row121),(93,row93),(2071,row2071),(2092,row2092),(62,row62),(98,row98),(123,row123),(64,row64),(99,row99),(65,row65),(55,row55),(38,row38),(40,row40),(23,row23),(25,row25),(27,row27),(37,row37),(41,row41),(36,row36),(32,row32),(198,row198),(199,row199),(200,row200),(201,row201),(202,row202)]
 | 2=>[(203,row203),(205,row205),(207,row207),(210,row210),(211,row211),(212,row212),(215,row215),(217,row217),(204,row204),(208,row208),(223,row223),(346,row346),(354,row354),(362,row362),(345,row345),(258,row258),(356,row356),(357,row357),(252,row252),(253,row253),(254,row254),(255,row255),(256,row256),(267,row267),(269,row269)]
 | 3=>[(2266,row2266),(275,row275),(185,row185),(186,row186),(177,row177),(188,row188),(179,row179),(178,row178),(172,row172),(536,row536),(551,row551),(559,row559),(560,row560),(561,row561),(562,row562),(608,row608),(612,row612),(614,row614),(615,row615),(616,row616),(618,row618),(619,row619),(620,row620),(621,row621),(247,row247)]
 | 4=>[(286,row286),(248,row248),(287,row287),(308,row308),(515,row515),(527,row527),(603,row603),(609,row609),(610,row610),(589,row589),(594,row594),(595,row595),(605,row605),(607,row607),(604,row604),(611,row611),(613,row613),(617,row617),(622,row622),(588,row588),(640,row640)]
 | _=>[]
def Zo2:List (Nat×AFx):=[(344,row344),(194,row194),(361,row361),(187,row187),(184,row184)]
def lTab:List (Nat×AFx):=pT 0++pT 1++pT 2++pT 3++pT 4++Zo2
def gTab:List (Nat×AFx):=lTab++[(266,row266)]
def tab:Tbl:=fun u=>gTab.lookup u
def tau_l:Nat→Nat:=Zu fun u=>lTab.lookup u
def Zdd(l:List (Nat×AFx)):Prop:=(l.map fun p=>Zfd Tryz.prog (nu p.1))=l.map fun p=>some (erF nu tau_l p.2)
theorem res_mem{l:List (Nat×AFx)}(h:Zdd l)(h2:(l.all fun p=>p.2.body.isPrim.isNone&&!p.2.body.isBad)=true):∀p∈l,RowOk Tryz.prog nu tau_l p.1 p.2:=by
 intro p hp;have h3:=List.all_eq_true.1 h2 p hp;simp only[Bool.and_eq_true,Option.isNone_iff_eq_none,Bool.not_eq_true']at h3;exact ok_fn h3.1 h3.2 (List.map_inj_left.1 h p hp)
theorem ok_app{l r:List (Nat×AFx)}(h1:∀p∈l,RowOk Tryz.prog nu tau_l p.1 p.2)(h2:∀p∈r,RowOk Tryz.prog nu tau_l p.1 p.2):∀p∈l++r,RowOk Tryz.prog nu tau_l p.1 p.2:=fun p hp=>(List.mem_append.1 hp).elim (h1 p) (h2 p)
theorem res0:Zdd (pT 0):=by unfold Zdd;kernel_rfl
theorem res1:Zdd (pT 1):=by unfold Zdd;kernel_rfl
theorem res2:Zdd (pT 2):=by unfold Zdd;kernel_rfl
theorem res3:Zdd (pT 3):=by unfold Zdd;kernel_rfl
theorem res4:Zdd (pT 4):=by unfold Zdd;kernel_rfl
theorem lTab_ok(hp344:∀xs r,prim344 xs=some r→Zad Tryz.prog (nu 344) xs (·=r))(hp194:∀xs r,prim194 xs=some r→Zad Tryz.prog (nu 194) xs (·=r))(hp361:∀xs r,prim361 xs=some r→Zad Tryz.prog (nu 361) xs (·=r))(hp187:∀xs r,prim187 xs=some r→Zad Tryz.prog (nu 187) xs (·=r))(hp184:∀xs r,prim184 xs=some r→Zad Tryz.prog (nu 184) xs (·=r)):TOk Tryz.prog nu (fun u=>lTab.lookup u):=ok_lookup (ok_app (ok_app (ok_app (ok_app (ok_app (res_mem res0 (by kernel_rfl)) (res_mem res1 (by kernel_rfl))) (res_mem res2 (by kernel_rfl))) (res_mem res3 (by kernel_rfl))) (res_mem res4 (by kernel_rfl))) (ok_cons (ok_pr rfl hp344) (ok_cons (ok_pr rfl hp194) (ok_cons (ok_pr rfl hp361) (ok_cons (ok_pr rfl hp187) (ok_cons (ok_pr rfl hp184) (fun p hp=>by cases hp)))))))
def Zk2:List Nat→Bool
 | []=>true
 | a::l=>!l.contains a&&Zk2 l
theorem sub_app{l r:List (Nat×AFx)}(h:Zk2 (l.map (·.1))=true):∀p∈l,(l++r).lookup p.1=some p.2:=by
 induction l with
 | nil=>intro p hp;cases hp
 | cons a l ih=>
  intro p hp;obtain⟨k,v⟩:=a;simp only[List.map_cons,Zk2,Bool.and_eq_true,Bool.not_eq_true']at h;rcases List.mem_cons.1 hp with rfl | hq
  ·simp
  ·have hne:(p.1 == k)=false:=by
    cases hb:p.1 == k with
    | false=>rfl
    | true=>
     have:=eq_of_beq hb;subst this;have h5:(l.map (·.1)).contains p.1=true:=List.contains_iff_mem.2 (List.mem_map.2 ⟨p,hq,rfl⟩);rw[h5]at h;cases h.1
   rw[List.cons_append,List.lookup_cons,hne];exact ih h.2 p hq
theorem lTab_part:Part gTab lTab:=⟨sub_app (by kernel_rfl),by kernel_rfl⟩
instance:Zy tab:=⟨by kernel_rfl,by kernel_rfl,by kernel_rfl,by kernel_rfl,by kernel_rfl⟩
instance:Zn tab where
 h115:=by kernel_rfl
 h116:=by kernel_rfl
 h117:=by kernel_rfl
 h118:=by kernel_rfl
 h91:=by kernel_rfl
 h86:=by kernel_rfl
 h106:=by kernel_rfl
 h71:=by kernel_rfl
 h72:=by kernel_rfl
 h73:=by kernel_rfl
 h70:=by kernel_rfl
 h87:=by kernel_rfl
 h85:=by kernel_rfl
 h56:=by kernel_rfl
 h88:=by kernel_rfl
 h57:=by kernel_rfl
 h2106:=by kernel_rfl
instance:Zs tab where
 h115:=by kernel_rfl
 h116:=by kernel_rfl
 h117:=by kernel_rfl
 h118:=by kernel_rfl
 h91:=by kernel_rfl
 h86:=by kernel_rfl
 h106:=by kernel_rfl
 h71:=by kernel_rfl
 h72:=by kernel_rfl
 h73:=by kernel_rfl
 h70:=by kernel_rfl
 h87:=by kernel_rfl
 h85:=by kernel_rfl
 h56:=by kernel_rfl
 h88:=by kernel_rfl
 h57:=by kernel_rfl
 h2106:=by kernel_rfl
 h89:=by kernel_rfl
 h100:=by kernel_rfl
 h60:=by kernel_rfl
instance:Zw tab:=⟨by kernel_rfl,by kernel_rfl⟩
instance:Zq tab:=⟨by kernel_rfl,by kernel_rfl,by kernel_rfl,by kernel_rfl,by kernel_rfl⟩
instance:Zk tab:=⟨by kernel_rfl,by kernel_rfl,by kernel_rfl⟩
instance:Zx tab:=⟨by kernel_rfl,by kernel_rfl,by kernel_rfl,by kernel_rfl,by kernel_rfl⟩
instance:Zaz tab where
instance:Zmm tab where
instance:Ze tab:=⟨by kernel_rfl,by kernel_rfl,by kernel_rfl,by kernel_rfl,by kernel_rfl,by kernel_rfl,by kernel_rfl,by kernel_rfl,by kernel_rfl,by kernel_rfl⟩
instance:Zf tab:=⟨by kernel_rfl,by kernel_rfl,by kernel_rfl,by kernel_rfl⟩
instance:Zr tab:=⟨by kernel_rfl,by kernel_rfl,by kernel_rfl,by kernel_rfl,by kernel_rfl,by kernel_rfl,by kernel_rfl,by kernel_rfl,by kernel_rfl⟩
instance:Za9 tab:=⟨by kernel_rfl⟩
instance:Zaa tab:=⟨by kernel_rfl⟩
instance:Zae tab:=⟨by kernel_rfl⟩
instance:Zcn tab:=⟨by kernel_rfl,by kernel_rfl,by kernel_rfl⟩
instance:Zaj tab:=⟨by kernel_rfl,by kernel_rfl,by kernel_rfl,by kernel_rfl⟩
instance:Zbj tab:=⟨by kernel_rfl,by kernel_rfl,by kernel_rfl⟩
instance:Zcl tab:=⟨by kernel_rfl,by kernel_rfl,by kernel_rfl,by kernel_rfl,by kernel_rfl⟩
instance:Zbq tab where
instance:Zay tab where
instance:Zb1 tab where
instance:Zdg tab where
instance:Zdf tab where
instance:Zab tab where
instance:Zbn tab:=⟨by kernel_rfl,by kernel_rfl,by kernel_rfl,by kernel_rfl⟩
instance:Zcg tab:=⟨by kernel_rfl⟩
instance:Zex tab where
instance:Zbe tab:=⟨by kernel_rfl,by kernel_rfl,by kernel_rfl,by kernel_rfl,by kernel_rfl,by kernel_rfl,by kernel_rfl,by kernel_rfl,by kernel_rfl⟩
instance:Z1 tab:=⟨by kernel_rfl,by kernel_rfl,by kernel_rfl,by kernel_rfl,by kernel_rfl,by kernel_rfl⟩
instance:Zao tab:=⟨by kernel_rfl,by kernel_rfl,by kernel_rfl,by kernel_rfl,by kernel_rfl,by kernel_rfl,by kernel_rfl,by kernel_rfl,by kernel_rfl⟩
instance:Zf9 tab where
instance:Zfu tab where
instance:Zaq tab where
instance:Zar tab where
instance:Zai tab where
instance:Zas tab where
instance:Za3 tab where
instance:Zba tab where
instance:Zav tab:=⟨by kernel_rfl⟩
instance:Zbb tab:=⟨by kernel_rfl⟩
instance:Zgx tab where
instance:Zh4 tab where
instance:Zfw tab where
instance:Zdj tab:=⟨by kernel_rfl⟩
instance:Zc9 tab:=⟨by kernel_rfl⟩
instance:Ze6 tab:=⟨by kernel_rfl⟩
instance:Zh2 tab where
instance:Zhl tab where
instance:Zeo tab:=⟨by kernel_rfl⟩
instance:Zhm tab:=⟨by kernel_rfl⟩
instance:Zh5 tab where
instance:Zcx tab:=⟨by kernel_rfl,by kernel_rfl,by kernel_rfl⟩
instance:Z9 tab:=⟨by kernel_rfl,by kernel_rfl,by kernel_rfl,by kernel_rfl,by kernel_rfl⟩
instance:Z7 tab:=⟨by kernel_rfl,by kernel_rfl,by kernel_rfl,by kernel_rfl,by kernel_rfl⟩
instance:Ze7 tab where
instance:Zfh tab where
instance:Zfv tab:=⟨by kernel_rfl⟩
instance:Zdy tab:=⟨by kernel_rfl⟩
end Go.Proofs.YtajopjoiaogapaaGreatDoor
end
section
set_option linter.unusedVariables false
namespace Go.Proofs
open Go.Shelf Go.RowKit
variable{P:Program}{ρ:Ren}
structure JL (P:Program) (ρ:Ren):Prop extends Lays.n169 P ρ,Lays.n241 P ρ,Builder.Extra P ρ where
 f156:P.funcs[ρ.f 156]? = some (Body.n156 ρ)
 f165:P.funcs[ρ.f 165]? = some (Body.n165 ρ)
 f166:P.funcs[ρ.f 166]? = some (Body.n166 ρ)
 t4:P.underlying (ρ.t 4)=some (TypeDesc.bool)
 a4:∀w,(isAgg (ρ.t 4)).run P w=.ok false w
 z4:∀w,(Go.sizeOf (ρ.t 4)).run P w=.ok 1 w
 v4:∀w,(zeroValue (ρ.t 4)).run P w=.ok (Value.bool false) w
 t20:P.underlying (ρ.t 20)=some (TypeDesc.interface #[])
 a20:∀w,(isAgg (ρ.t 20)).run P w=.ok false w
 z20:∀w,(Go.sizeOf (ρ.t 20)).run P w=.ok 1 w
 v20:∀w,(zeroValue (ρ.t 20)).run P w=.ok (Value.nilIface) w
 t31:P.underlying (ρ.t 31)=some (TypeDesc.slice (ρ.t 9))
 a31:∀w,(isAgg (ρ.t 31)).run P w=.ok false w
 z31:∀w,(Go.sizeOf (ρ.t 31)).run P w=.ok 1 w
 v31:∀w,(zeroValue (ρ.t 31)).run P w=.ok (Value.slice none 0 0) w
 t75:P.underlying (ρ.t 75)=some (TypeDesc.interface #[("Error",ρ.t 80)])
 a75:∀w,(isAgg (ρ.t 75)).run P w=.ok false w
 z75:∀w,(Go.sizeOf (ρ.t 75)).run P w=.ok 1 w
 v75:∀w,(zeroValue (ρ.t 75)).run P w=.ok (Value.nilIface) w
 t76:P.underlying (ρ.t 76)=some (TypeDesc.tuple #[ρ.t 3,ρ.t 75])
 a76:∀w,(isAgg (ρ.t 76)).run P w=.ok false w
 z76:∀w,(Go.sizeOf (ρ.t 76)).run P w=.ok 1 w
 v76:∀w,(zeroValue (ρ.t 76)).run P w=.ok (Value.tuple #[Value.int IntKind.i64 0,Value.nilIface]) w
 t164:P.underlying (ρ.t 164)=some (TypeDesc.unsafePointer)
 a164:∀w,(isAgg (ρ.t 164)).run P w=.ok false w
 z164:∀w,(Go.sizeOf (ρ.t 164)).run P w=.ok 1 w
 v164:∀w,(zeroValue (ρ.t 164)).run P w=.ok (Value.pointer none) w
 e240:∀args w,(callFunc (ρ.f 240) args).run P w=.ok (.enter (ρ.f 240) args) w
 c240:∀(B b:Nat) (bs:List Value) (w:World),Lib.IsBuilder (ρ.t 72) (ρ.t 5) B b bs w →
  Calls P (ρ.f 240) #[.pointer (some ⟨b,0,none⟩)] w fun e w'=>e=.returned (.tuple #[])∧(Lib.BuilderAt (ρ.t 72) (ρ.t 5) B b (.pointer (some ⟨b,0,none⟩)) bs w'∧Below B w w')
 c240f:∀(b:Nat) (w:World),w.cell? ⟨b,0,none⟩=some (.pointer none)→w.shape? b=some ((ρ.t 72),2)→w.frozen? ⟨b,0,none⟩=false →
  Calls P (ρ.f 240) #[.pointer (some ⟨b,0,none⟩)] w fun e w'=>e=.returned (.tuple #[])∧w'=w.setCell ⟨b,0,none⟩ (.pointer (some ⟨b,0,none⟩))
theorem Jl.hid{p:Prop}(h:p):Hid p:=h
end Go.Proofs
end
section
namespace Go.Proofs
open Go.Shelf Go.RowKit Go.Ab
variable{P:Program}{ρ:Ren}
theorem s_inv{w:World}{S:Nat→Nat→Prop}{v:Value}{l:List UInt8}(h:CP w S v (.s l)):v=.string ⟨l.toArray⟩:=by
 cases h with
 | s=>rfl
theorem two_args{cargs:Array Value}(h:cargs.size=2):∃a b,cargs=#[a,b]:=by
 obtain⟨l⟩:=cargs
 match l,h with
 | [a,b],_=>exact⟨a,b,rfl⟩
theorem one_arg{cargs:Array Value}(h:cargs.size=1):∃a,cargs=#[a]:=by
 obtain⟨l⟩:=cargs
 match l,h with
 | [a],_=>exact⟨a,rfl⟩
end Go.Proofs
end
section
namespace Go.Proofs
open Go.Shelf Go.RowKit Go.Ab
variable{P:Program}{ρ:Ren}
theorem bytes_size(s:List UInt8):(⟨s.toArray⟩:ByteArray).size=s.length:=by simp[ByteArray.size]
theorem bytes_list(s:List UInt8):(⟨s.toArray⟩:ByteArray).data.toList=s:=by simp
theorem all_ascii{s:List UInt8}(h:s.all (fun c=>decide (c.toNat<128))=true):∀(j:Nat) b,(⟨s.toArray⟩:ByteArray).data.toList[j]? = some b→b.toNat<128:=by
 intro j b hb;rw[bytes_list]at hb;exact of_decide_eq_true (List.all_eq_true.1 h b (List.mem_of_getElem? hb))
theorem index_pcall(L:Lays.n219 P ρ):∀xs r,prim194 xs=some r→Zad P (ρ.f 219) xs (·=r):=by
 intro xs r h;unfold prim194 at h;split at h
 ·rename_i s c;cases h;refine⟨enters_of L.f219 (by kernel_rfl) rfl,fun w S cargs hsz hC hS=>?_⟩;obtain⟨v0,v1,rfl⟩:=two_args hsz;have c0:=s_inv (hC 0 _ _ rfl rfl);have c1:=s_inv (hC 1 _ _ rfl rfl);subst c0 c1;have:=Any.stringslite_Index_one L ⟨s.toArray⟩ c w;rw[bytes_list]at this;refine this.mono ?_
  rintro e w' ⟨rfl,rfl⟩
  exact⟨_,_,rfl,rfl,Below.refl _ _,.i _ _⟩
 ·cases h
theorem count_pcall(L:Lays.n138 P ρ):∀xs r,prim361 xs=some r→Zad P (ρ.f 138) xs (·=r):=by
 intro xs r h;unfold prim361 at h;split at h
 ·rename_i s c;cases h;refine⟨enters_of L.f138 (by kernel_rfl) rfl,fun w S cargs hsz hC hS=>?_⟩;obtain⟨v0,v1,rfl⟩:=two_args hsz;have c0:=s_inv (hC 0 _ _ rfl rfl);have c1:=s_inv (hC 1 _ _ rfl rfl);subst c0 c1;have:=Any.strings_Count_one L ⟨s.toArray⟩ c w;rw[bytes_list]at this;refine this.mono ?_
  rintro e w' ⟨rfl,rfl⟩
  exact⟨_,_,rfl,rfl,Below.refl _ _,.i _ _⟩
 ·cases h
end Go.Proofs
end
section
namespace Go.Proofs
open Go.Shelf Go.RowKit Go.Lib
variable{P:Program}{ρ:Ren}
abbrev Zah:ByteArray:=⟨#[47,46]⟩
set_option maxHeartbeats 2000000 in
set_option maxRecDepth 1000000 in
theorem rune_invalid(L:Lays.n152 P ρ)(r:Int)(w:World)(h0:128≤r)(h1:r≤2147483647)(h2:r≠65533)(hv:Lib.validRune r=false) :
  Calls P (ρ.f 152) #[.string Zah,.int .i32 r] w fun e w'=>e=.returned (.int .i64 (-1))∧w'=w:=by
 have t3:=L.t3;have a3:=L.a3;have z3:=L.z3;have v3:=L.v3;have t4:=L.t4;have a4:=L.a4;have z4:=L.z4;have v4:=L.v4;have t5:=L.t5;have a5:=L.a5;have z5:=L.z5;have v5:=L.v5;have t9:=L.t9;have a9:=L.a9;have z9:=L.z9;have v9:=L.v9;have t21:=L.t21;have a21:=L.a21;have z21:=L.z21;have v21:=L.v21;have e119:∀args w,(callFunc (ρ.f 119) args).run P w=.ok (.enter (ρ.f 119) args) w:=enters_of L.f119 (by kernel_rfl) rfl
 go_enter L.f152,Body.n152_ntmps ρ
 go_wp2_with (go_at_fn (ρ.f 119);refine(Any.utf8_ValidRune { L with } _ _).mono ?_;rintro e w' ⟨rfl,hw⟩;rw[hw,hv])
 go_ret
 exact⟨rfl,rfl⟩
theorem next_slash(w:World)(ty:TypeId):(Instr.next (.pointer (some ⟨w.heap.size,0,none⟩)) true ty).run P (w.iter Zah 0)=.ok (.tuple #[.bool true,.int .i64 0,.int .i32 47]) (w.iter Zah 1):=
 run_next_ascii (P:=P) w Zah 0 ty (by decide) (by decide)
theorem next_dot(w:World)(ty:TypeId):(Instr.next (.pointer (some ⟨w.heap.size,0,none⟩)) true ty).run P (w.iter Zah 1)=.ok (.tuple #[.bool true,.int .i64 1,.int .i32 46]) (w.iter Zah 2):=
 run_next_ascii (P:=P) w Zah 1 ty (by decide) (by decide)
set_option maxHeartbeats 2000000 in
set_option maxRecDepth 1000000 in
theorem rune_error(L:Lays.n152 P ρ)(w:World) :
  Calls P (ρ.f 152) #[.string Zah,.int .i32 65533] w fun e w'=>e=.returned (.int .i64 (-1))∧∃pos,w'=w.iter Zah pos:=by
 have t3:=L.t3;have a3:=L.a3;have z3:=L.z3;have v3:=L.v3;have t4:=L.t4;have a4:=L.a4;have z4:=L.z4;have v4:=L.v4;have t5:=L.t5;have a5:=L.a5;have z5:=L.z5;have v5:=L.v5;have t9:=L.t9;have a9:=L.a9;have z9:=L.z9;have v9:=L.v9;have t21:=L.t21;have a21:=L.a21;have z21:=L.z21;have v21:=L.v21
 go_enter L.f152,Body.n152_ntmps ρ
 go_wp2
 go_loopg [5,6] 2 (fun g _ _ wx=>∃i:Nat,i+g=2∧wx=w.iter Zah i)
 case atStart=>exact⟨0,by omega,rfl⟩
 case round=>
  obtain⟨i,hig,rfl⟩:=hrel
  match gk,i,hig with
  | 0,2,_=>
   have hnx:=fun ty=>run_next_end (P:=P) w Zah 2 ty (by decide)
   go_wp2
   go_ret
   exact⟨rfl,_,rfl⟩
  | 1,1,_=>
   have hnx:=next_dot (P:=P) w
   go_wp2
   go_roundg 0
   case measure=>omega
   case rel=>exact⟨2,by omega,rfl⟩
  | 2,0,_=>
   have hnx:=next_slash (P:=P) w
   go_wp2
   go_roundg 1
   case measure=>omega
   case rel=>exact⟨1,by omega,rfl⟩
set_option maxHeartbeats 4000000 in
set_option maxRecDepth 1000000 in
theorem rune_three(L:Lays.n152 P ρ)(r:Int)(w:World)(h0:128≤r)(h1:r≤2147483647)(h2:r≠65533)(hv:Lib.validRune r=true)(hk:3≤(Utf8.encode r).size)(hk4:(Utf8.encode r).size≤4) :
  Calls P (ρ.f 152) #[.string Zah,.int .i32 r] w fun e w'=>e=.returned (.int .i64 (-1))∧w'=w:=by
 have t3:=L.t3;have a3:=L.a3;have z3:=L.z3;have v3:=L.v3;have t4:=L.t4;have a4:=L.a4;have z4:=L.z4;have v4:=L.v4;have t5:=L.t5;have a5:=L.a5;have z5:=L.z5;have v5:=L.v5;have t9:=L.t9;have a9:=L.a9;have z9:=L.z9;have v9:=L.v9;have t21:=L.t21;have a21:=L.a21;have z21:=L.z21;have v21:=L.v21;have e119:∀args w,(callFunc (ρ.f 119) args).run P w=.ok (.enter (ρ.f 119) args) w:=enters_of L.f119 (by kernel_rfl) rfl;have hcv:∀w,(convert (ρ.t 21) (ρ.t 9) (.int .i32 r)).run P w=.ok (.string (Utf8.encode r)) w:=fun w=>run_convert_int_string w _ _ _ _ (by rw[L.t21];rfl) L.t9;generalize Utf8.encode r=b at *
 go_enter L.f152,Body.n152_ntmps ρ
 go_wp2_with (first | (go_at_fn (ρ.f 119);refine(Any.utf8_ValidRune { L with } _ _).mono ?_;rintro e w' ⟨rfl,hw⟩;rw[hw,hv]) | simp only[hcv])
 go_step3
 go_wp2_with (simp only[hcv])
 go_loopg [9] 0 (fun g i wx=>i=.int .i64 ((b.size:Int)-1)∧wx=w)
 case atStart=>exact⟨rfl,rfl⟩
 case round=>
  obtain⟨rfl,rfl⟩:=hrel;have hge:decide (((b.size:Int)-1)<2)=false:=decide_eq_false (by omega)
  go_wp2
  rw[Exit.noGoto_ret]
  go_ret
  exact⟨rfl,rfl⟩
set_option maxHeartbeats 4000000 in
set_option maxRecDepth 1000000 in
theorem rune_two(L:Lays.n152 P ρ)(r:Int)(w:World)(h0:128≤r)(h1:r≤2147483647)(h2:r≠65533)(hv:Lib.validRune r=true)(x:UInt8)(hk:(Utf8.encode r).size=2)(hx:∀h:1<(Utf8.encode r).size,(Utf8.encode r)[1]'h=x)(hx128:128≤x.toNat) :
  Calls P (ρ.f 152) #[.string Zah,.int .i32 r] w fun e w'=>e=.returned (.int .i64 (-1))∧Below w.heap.size w w':=by
 have mixed:=L.mixed;have t3:=L.t3;have a3:=L.a3;have z3:=L.z3;have v3:=L.v3;have t4:=L.t4;have a4:=L.a4;have z4:=L.z4;have v4:=L.v4;have t5:=L.t5;have a5:=L.a5;have z5:=L.z5;have v5:=L.v5;have t9:=L.t9;have a9:=L.a9;have z9:=L.z9;have v9:=L.v9;have t21:=L.t21;have a21:=L.a21;have z21:=L.z21;have v21:=L.v21;have e119:∀args w,(callFunc (ρ.f 119) args).run P w=.ok (.enter (ρ.f 119) args) w:=enters_of L.f119 (by kernel_rfl) rfl;have e137:∀args w,(callFunc (ρ.f 137) args).run P w=.ok (.enter (ρ.f 137) args) w:=enters_of L.f137 (by kernel_rfl) rfl;have hcv:∀w,(convert (ρ.t 21) (ρ.t 9) (.int .i32 r)).run P w=.ok (.string (Utf8.encode r)) w:=fun w=>run_convert_int_string w _ _ _ _ (by rw[L.t21];rfl) L.t9;generalize Utf8.encode r=b at *
 go_enter L.f152,Body.n152_ntmps ρ
 go_wp2_with (first | (go_at_fn (ρ.f 119);refine(Any.utf8_ValidRune { L with } _ _).mono ?_;rintro e w' ⟨rfl,hw⟩;rw[hw,hv]) | simp only[hcv])
 go_step3
 go_wp2_with (simp only[hcv])
 go_loopg [9] 0 (fun g i wx=>i=.int .i64 1∧wx=w)
 case atStart=>exact⟨rfl,rfl⟩
 case round=>
  obtain⟨rfl,rfl⟩:=hrel;have hb:1<b.size:=by omega
  have hxx:=hx hb;have hne:((46:Int) == (x.toNat:Int))=false:=beq_eq_false_iff_ne.2 (by omega);have hsz:(b.size:Int)=2:=by omega
  have hg:Zah[1]'(by decide)=46:=rfl
  go_wp2
  go_step3
  go_wp2_with (go_at_fn (ρ.f 137);refine(Any.strings_IndexByte { L with } _ _ _).mono ?_;rintro e w' ⟨rfl,hw⟩;rw[hw])
  go_region_o
  have hne2:((46:Int) != (x.toNat:Int))=true:=by rw[bne,hne];rfl
  try rw[hne2]
  go_wp2
  go_region_with_o (go_at_fn (ρ.f 137);refine(Any.strings_IndexByte { L with } _ _ _).mono ?_;rintro e w' ⟨rfl,hw⟩;rw[hw])
  all_goals go_wp2
  all_goals rw[Exit.noGoto_ret]
  all_goals go_wp2
  all_goals rw[Exit.noGoto_ret]
  all_goals go_ret
  all_goals exact⟨rfl,⟨rfl,rfl,rfl,Nat.le_refl _,fun _ _=>rfl⟩⟩
theorem rune_wide(L:Lays.n152 P ρ)(r:Int)(w:World)(h0:128≤r)(h1:r≤2147483647) :
  Calls P (ρ.f 152) #[.string Zah,.int .i32 r] w fun e w'=>e=.returned (.int .i64 (-1))∧Below w.heap.size w w':=by
 by_cases h2:r=65533
 ·subst h2;refine(rune_error L w).mono ?_
  rintro e w' ⟨h,pos,rfl⟩
  exact⟨h,(Below.refl _ _).alloc (Nat.le_refl _) _⟩
 ·cases hv:Lib.validRune r with
  | false=>
   refine(rune_invalid L r w h0 h1 h2 hv).mono ?_
   rintro e w' ⟨h,rfl⟩
   exact⟨h,Below.refl _ _⟩
  | true=>
   have hu:Utf8.valid r=true:=by rw[Go.validRune_eq];exact hv
   obtain⟨k2,k4,kx⟩:=encode_facts r hu h0;by_cases h3:(Utf8.encode r).size=2
   ·have hk:=kx (by omega);have he:(Utf8.encode r).size-1=1:=by omega
    simp only[he]at hk;exact rune_two L r w h0 h1 h2 hv ((Utf8.encode r)[1]'(by omega)) h3 (fun _=>rfl) hk
   ·refine(rune_three L r w h0 h1 h2 hv (by omega) k4).mono ?_
    rintro e w' ⟨h,rfl⟩
    exact⟨h,Below.refl _ _⟩
theorem wide_n(n b0 b1 b2 b3:Nat)(hn:1≤n)(h:128≤b0):1≤(decodeN n b0 b1 b2 b3).2∧(decodeN n b0 b1 b2 b3).2≤4∧(decodeN n b0 b1 b2 b3).2≤n ∧
  (2≤(decodeN n b0 b1 b2 b3).2→128≤b1)∧(3≤(decodeN n b0 b1 b2 b3).2→128≤b2)∧(4≤(decodeN n b0 b1 b2 b3).2→128≤b3):=by
 unfold decodeN;rw[if_neg (by omega)]
 (repeat' split)<;>simp only<;>omega
theorem wide_bytes(s:ByteArray)(i:Nat)(hi:i<s.size)(h:128≤(s[i]'hi).toNat):1≤(Utf8.decode s i).2∧i+(Utf8.decode s i).2≤s.size ∧
  ∀(j:Nat) (b:UInt8),i≤j→j<i+(Utf8.decode s i).2→s.data.toList[j]? = some b→128≤b.toNat:=by
 have hg:∀(j:Nat) (b:UInt8),s.data.toList[j]? = some b→s.get! j=b:=by
  intro j b hb;obtain⟨hj,hb⟩:=List.getElem?_eq_some_iff.1 hb;have hj2:j<s.size:=by simpa using hj
  have:s.get! j=s[j]'hj2:=by
   simp[ByteArray.get!,getElem!_pos,hj2]
   rfl
  rw[this,←hb]
  rfl
 have h0:s.get! i=s[i]'hi:=get_at s i hi;have hw:=wide_n (s.size-i) (s.get! i).toNat (s.get! (i+1)).toNat (s.get! (i+2)).toNat (s.get! (i+3)).toNat (by omega) (by rw[h0];exact h);rw[←decode_at]at hw;obtain⟨w1,w2,w3,w4,w5,w6⟩:=hw;refine⟨w1,by omega,fun j b hij hj hb=>?_⟩;have hgb:=hg j b hb;rw[←hgb];have hc:j=i∨j=i+1∨j=i+2∨j=i+3:=by omega
 rcases hc with rfl | rfl | rfl | rfl
 ·rw[h0];exact h
 ·exact w4 (by omega)
 ·exact w5 (by omega)
 ·exact w6 (by omega)
theorem next_at(wx:World)(B:Nat)(s:ByteArray)(pos:Nat)(ty:TypeId)(hB:wx.heap[B]? = some (.stringIter s pos))(h:pos<s.size) :
  (Instr.next (.pointer (some ⟨B,0,none⟩)) true ty).run P wx=.ok (.tuple #[.bool true,.int .i64 pos,.int .i32 (Utf8.decode s pos).1]) { wx with heap:=wx.heap.setIfInBounds B (.stringIter s (pos+(Utf8.decode s pos).2)) }:=by
 simp only[Instr.next,getObj,setObj,Sem.run_bind,Sem.run,hB,Result.andThen,h,if_true];simp[goInt]
theorem next_none(wx:World)(B:Nat)(s:ByteArray)(pos:Nat)(ty:TypeId)(hB:wx.heap[B]? = some (.stringIter s pos))(h:¬ pos<s.size) :
  (Instr.next (.pointer (some ⟨B,0,none⟩)) true ty).run P wx=.ok (.tuple #[.bool false]) wx:=by
 simp[Instr.next,getObj,Sem.run,hB,h]
theorem below_iter{B:Nat}{w wx:World}(h:Below B w wx)(o:Obj):Below B w { wx with heap:=wx.heap.setIfInBounds B o }:=
 h.trans ⟨rfl,rfl,rfl,by simp,fun k hk=>by
  show (wx.heap.setIfInBounds B o)[k]? = wx.heap[k]?;rw[Array.getElem?_setIfInBounds_ne (by omega)]⟩
set_option maxHeartbeats 8000000 in
set_option maxRecDepth 1000000 in
theorem indexAny_short_any(L:Lays.n153 P ρ)(s:ByteArray)(w:World)(h8:s.size≤8) :
  Calls P (ρ.f 153) #[.string s,.string Zah] w fun e w'=>e=.returned (.int .i64 (Lib.indexAny s.data.toList [47,46]))∧Below w.heap.size w w':=by
 have h8z:decide ((8:Int)<(s.size:Int))=false:=decide_eq_false (by omega);have t3:=L.t3;have a3:=L.a3;have z3:=L.z3;have v3:=L.v3;have t4:=L.t4;have a4:=L.a4;have z4:=L.z4;have v4:=L.v4;have t5:=L.t5;have a5:=L.a5;have z5:=L.z5;have v5:=L.v5;have t9:=L.t9;have a9:=L.a9;have z9:=L.z9;have v9:=L.v9;have t21:=L.t21;have a21:=L.a21;have z21:=L.z21;have v21:=L.v21;have e152:∀args w,(callFunc (ρ.f 152) args).run P w=.ok (.enter (ρ.f 152) args) w:=enters_of L.f152 (by kernel_rfl) rfl;have e226:∀args w,(callFunc (ρ.f 226) args).run P w=.ok (.enter (ρ.f 226) args) w:=enters_of L.f226 (by kernel_rfl) rfl
 go_enter L.f153,Body.n153_ntmps ρ
 go_wp2_with (go_at_fn (ρ.f 226);refine(Any.strings_shouldUseASCIISet { L with } _ _).mono ?_;rintro e w' ⟨rfl,hw⟩;rw[hw,h8z])
 go_loopg [9,10] s.size (fun g _ _ wx=>∃i:Nat,s.size≤i+g∧i≤s.size∧wx.heap[w.heap.size]? = some (.stringIter s i)∧Below w.heap.size w wx∧Lib.NoAny s.data.toList [47,46] i)
 case atStart=>exact⟨0,by omega,by omega,World.iter_heap w s 0,(Below.refl _ _).alloc (Nat.le_refl _) _,Lib.NoAny.zero _ _⟩
 case round=>
  obtain⟨i,hig,his,hit,hbel,hno⟩:=hrel;have HN:Aside (Lib.NoAny s.data.toList [47,46] i):=hno;have HB:Aside (Below w.heap.size w wr):=hbel;have HI:Aside (wr.heap[w.heap.size]? = some (.stringIter s i)):=hit;clear hno hbel;by_cases hi:i<s.size
  ·cases gk with
   | zero=>omega
   | succ g=>
   have hlt:w.heap.size<wr.heap.size:=(Array.getElem?_eq_some_iff.1 hit).1;obtain⟨x,hx⟩:∃x:UInt8,s[i]'hi=x:=⟨_,rfl⟩;have hxl:s.data.toList[i]? = some x:=by rw[←hx];exact Lib.data_getElem? s i hi
   have hnx:=fun ty=>next_at (P:=P) wr w.heap.size s i ty hit hi;by_cases h128:x.toNat<128
   ·have hd:=decode_ascii s i hi (by rw[hx];exact h128);rw[hx]at hd;rw[hd]at hnx;simp only at hnx;have Hx:Aside (s.data.toList[i]? = some x):=hxl;clear hxl hx hit;have hcon:=Lib.contains_iff_indexByte [47,46] x;have hback:((x.toNat:Int)).toNat.toUInt8=x:=by simp
    cases hin:([47,46]:List UInt8).contains x
    ·rw[hin]at hcon;have hlt0:¬ ((0:Int)≤Lib.indexByte [47,46] x):=of_decide_eq_false hcon.symm;clear hcon
     go_wp2_with (go_at_fn (ρ.f 152);refine(Any.strings_IndexRune_ascii { L with } _ _ _ (by omega) (by omega)).mono ?_;rintro e w' ⟨rfl,hw⟩;rw[hw,hback])
     go_roundg g
     case measure=>omega
     case rel=>exact⟨i+1,by omega,by omega,by simp[hlt],below_iter HB.out _,HN.out.succ Hx.out hin⟩
    ·rw[hin]at hcon;have hge:(0:Int)≤Lib.indexByte [47,46] x:=of_decide_eq_true hcon.symm;clear hcon
     go_wp2_with (go_at_fn (ρ.f 152);refine(Any.strings_IndexRune_ascii { L with } _ _ _ (by omega) (by omega)).mono ?_;rintro e w' ⟨rfl,hw⟩;rw[hw,hback])
     go_ret
     exact⟨by rw[Lib.indexAny_hit HN.out Hx.out hin];rfl,below_iter HB.out _⟩
   ·have hwb:=wide_bytes s i hi (by rw[hx];omega);have hdh:=decode_high s i hi (by rw[hx];omega);have hdl:=decode_le s i;obtain⟨r,hr⟩:∃r,r=(Utf8.decode s i).1:=⟨_,rfl⟩;obtain⟨k,hk⟩:∃k,k=(Utf8.decode s i).2:=⟨_,rfl⟩;rw[←hr,←hk]at hnx;rw[←hk]at hwb hdh;rw[←hr]at hdh hdl;obtain⟨wb1,wb2,wb3⟩:=hwb;have HW:Aside (∀(j:Nat) (b:UInt8),i≤j→j<i+k→s.data.toList[j]? = some b→128≤b.toNat):=wb3;clear wb3 hxl hx hit hr hk;have r1:(128:Int)≤(r:Int):=by omega
    have r2:(r:Int)≤2147483647:=by omega
    go_wp2_with (go_at_fn (ρ.f 152);refine(rune_wide { L with } _ _ r1 r2).mono ?_;rintro e w' ⟨rfl,hw⟩)
    go_roundg g
    case measure=>omega
    case rel=>
     refine⟨i+k,by omega,by omega,?_,(below_iter HB.out _).trans (hw.mono (by simp;omega)),?_⟩
     ·rw[hw.block _ (by simpa using hlt)];simp[hlt]
     ·intro j b hj hb;by_cases hji:j<i
      ·exact HN.out j b hji hb
      ·have h3:=HW.out j b (by omega) hj hb;have e1:¬ b=47:=fun e=>by rw[e]at h3;exact absurd h3 (by decide)
       have e2:¬ b=46:=fun e=>by rw[e]at h3;exact absurd h3 (by decide)
       simp[e1,e2]
  ·obtain rfl:i=s.size:=by omega
   have hnx:=fun ty=>next_none (P:=P) wr w.heap.size s s.size ty hit hi;clear hit
   go_wp2
   go_ret
   exact⟨by rw[Lib.indexAny_none (by rw[←Lib.size_eq];exact HN.out)];rfl,HB.out⟩
open Go.Ab in
theorem indexAny_pcall(L:Lays.n153 P ρ)(h116:(P.info? (ρ.t 116)).map (fun i=>(i.zero,i.size))=some (some (.agg (Array.replicate 256 (.bool false))),256)):∀xs r,prim344 xs=some r→Zad P (ρ.f 153) xs (·=r):=by
 intro xs r h;unfold prim344 at h;split at h
 ·split at h
  ·rename_i s hs;cases h;refine⟨enters_of L.f153 (by kernel_rfl) rfl,fun w S cargs hsz hC hS=>?_⟩;obtain⟨v0,v1,rfl⟩:=two_args hsz;have c0:=s_inv (hC 0 _ _ rfl rfl);have c1:=s_inv (hC 1 _ _ rfl rfl);subst c0 c1;have key:Calls P (ρ.f 153) #[.string ⟨s.toArray⟩,.string Zah] w fun e w'=>e=.returned (.int .i64 (Lib.indexAny s [47,46]))∧Below w.heap.size w w':=by
    by_cases h8:s.length≤8
    ·have:=indexAny_short_any L ⟨s.toArray⟩ w (by rw[bytes_size];exact h8)
     rwa [bytes_list]at this
    ·have:=Any.strings_IndexAny_long L (zero_of_info h116).1 (zero_of_info h116).2 ⟨s.toArray⟩ Zah w (by decide) (by rw[bytes_size];omega) (by rw[bytes_size];omega) (by decide) (all_ascii (s:=[47,46]) (by decide));rw[bytes_list]at this;refine this.mono fun e w' ⟨h1,h2⟩=>⟨h1,?_⟩;rw[h2];exact((Below.refl _ _).alloc (Nat.le_refl _) _).alloc (by simp) _
   exact key.mono fun e w' ⟨he,hb⟩=>⟨_,_,he,rfl,hb,.i _ _⟩
  ·cases h
 ·cases h
end Go.Proofs
end
section
set_option linter.unusedVariables false
namespace Go.Proofs
open Go.Shelf Go.RowKit Go.Lib Go.Ab
variable{P:Program}{ρ:Ren}
set_option maxHeartbeats 2000000 in
set_option maxRecDepth 100000 in
theorem cut_one_lite(L:Lays.n220 P ρ)(b:UInt8)(s:ByteArray)(w:World)(hs:s.size<4294967281) :
  Calls P (ρ.f 220) #[.string s,.string ⟨#[b]⟩] w fun e w'=>e=.returned (.tuple #[.string ⟨(Lib.cut s.data.toList [b]).1.toArray⟩,.string ⟨(Lib.cut s.data.toList [b]).2.1.toArray⟩,.bool (Lib.cut s.data.toList [b]).2.2])∧∃n,w'=w.drewN n:=by
 have hone:Lib.index s.data.toList [b]=Lib.indexByte s.data.toList b:=Lib.index_one _ _;rcases Lib.indexB_cases s ⟨#[b]⟩ with hix | ⟨i,hix,hroom⟩
 ·obtain⟨e1,e2,e3⟩:=Lib.cutB_miss s ⟨#[b]⟩ hix;have hib:Lib.indexByte s.data.toList b=-1:=hone.symm.trans hix
  change (⟨(Lib.cut s.data.toList [b]).1.toArray⟩:ByteArray)=s at e1
  change (⟨(Lib.cut s.data.toList [b]).2.1.toArray⟩:ByteArray)=ByteArray.empty at e2
  change (Lib.cut s.data.toList [b]).2.2=false at e3
  rw[e1,e2,e3];have t3:=L.t3;have t4:=L.t4;have t9:=L.t9;have a3:∀w,(isAgg (ρ.t 3)).run P w=.ok false w:=run_isAgg_plain L.t3 rfl;have a4:∀w,(isAgg (ρ.t 4)).run P w=.ok false w:=run_isAgg_plain L.t4 rfl;have a9:∀w,(isAgg (ρ.t 9)).run P w=.ok false w:=run_isAgg_plain L.t9 rfl;have e219:∀args w,(callFunc (ρ.f 219) args).run P w=.ok (.enter (ρ.f 219) args) w:=enters_of L.f219 (by kernel_rfl) rfl;have mixed:=L.mixed;have z3:=L.z3;have v3:=L.v3;have z4:=L.z4;have v4:=L.v4;have z9:=L.z9;have v9:=L.v9
  go_enter L.f220,Body.n220_ntmps ρ
  go_wp2_with (go_at_fn (ρ.f 219);refine(Any.stringslite_Index_one { L with } _ b _).mono ?_;rintro e w' ⟨rfl,rfl⟩;rw[hib])
  go_ret3
  exact⟨rfl,0,rfl⟩
 ·obtain⟨e1,e2,e3⟩:=Lib.cutB_hit s ⟨#[b]⟩ i hix;have hib:Lib.indexByte s.data.toList b=(i:Int):=hone.symm.trans hix;have hsz:(⟨#[b]⟩:ByteArray).size=1:=rfl;rw[hsz]at hroom e2
  change (⟨(Lib.cut s.data.toList [b]).1.toArray⟩:ByteArray)=s.extract 0 i at e1
  change (⟨(Lib.cut s.data.toList [b]).2.1.toArray⟩:ByteArray)=s.extract (i+1) s.size at e2
  change (Lib.cut s.data.toList [b]).2.2=true at e3
  rw[e1,e2,e3];have c1:(0:Int)≤↑i:=by omega
  have c2:(↑i:Int)≤↑s.size:=by omega
  have c3:(0:Int)≤↑i+1:=by omega
  have c4:(↑i+1:Int)≤↑s.size:=by omega
  have t3:=L.t3;have t4:=L.t4;have t9:=L.t9;have a3:∀w,(isAgg (ρ.t 3)).run P w=.ok false w:=run_isAgg_plain L.t3 rfl;have a4:∀w,(isAgg (ρ.t 4)).run P w=.ok false w:=run_isAgg_plain L.t4 rfl;have a9:∀w,(isAgg (ρ.t 9)).run P w=.ok false w:=run_isAgg_plain L.t9 rfl;have e219:∀args w,(callFunc (ρ.f 219) args).run P w=.ok (.enter (ρ.f 219) args) w:=enters_of L.f219 (by kernel_rfl) rfl;have mixed:=L.mixed;have z3:=L.z3;have v3:=L.v3;have z4:=L.z4;have v4:=L.v4;have z9:=L.z9;have v9:=L.v9
  go_enter L.f220,Body.n220_ntmps ρ
  go_wp2_with (go_at_fn (ρ.f 219);refine(Any.stringslite_Index_one { L with } _ b _).mono ?_;rintro e w' ⟨rfl,rfl⟩;rw[hib])
  go_region_o
  go_wp2
  go_ret3
  exact⟨rfl,1,rfl⟩
set_option maxHeartbeats 1000000 in
theorem cut_one(L:Lays.n145 P ρ)(b:UInt8)(s:ByteArray)(w:World)(hs:s.size<4294967281) :
  Calls P (ρ.f 145) #[.string s,.string ⟨#[b]⟩] w fun e w'=>e=.returned (.tuple #[.string ⟨(Lib.cut s.data.toList [b]).1.toArray⟩,.string ⟨(Lib.cut s.data.toList [b]).2.1.toArray⟩,.bool (Lib.cut s.data.toList [b]).2.2])∧∃n,w'=w.drewN n:=by
 have t4:=L.t4;have t9:=L.t9;have t59:=L.t59;have a4:∀w,(isAgg (ρ.t 4)).run P w=.ok false w:=run_isAgg_plain L.t4 rfl;have a9:∀w,(isAgg (ρ.t 9)).run P w=.ok false w:=run_isAgg_plain L.t9 rfl;have a59:∀w,(isAgg (ρ.t 59)).run P w=.ok false w:=run_isAgg_plain L.t59 rfl;have e220:∀args w,(callFunc (ρ.f 220) args).run P w=.ok (.enter (ρ.f 220) args) w:=enters_of L.f220 (by kernel_rfl) rfl;have mixed:=L.mixed;have z4:=L.z4;have v4:=L.v4;have z9:=L.z9;have v9:=L.v9;have z59:=L.z59;have v59:=L.v59
 go_enter L.f145,Body.n145_ntmps ρ
 go_wp2_with (go_at_fn (ρ.f 220);refine(cut_one_lite { L with } b _ _ hs).mono ?_;rintro e w' ⟨rfl,n,rfl⟩)
 go_ret3
 exact⟨rfl,n,rfl⟩
theorem indexByte_tw(b:UInt8):∀(l:List UInt8),(Lib.indexByte l b=-1∧l.takeWhile (· != b)=l∧l.dropWhile (· != b)=[]∧l.contains b=false) ∨
  (∃i:Nat,Lib.indexByte l b=i∧l.takeWhile (· != b)=l.take i∧(l.dropWhile (· != b)).drop 1=l.drop (i+1)∧l.contains b=true)
 | []=>.inl ⟨rfl,rfl,rfl,rfl⟩
 | c::r=>by
  by_cases hc:c=b
  ·subst hc;right;exact⟨0,by simp[Lib.indexByte],by simp,by simp,by simp⟩
  ·have hb:(c != b)=true:=by simpa using hc
   have hb2:(b == c)=false:=by
    rw[beq_eq_false_iff_ne];exact fun h=>hc h.symm
   rcases indexByte_tw b r with ⟨h1,h2,h3,h4⟩ | ⟨i,h1,h2,h3,h4⟩
   ·left;refine⟨by simp[Lib.indexByte,hc,h1],?_,?_,?_⟩
    ·rw[List.takeWhile_cons_of_pos (p:=(· != b)) hb,h2]
    ·rw[List.dropWhile_cons_of_pos (p:=(· != b)) hb,h3]
    ·rw[List.contains_cons,hb2,h4];rfl
   ·right;refine⟨i+1,?_,?_,?_,?_⟩
    ·have hne:¬ (i:Int)=-1:=by omega
     simp[Lib.indexByte,hc,h1,hne]
    ·rw[List.takeWhile_cons_of_pos (p:=(· != b)) hb,h2];rfl
    ·rw[List.dropWhile_cons_of_pos (p:=(· != b)) hb,h3];rfl
    ·rw[List.contains_cons,hb2,h4];rfl
theorem cut_lines(b:UInt8)(l:List UInt8):Lib.cut l [b]=(l.takeWhile (· != b),(l.dropWhile (· != b)).drop 1,l.contains b):=by
 unfold Lib.cut;rw[Lib.index_one];rcases indexByte_tw b l with ⟨h1,h2,h3,h4⟩ | ⟨i,h1,h2,h3,h4⟩
 ·rw[h1,if_neg (by decide),h2,h3,h4];rfl
 ·rw[h1,if_pos (by omega),h2,h3,h4];rfl
theorem cut_pcall(L:Lays.n145 P ρ):∀xs r,prim184 xs=some r→Zad P (ρ.f 145) xs (·=r):=by
 intro xs r h;unfold prim184 at h;split at h
 ·rename_i l b;split at h
  ·rename_i hl;cases h;refine⟨enters_of L.f145 (by kernel_rfl) rfl,fun w S cargs hsz hC hS=>?_⟩;obtain⟨v0,v1,rfl⟩:=two_args hsz;have c0:=s_inv (hC 0 _ _ rfl rfl);have c1:=s_inv (hC 1 _ _ rfl rfl);subst c0 c1;have:=cut_one L b ⟨l.toArray⟩ w (by rw[bytes_size];omega);rw[bytes_list,cut_lines]at this;refine this.mono ?_
   rintro e w' ⟨rfl,n,rfl⟩
   refine⟨_,_,rfl,rfl,⟨rfl,rfl,rfl,Nat.le_refl _,fun _ _=>rfl⟩,.tup _ _ rfl fun j v c hv hc=>?_⟩
   match j,hv,hc with
   | 0,hv,hc=>cases hv;cases hc;exact .s _
   | 1,hv,hc=>cases hv;cases hc;exact .s _
   | 2,hv,hc=>cases hv;cases hc;exact .b _
  ·cases h
 ·cases h
end Go.Proofs
end
section
namespace Go.Proofs
open Go.Shelf Go.RowKit
set_option maxRecDepth 100000
def Tryz.sren:Ren:=⟨fun | 119=>189 | 137=>188 | 138=>187 | 143=>157 | 145=>93 | 152=>179 | 153=>169 | 195=>193 | 217=>165 | 218=>195 | 219=>151 | 220=>123 | 224=>167 | 225=>166 | 226=>180 | 227=>181 | 228=>182 | 266=>177 | 267=>168 | 314=>178 | n=>n,fun | 0=>0 | 3=>3 | 4=>4 | 5=>5 | 9=>9 | 21=>21 | 46=>134 | 51=>92 | 59=>135 | 116=>208 | 117=>209 | 124=>217 | 146=>165 | n=>n,fun | 1=>0 | n=>n⟩
theorem Tryz.lays153:Lays.n153 Tryz.prog Tryz.sren:={
 mixed:=by kernel_rfl,
 f119:=Tryz.func189.trans (congrArg some (by kernel_rfl)),
 f137:=Tryz.func188.trans (congrArg some (by kernel_rfl)),
 f152:=Tryz.func179.trans (congrArg some (by kernel_rfl)),
 f153:=Tryz.func169.trans (congrArg some (by kernel_rfl)),
 f217:=Tryz.func165.trans (congrArg some (by kernel_rfl)),
 f224:=Tryz.func167.trans (congrArg some (by kernel_rfl)),
 f225:=Tryz.func166.trans (congrArg some (by kernel_rfl)),
 f226:=Tryz.func180.trans (congrArg some (by kernel_rfl)),
 f227:=Tryz.func181.trans (congrArg some (by kernel_rfl)),
 f228:=Tryz.func182.trans (congrArg some (by kernel_rfl)),
 f266:=Tryz.func177.trans (congrArg some (by kernel_rfl)),
 t0:=Tryz.underlying0,
 a0:=Tryz.isAgg0,
 z0:=Tryz.sizeOf0,
 v0:=Tryz.zeroValue0,
 t3:=Tryz.underlying3,
 a3:=Tryz.isAgg3,
 z3:=Tryz.sizeOf3,
 v3:=Tryz.zeroValue3,
 t4:=Tryz.underlying4,
 a4:=Tryz.isAgg4,
 z4:=Tryz.sizeOf4,
 v4:=Tryz.zeroValue4,
 t5:=Tryz.underlying5,
 a5:=Tryz.isAgg5,
 z5:=Tryz.sizeOf5,
 v5:=Tryz.zeroValue5,
 t9:=Tryz.underlying9,
 a9:=Tryz.isAgg9,
 z9:=Tryz.sizeOf9,
 v9:=Tryz.zeroValue9,
 t21:=Tryz.underlying21,
 a21:=Tryz.isAgg21,
 z21:=Tryz.sizeOf21,
 v21:=Tryz.zeroValue21,
 t46:=Tryz.underlying134,
 a46:=Tryz.isAgg134,
 z46:=Tryz.sizeOf134,
 v46:=Tryz.zeroValue134,
 t116:=Tryz.underlying208,
 a116:=Tryz.isAgg208,
 z116:=Tryz.sizeOf208,
 t117:=Tryz.underlying209,
 a117:=Tryz.isAgg209,
 z117:=Tryz.sizeOf209,
 v117:=Tryz.zeroValue209,
 t124:=Tryz.underlying217,
 a124:=Tryz.isAgg217,
 z124:=Tryz.sizeOf217,
 v124:=Tryz.zeroValue217 }
theorem Tryz.lays219:Lays.n219 Tryz.prog Tryz.sren:={
 mixed:=by kernel_rfl,
 f217:=Tryz.func165.trans (congrArg some (by kernel_rfl)),
 f219:=Tryz.func151.trans (congrArg some (by kernel_rfl)),
 f224:=Tryz.func167.trans (congrArg some (by kernel_rfl)),
 f225:=Tryz.func166.trans (congrArg some (by kernel_rfl)),
 f266:=Tryz.func177.trans (congrArg some (by kernel_rfl)),
 f267:=Tryz.func168.trans (congrArg some (by kernel_rfl)),
 f314:=Tryz.func178.trans (congrArg some (by kernel_rfl)),
 t3:=Tryz.underlying3,
 a3:=Tryz.isAgg3,
 z3:=Tryz.sizeOf3,
 v3:=Tryz.zeroValue3,
 t4:=Tryz.underlying4,
 a4:=Tryz.isAgg4,
 z4:=Tryz.sizeOf4,
 v4:=Tryz.zeroValue4,
 t5:=Tryz.underlying5,
 a5:=Tryz.isAgg5,
 z5:=Tryz.sizeOf5,
 v5:=Tryz.zeroValue5,
 t9:=Tryz.underlying9,
 a9:=Tryz.isAgg9,
 z9:=Tryz.sizeOf9,
 v9:=Tryz.zeroValue9,
 t46:=Tryz.underlying134,
 a46:=Tryz.isAgg134,
 z46:=Tryz.sizeOf134,
 v46:=Tryz.zeroValue134,
 t51:=Tryz.underlying92,
 a51:=Tryz.isAgg92,
 z51:=Tryz.sizeOf92,
 v51:=Tryz.zeroValue92,
 t146:=Tryz.underlying165,
 a146:=Tryz.isAgg165,
 z146:=Tryz.sizeOf165,
 v146:=Tryz.zeroValue165,
 g1:=by kernel_rfl }
theorem Tryz.lays138:Lays.n138 Tryz.prog Tryz.sren:={
 mixed:=by kernel_rfl,
 f138:=Tryz.func187.trans (congrArg some (by kernel_rfl)),
 f143:=Tryz.func157.trans (congrArg some (by kernel_rfl)),
 f195:=Tryz.func193.trans (congrArg some (by kernel_rfl)),
 f217:=Tryz.func165.trans (congrArg some (by kernel_rfl)),
 f218:=Tryz.func195.trans (congrArg some (by kernel_rfl)),
 f219:=Tryz.func151.trans (congrArg some (by kernel_rfl)),
 f224:=Tryz.func167.trans (congrArg some (by kernel_rfl)),
 f225:=Tryz.func166.trans (congrArg some (by kernel_rfl)),
 f266:=Tryz.func177.trans (congrArg some (by kernel_rfl)),
 f267:=Tryz.func168.trans (congrArg some (by kernel_rfl)),
 f314:=Tryz.func178.trans (congrArg some (by kernel_rfl)),
 t0:=Tryz.underlying0,
 a0:=Tryz.isAgg0,
 z0:=Tryz.sizeOf0,
 v0:=Tryz.zeroValue0,
 t3:=Tryz.underlying3,
 a3:=Tryz.isAgg3,
 z3:=Tryz.sizeOf3,
 v3:=Tryz.zeroValue3,
 t4:=Tryz.underlying4,
 a4:=Tryz.isAgg4,
 z4:=Tryz.sizeOf4,
 v4:=Tryz.zeroValue4,
 t5:=Tryz.underlying5,
 a5:=Tryz.isAgg5,
 z5:=Tryz.sizeOf5,
 v5:=Tryz.zeroValue5,
 t9:=Tryz.underlying9,
 a9:=Tryz.isAgg9,
 z9:=Tryz.sizeOf9,
 v9:=Tryz.zeroValue9,
 t46:=Tryz.underlying134,
 a46:=Tryz.isAgg134,
 z46:=Tryz.sizeOf134,
 v46:=Tryz.zeroValue134,
 t51:=Tryz.underlying92,
 a51:=Tryz.isAgg92,
 z51:=Tryz.sizeOf92,
 v51:=Tryz.zeroValue92,
 t146:=Tryz.underlying165,
 a146:=Tryz.isAgg165,
 z146:=Tryz.sizeOf165,
 v146:=Tryz.zeroValue165,
 g1:=by kernel_rfl }
theorem Tryz.lays145:Lays.n145 Tryz.prog Tryz.sren:={
 mixed:=by kernel_rfl,
 f145:=Tryz.func93.trans (congrArg some (by kernel_rfl)),
 f217:=Tryz.func165.trans (congrArg some (by kernel_rfl)),
 f219:=Tryz.func151.trans (congrArg some (by kernel_rfl)),
 f220:=Tryz.func123.trans (congrArg some (by kernel_rfl)),
 f224:=Tryz.func167.trans (congrArg some (by kernel_rfl)),
 f225:=Tryz.func166.trans (congrArg some (by kernel_rfl)),
 f266:=Tryz.func177.trans (congrArg some (by kernel_rfl)),
 f267:=Tryz.func168.trans (congrArg some (by kernel_rfl)),
 f314:=Tryz.func178.trans (congrArg some (by kernel_rfl)),
 t3:=Tryz.underlying3,
 a3:=Tryz.isAgg3,
 z3:=Tryz.sizeOf3,
 v3:=Tryz.zeroValue3,
 t4:=Tryz.underlying4,
 a4:=Tryz.isAgg4,
 z4:=Tryz.sizeOf4,
 v4:=Tryz.zeroValue4,
 t5:=Tryz.underlying5,
 a5:=Tryz.isAgg5,
 z5:=Tryz.sizeOf5,
 v5:=Tryz.zeroValue5,
 t9:=Tryz.underlying9,
 a9:=Tryz.isAgg9,
 z9:=Tryz.sizeOf9,
 v9:=Tryz.zeroValue9,
 t46:=Tryz.underlying134,
 a46:=Tryz.isAgg134,
 z46:=Tryz.sizeOf134,
 v46:=Tryz.zeroValue134,
 t51:=Tryz.underlying92,
 a51:=Tryz.isAgg92,
 z51:=Tryz.sizeOf92,
 v51:=Tryz.zeroValue92,
 t59:=Tryz.underlying135,
 a59:=Tryz.isAgg135,
 z59:=Tryz.sizeOf135,
 v59:=Tryz.zeroValue135,
 t146:=Tryz.underlying165,
 a146:=Tryz.isAgg165,
 z146:=Tryz.sizeOf165,
 v146:=Tryz.zeroValue165,
 g1:=by kernel_rfl }
end Go.Proofs
namespace Go.Proofs.YtajopjoiaogapaaGreatDoor
open Go.Ab
theorem str344_ok:∀xs r,prim344 xs=some r→Zad Tryz.prog (nu 344) xs (·=r):=by
 have e:nu 344=Tryz.sren.f 153:=by kernel_rfl
 rw[e];exact indexAny_pcall Tryz.lays153 (by kernel_rfl)
theorem str194_ok:∀xs r,prim194 xs=some r→Zad Tryz.prog (nu 194) xs (·=r):=by
 have e:nu 194=Tryz.sren.f 219:=by kernel_rfl
 rw[e];exact index_pcall Tryz.lays219
theorem str361_ok:∀xs r,prim361 xs=some r→Zad Tryz.prog (nu 361) xs (·=r):=by
 have e:nu 361=Tryz.sren.f 138:=by kernel_rfl
 rw[e];exact count_pcall Tryz.lays138
theorem str184_ok:∀xs r,prim184 xs=some r→Zad Tryz.prog (nu 184) xs (·=r):=by
 have e:nu 184=Tryz.sren.f 145:=by kernel_rfl
 rw[e];exact cut_pcall Tryz.lays145
end Go.Proofs.YtajopjoiaogapaaGreatDoor
end
namespace Go.Ab
section
open Go.ChangeShapes Go.WideShapes Go.ChangeAt Go.RowKit
theorem zio{H:Type}{enc:TypeId×Value→H}{P:Program}{f:Func}{s:ChangeSpec}{apart fresh handsOn again:Bool}{W W':World}{args:Array Value}{v:Value}{ds gs:List (DataW H)}{before pa pv:List MemPlace}
  (hW:DataW.Whole enc P f.params.toList s.vars apart W args.toList ds gs before)
  (hres:∀(b:Nat) (sp:Nat→Bool) (hd:Bool),DataW.TrodAll enc P W' b sp hd f.resultTypes.toList (v.resultList f.resultTypes.size) (s.fn H (ds++gs)).results [])
  (hargs:∀sp:Nat→Bool,(∀p∈before,sp p.block=true)→DataW.TrodAll enc P W' 0 sp true f.params.toList args.toList (s.fn H (ds++gs)).args pa)
  (hvars:∀sp:Nat→Bool,(∀p∈before,sp p.block=true)→DataW.TrodVars enc P W' sp s.vars (s.fn H (ds++gs)).vars pv)
  (hps:before=pa++pv) (hw:Below W.heap.size W W')
  (hok:∀(j:Nat) (t:TypeId) (r:Value),f.resultTypes[j]? = some t→(v.resultList f.resultTypes.size)[j]? = some r→Value.okWide P W' .any 0 t r) :
  s.post enc P f apart fresh handsOn again W args v W':=by
 have hold:∀p∈before,(fun b=>decide (b<W.heap.size)) p.block=true:=fun p hp=>by simpa using hW.lt p hp
 have hlt:∀p∈before,p.block<W.heap.size:=fun p hp=>hW.lt p hp;refine⟨ds,gs,before,[],pa,pv,hW,hres _ _ _,hargs _ hold,hvars _ hold,World.keptBut_mono (fun p hp=>⟨hp,?_⟩) (hw.frame (·∈before)),fun _=>?_⟩
 ·grind
 ·obtain⟨_,_,_,_,_,hz,hn⟩:=hW;refine⟨hok,_,_,([]++pa)++pv,⟨[]++pa,pv,trodAll_append (hargs _ (fun _ _=>rfl)) (hres _ _ _),hvars _ (fun _ _=>rfl),rfl,?_,?_⟩,?_⟩
  ·intro b off hp;have hp':MemPlace.cell b off∈before:=by grind
   rw[hw.frozen (p:=⟨b,off,none⟩) (hlt _ hp')];exact hz b off hp'
  all_goals grind
end
section
open Go.ChangeShapes Go.WideShapes Go.ChangeAt Go.RowKit
inductive Ty where
 | int (k:IntKind)
 | bool
 | str
 | sl (r:Ty)
 | nil
 | cons (a:Ty) (r:Ty)
def Ty.z:Ty→Nat
 | .nil=>0
 | .cons a r=>a.z+r.z
 | _=>1
def Ok:Ty→List AV→Prop
 | .int k,cs=>∃n,cs=[.i k n]∧(Lit.int k n).wf=true
 | .bool,cs=>∃b,cs=[.b b]
 | .str,cs=>∃l,cs=[.s l]∧l.length≤maxLen
 | .sl r,cs=>∃els f,cs=[.sl els f]∧els.length≤maxLen∧(f=.nl∧els=[]∨f=.so)∧∀row∈els,Ok r row
 | .nil,cs=>cs=[]
 | .cons a r,cs=>∃c1 c2,cs=c1++c2∧Ok a c1∧Ok r c2
theorem Ok.len:∀{ty:Ty} {cs:List AV},Ok ty cs→cs.length=ty.z
 | .int _,_,⟨_,h,_⟩=>by rw[h];rfl
 | .bool,_,⟨_,h⟩=>by rw[h];rfl
 | .str,_,⟨_,h,_⟩=>by rw[h];rfl
 | .sl _,_,⟨_,_,h,_⟩=>by rw[h];rfl
 | .nil,_,h=>by rw[show _=[] from h];rfl
 | .cons _ _,_,⟨_,_,h,h1,h2⟩=>by rw[h,Y0,h1.len,h2.len];rfl
def Zde(w:World)(S:Nat→Nat→Prop)(cs:List Value)(xs:List AV):Prop:=
 xs.length=cs.length∧∀(j:Nat) (v:Value) (c:AV),cs[j]? = some v→xs[j]? = some c→CP w S v c∧v.oneCell'=true
section
variable{H:Type}{enc:TypeId×Value→H}{P:Program}{w:World}{base:Nat}{held:Bool}{S:Nat→Nat→Prop}
theorem Zde.nil:Zde w S [] []:=⟨rfl,fun j v c h=>by grind⟩
theorem Zde.one{v:Value}{c:AV}(h:CP w S v c)(h1:v.oneCell'=true):Zde w S [v] [c]:=by
 refine⟨rfl,fun j v' c' hv hc=>?_⟩
 grind
theorem Zde.append{cs cs':List Value}{xs xs':List AV}(h:Zde w S cs xs)(h':Zde w S cs' xs'):Zde w S (cs++cs') (xs++xs'):=by
 refine⟨by rw[Y0,Y0,h.1,h'.1],fun j v c hv hc=>?_⟩;by_cases hj:j<cs.length
 ·rw[Yo hj]at hv;rw[Yo (by rw[h.1];omega)]at hc;exact h.2 j v c hv hc
 ·rw[Yi (by omega)]at hv;rw[Yi (by rw[h.1];omega),h.1]at hc;exact h'.2 _ v c hv hc
def Zfg(P:Program)(g:TypeId→Option Ty)(tot:Nat):Nat→List Field→Option Ty
 | off,[]=>if off=tot then some .nil else none
 | off,f::fs=>(g f.type).bind fun a=>if f.offset=off∧a.z=P.cellsOf f.type then (Zfg P g tot (off+a.z) fs).map (.cons a) else none
def Zhj:Nat→Ty→Ty
 | 0,_=>.nil
 | n+1,a=>.cons a (Zhj n a)
def Zga(P:Program):Nat→TypeId→Option Ty
 | 0,_=>none
 | n+1,t=>
  match P.underlying t with
  | some .bool=>some .bool
  | some (.int k)=>some (.int k)
  | some .string=>some .str
  | some (.slice e)=>(Zga P n e).bind fun r=>if r.z=P.cellsOf e∧0<r.z then some (.sl r) else none
  | some (.struct fs)=>Zfg P (Zga P n) (P.cellsOf t) 0 fs.toList
  | some (.array k e)=>(Zga P n e).bind fun a=>if a.z=P.cellsOf e∧k*a.z=P.cellsOf t then some (Zhj k a) else none
  | _=>none
theorem zrb{α:Type}{Q:Nat→α→Prop}:∀(n:Nat),(∀i,i<n→∃x,Q i x)→∃l:List α,l.length=n∧∀i x,l[i]? = some x→Q i x
 | 0,_=>⟨[],rfl,fun i x h=>by grind⟩
 | n+1,h=>by
  obtain⟨l,hl,hq⟩:=zrb n fun i hi=>h i (by omega);obtain⟨x,hx⟩:=h n (by omega);refine⟨l++[x],by grind,fun i y hy=>?_⟩
  grind
def Ze2(S:Nat→Nat→Prop)(ps:List MemPlace):Prop:=∀k o,MemPlace.cell k o∈ps→S k o
theorem zgl{n:Nat}{g:TypeId→Option Ty}{cs:List Value}
  (ih:∀t cs x ty,DataW.trod enc P w base (fun _=>true) held n t cs=some x→g t=some ty→Ze2 S x.2→∃xs,Ok ty xs∧Zde w S cs xs) :
  ∀(fs:List Field) (off:Nat) (ty:Ty) (ys:List (DataW H×List MemPlace)),
   ys.length=fs.length→(∀(i:Nat) (f:Field),fs[i]? = some f→DataW.trod enc P w base (fun _=>true) held n f.type ((cs.drop f.offset).take (P.cellsOf f.type))=ys[i]?) →
   Zfg P g cs.length off fs=some ty→Ze2 S (ys.flatMap (·.2))→∃xs,Ok ty xs∧Zde w S (cs.drop off) xs
 | [],off,ty,ys,hl,hm,ht,hp=>by
  simp only[Zfg]at ht;split at ht<;>cases ht;rename_i ho;exact⟨[],rfl,by rw[ho,Yag];exact Zde.nil⟩
 | f::fs,off,ty,[],hl,hm,ht,hp=>by grind
 | f::fs,off,ty,y::ys1,hl,hm,ht,hp=>by
  obtain⟨a,ha,ht1⟩:=bind_some ht;split at ht1
  ·rename_i hc;obtain⟨ho,hz⟩:=hc;obtain⟨r,hr,rfl⟩:=map_some ht1;have hy:=hm 0 f rfl;rw[ho,←hz]at hy;obtain⟨xs1,ho1,hr1⟩:=ih _ _ _ _ hy ha fun k o h=>hp k o (by grind);obtain⟨xs2,ho2,hr2⟩:=zgl ih fs _ r ys1 (by grind) (fun i f' hf=>by simpa using hm (i+1) f' (by grind)) hr fun k o h=>hp k o (by
    grind)
   refine⟨xs1++xs2,⟨xs1,xs2,rfl,ho1,ho2⟩,?_⟩;have e:cs.drop off=(cs.drop off).take a.z++cs.drop (off+a.z):=by rw[←Ydy,Yal]
   rw[e];exact hr1.append hr2
  grind
theorem zh0{n:Nat}{e:TypeId}{r:Ty}(ih:∀cs x,DataW.trod enc P w base (fun _=>true) held n e cs=some x→Ze2 S x.2→∃xs,Ok r xs∧Zde w S cs xs) :
  ∀(k:Nat) (cs:List Value) (ys:List (DataW H×List MemPlace)),ys.length=k→cs.length=k*r.z →
   (∀(i:Nat),i<k→DataW.trod enc P w base (fun _=>true) held n e ((cs.drop (i*r.z)).take r.z)=ys[i]?)→Ze2 S (ys.flatMap (·.2))→∃xs,Ok (Zhj k r) xs∧Zde w S cs xs
 | 0,cs,ys,hl,hc,hm,hp=>by
  rw[Ycz,Ycv]at hc;subst hc;exact⟨[],rfl,Zde.nil⟩
 | k+1,cs,[],hl,hc,hm,hp=>by grind
 | k+1,cs,y::ys,hl,hc,hm,hp=>by
  have hy:=hm 0 (by omega);rw[Ycz,Yaz]at hy;obtain⟨xs1,ho1,hr1⟩:=ih _ _ hy fun k o h=>hp k o (by grind);obtain⟨xs2,ho2,hr2⟩:=zh0 ih k (cs.drop r.z) ys (by grind) (by grind) (fun i hi=>by
   grind[List.drop_drop]) fun k o h=>hp k o (by
    grind)
  refine⟨xs1++xs2,⟨xs1,xs2,rfl,ho1,ho2⟩,?_⟩;have e:cs=cs.take r.z++cs.drop r.z:=(Yal ..).symm;rw[e];exact hr1.append hr2
theorem znt{a:Addr}{m z:Nat}{cs:List Value}(h:w.cells? base (a.add m) z=some cs)(j:Nat)(hj:j<z):w.cell? ((a.add m).add j)=cs[j]? := (World.cells?_some h).2.2 j hj
theorem zrc{a:Addr}{v:Value}(h:w.cell? a=some v):a.spot=none:=by
 unfold World.cell? at h;split at h
 all_goals simp_all
theorem zek:∀(n m:Nat) (t:TypeId) (cs:List Value) (x:DataW H×List MemPlace) (ty:Ty),
  DataW.trod enc P w base (fun _=>true) held n t cs=some x→Zga P m t=some ty→Ze2 S x.2→∃xs,Ok ty xs∧Zde w S cs xs
 | 0,_,_,_,_,_,h,_,_=>by simp[DataW.trod]at h
 | n+1,0,_,_,_,_,_,ht,_=>by simp[Zga]at ht
 | n+1,m+1,t,cs,x,ty,h,ht,hp=>by
  simp only[Zga]at ht;split at ht
  ·rename_i hu;cases ht;obtain⟨b,rfl,rfl⟩:=DataW.trod_bool hu h;exact⟨[.b b],⟨b,rfl⟩,Zde.one (.b b) rfl⟩
  ·rename_i k hu;cases ht;obtain⟨z,rfl,rfl,hw⟩:=DataW.trod_int hu h;exact⟨[.i k z],⟨z,rfl,hw⟩,Zde.one (.i k z) rfl⟩
  ·rename_i hu;cases ht;obtain⟨s,rfl,rfl,hs⟩:=DataW.trod_string hu h;exact⟨[.s s.data.toList],⟨_,rfl,by simp_all⟩,Zde.one (.s s.data.toList) rfl⟩
  ·rename_i e hu;obtain⟨r,hr,ht1⟩:=bind_some ht;split at ht1
   ·rename_i hz;cases ht1;obtain⟨hz,hzp⟩:=hz;rcases DataW.trod_slice hu h with ⟨rfl,rfl⟩ | ⟨a,len,cap,elems,rest,n',hn',rfl,rfl,hb,hl,hmx,hlen,hel,hsp,hns⟩
    ·exact⟨[.sl [] .nl],⟨[],.nl,rfl,Yu _,.inl ⟨rfl,rfl⟩,fun row h=>by grind⟩,Zde.one (.slnil _ (.inl rfl)) rfl⟩
    ·obtain⟨hrl,hrest⟩:=hsp rfl;have hall:∀i,i<cap→∃y cs',y∈elems++rest∧w.cells? base (a.add (i*P.cellsOf e)) (P.cellsOf e)=some cs'∧DataW.trod enc P w base (fun _=>true) held n e cs'=some y:=by
      intro i hi;by_cases hil:i<len
      ·have h1:=hel i hil;rw[Ya (by omega)]at h1;obtain⟨cs',h2,h3⟩:=bind_some h1
       grind
      ·have h1:=hrest (i-len) (by omega);rw[Ya (by omega),show len+(i-len)=i by omega]at h1;obtain⟨cs',h2,h3⟩:=bind_some h1
       grind
     by_cases hcap:cap=0
     ·have hl0:len=0:=by omega
      subst hcap;subst hl0;exact⟨[.sl [] .so],⟨[],.so,rfl,Yu _,.inr rfl,fun row h=>by grind⟩,Zde.one (.slz a _ (.inl rfl)) rfl⟩
     ·have hspot:a.spot=none:=by
       obtain⟨y,cs',_,h2,_⟩:=hall 0 (by omega);have h3:=znt h2 0 (by omega)
       grind[World.cells?_some,zrc,Addr.add]
      obtain⟨blk,off,sp⟩:=a;have hrows:∀i,i<len→∃xs,Ok r xs∧∃cs',w.cells? base ((⟨blk,off,none⟩:Addr).add (i*P.cellsOf e)) (P.cellsOf e)=some cs'∧Zde w S cs' xs:=by
       intro i hi;obtain⟨y,cs',hy,h2,h3⟩:=hall i (by omega);obtain⟨xs,ho,hrc⟩:=zek n m e cs' y r h3 hr fun k o hk=>hp k o (by
        grind)
       grind
      obtain⟨els,hels,hq⟩:=zrb len hrows;refine⟨[.sl els .so],⟨els,.so,rfl,by omega,.inr rfl,fun row hrow=>?_⟩,Zde.one ?_ rfl⟩
      ·grind[List.getElem?_of_mem]
      ·have hcell:∀i j,i<els.length→j<r.z→∃v,w.cell? ⟨blk,off+i*r.z+j,none⟩=some v∧v.oneCell'=true∧∀row c,els[i]? = some row→row[j]? = some c→CP w S v c:=by
        intro i j hi hj;obtain⟨ho,cs',h2,hrc⟩:=hq i _ (Ya hi);have h3:=znt h2 j (by omega);have h4:=(World.cells?_some h2).2.1;rw[zbd,zbd,←hz,Ya (by omega)]at h3;have hlr:=ho.len;have h5:=hrc.2 j _ _ (Ya (by omega)) (Ya (by omega))
        grind
       have hS:∀i j,i<els.length→j<r.z→S blk (off+i*r.z+j):=by
        intro i j hi hj;refine hp _ _ ?_;rw[Yat];left;unfold MemPlace.row;rw[Yz];refine⟨i*r.z+j,?_,by rw[Ya1]⟩;have h1:(i+1)*r.z≤(elems.length+rest.length)*r.z:=Yr _ (by omega)
        grind
       have:=CP.sl (w:=w) (S:=S) blk off r.z cap els .so (fun i j=>(w.cell? ⟨blk,off+i*r.z+j,none⟩).getD undef) (by simp) (by simp) (by omega) hmx
        (fun i row hrow=>(hq i row hrow).1.len) (fun i j hi hj=>?_) (fun i row j c hrow hc=>?_)
       ·grind
       ·grind
       ·have hi:=(Ye.1 hrow).1;have hj:=(Ye.1 hc).1;rw[(hq i row hrow).1.len]at hj
        grind
   grind
  ·rename_i fs hu;obtain⟨xs,n',hn',rfl,hcl,hxl,hx⟩:=DataW.trod_struct hu h;cases hn';rw[←hcl]at ht;have:=zgl (S:=S) (g:=Zga P m) (cs:=cs) (n:=n) (fun t cs x ty h1 h2 h3=>zek n m t cs x ty h1 h2 h3) fs.toList 0 ty xs (by omega) (fun i f hf=>hx i f (by grind)) ht hp
   grind
  ·rename_i k e hu;obtain⟨r,hr,ht1⟩:=bind_some ht;split at ht1
   ·rename_i hz;cases ht1;obtain⟨hz,hzt⟩:=hz;obtain⟨xs,n',hn',rfl,hcl,hxl,hx⟩:=DataW.trod_array hu h;cases hn';rw[←hz]at hx;exact zh0 (S:=S) (n:=n) (e:=e) (r:=r) (fun cs x h1 h3=>zek n m e cs x r h1 hr h3) k cs xs hxl (by omega) hx hp
   grind
  grind
end
end
section
open Go.ChangeShapes Go.WideShapes Go.ChangeAt Go.RowKit
def isAgg(P:Program)(t:TypeId):Bool:=match P.underlying t with | some (.struct _)=>true | some (.array _ _)=>true | _=>false
def Zjw(P:Program)(m:Nat):List TypeId→Option (List (Bool×Ty))
 | []=>some []
 | t::ts=>(Zga P m t).bind fun a=>(Zjw P m ts).map fun r=>(isAgg P t,a)::r
def Zgs:Bool×Ty→AV→Prop
 | (true,ty),x=>∃cs,x=.agg cs∧Ok ty cs
 | (false,ty),x=>Ok ty [x]
def Zhv:List (Bool×Ty)→List AV→Prop
 | [],xs=>xs=[]
 | a::r,xs=>∃x ys,xs=x::ys∧Zgs a x∧Zhv r ys
section
variable{H:Type}{enc:TypeId×Value→H}{P:Program}{w:World}{S:Nat→Nat→Prop}
theorem zu7{m:Nat}{t:TypeId}{v:Value}{d:DataW H}{p:List MemPlace}{ty:Ty}{base:Nat}(hA:DataW.Trod enc P w 0 (fun _=>true) true t v d p)(hT:Zga P m t=some ty)
  (hval:Value.okWide P w .any base t v) (hp:Ze2 S p):∃x,Zgs (isAgg P t,ty) x∧CP w S v x:=by
 obtain⟨fuel,hf⟩:=hA;obtain⟨xs,ho,hrc⟩:=zek (S:=S) fuel m t _ _ ty hf hT hp;have hlen:=ho.len;cases hu:P.underlying t with
 | none=>cases m<;>simp[Zga,hu]at hT
 | some desc=>
  have one:∀(hag:isAgg P t=false) (hz:ty.z=1) (hv:v.cells=#[v]),∃x,Zgs (isAgg P t,ty) x∧CP w S v x:=by
   intro hag hz hv;rw[hag]
   match xs,hlen with
   | [x],_=>
    refine⟨x,ho,?_⟩;have:=hrc.2 0 v x (by grind) rfl
    grind
   | [],h=>grind
   | _::_::_,h=>grind
  cases m with
  | zero=>simp[Zga]at hT
  | succ m=>
  cases desc<;>simp only[Zga,hu]at hT<;>try (cases hT;done)
  case struct fs=>
   have hag:isAgg P t=true:=by simp[isAgg,hu]
   rw[hag];unfold Value.okWide at hval;rw[hu]at hval;obtain⟨cs,rfl,hcs,_⟩:=hval;refine⟨.agg xs,⟨xs,rfl,ho⟩,.agg cs xs ?_ ?_ ?_⟩
   ·have:=hrc.1;simpa[Value.cells]using this.symm
   ·intro j u hu;have hl:=hrc.1;have hj:j<cs.size:=(Yck.1 hu).1;have hj':j<xs.length:=by rw[hl];simpa[Value.cells]using hj
    exact(hrc.2 j u _ (by simpa[Value.cells]using hu) (Ya hj')).2
   ·intro j u c hu hc;exact(hrc.2 j u c (by simpa[Value.cells]using hu) hc).1
  case array k e=>
   have hag:isAgg P t=true:=by simp[isAgg,hu]
   rw[hag];unfold Value.okWide at hval;rw[hu]at hval;obtain⟨cs,rfl,hcs,_⟩:=hval;refine⟨.agg xs,⟨xs,rfl,ho⟩,.agg cs xs ?_ ?_ ?_⟩
   ·have:=hrc.1;simpa[Value.cells]using this.symm
   ·intro j u hu;have hl:=hrc.1;have hj:j<cs.size:=(Yck.1 hu).1;have hj':j<xs.length:=by rw[hl];simpa[Value.cells]using hj
    exact(hrc.2 j u _ (by simpa[Value.cells]using hu) (Ya hj')).2
   ·intro j u c hu hc;exact(hrc.2 j u c (by simpa[Value.cells]using hu) hc).1
  case bool=>
   cases hT;unfold Value.okWide Cell.okWide Cell.ok at hval;refine one (by simp[isAgg,hu]) rfl ?_;cases v<;>first | rfl | grind
  case int k=>
   cases hT;unfold Value.okWide Cell.okWide Cell.ok at hval;rw[hu]at hval;refine one (by simp[isAgg,hu]) rfl ?_;cases v<;>first | rfl | grind
  case string=>
   cases hT;unfold Value.okWide Cell.okWide Cell.ok at hval;rw[hu]at hval;refine one (by simp[isAgg,hu]) rfl ?_;cases v<;>first | rfl | grind
  case slice e=>
   obtain⟨r,hr,ht1⟩:=bind_some hT;split at ht1<;>cases ht1;unfold Value.okWide Cell.okWide Cell.ok at hval;rw[hu]at hval;refine one (by simp[isAgg,hu]) rfl ?_;cases v<;>first | rfl | grind
theorem zj1{m base:Nat}:∀(ts:List TypeId) (vs:List Value) (ds:List (DataW H)) (p:List MemPlace) (tys:List (Bool×Ty)),DataW.TrodAll enc P w 0 (fun _=>true) true ts vs ds p→Zjw P m ts=some tys →
  (∀(j:Nat) t v,ts[j]? = some t→vs[j]? = some v→Value.okWide P w .any base t v)→Ze2 S p →
  ∃xs,Zhv tys xs∧vs.length=xs.length∧∀(j:Nat) (v:Value) (c:AV),vs[j]? = some v→xs[j]? = some c→CP w S v c
 | [],vs,ds,p,tys,hA,hT,hval,hp=>by
  obtain⟨rfl,_,_⟩:=trodAll_nil hA;cases hT;exact⟨[],rfl,rfl,fun j v c h=>by grind⟩
 | t::ts,vs,ds,p,tys,hA,hT,hval,hp=>by
  obtain⟨v,vs1,d,ds1,a,b,rfl,rfl,rfl,h1,h2⟩:=trodAll_cons hA;obtain⟨ty,hty,hT1⟩:=bind_some hT;obtain⟨r,hr,rfl⟩:=map_some hT1;obtain⟨x,hx,hC⟩:=zu7 (S:=S) h1 hty (hval 0 t v rfl rfl) fun k o h=>hp k o (Yap _ h);obtain⟨xs,ho,hl,hc⟩:=zj1 (m:=m) (base:=base) ts vs1 ds1 b r h2 hr (fun j t v ht hv=>hval (j+1) t v (by grind) (by grind)) fun k o h=>hp k o (Yau _ h);refine⟨x::xs,⟨x,xs,rfl,hx,ho⟩,by grind,fun j u c hu hcc=>?_⟩
  grind
theorem znu(hl:laidOutB P=true){W W':World}(hb:Below W.heap.size W W'){sp:Nat→Bool}:∀(ts:List TypeId) (vs:List Value) (ds:List (DataW H)) (p:List MemPlace),
  (ts.all fun t=>P.readableRec t&&decide (t<P.types.size))=true→DataW.TrodAll enc P W 0 (fun _=>true) true ts vs ds p→(∀x∈p,x.block<W.heap.size)→(∀x∈p,sp x.block=true)→DataW.TrodAll enc P W' 0 sp true ts vs ds p
 | [],_,_,_,_,hA,_,_=>by
  obtain⟨rfl,rfl,rfl⟩:=trodAll_nil hA;exact rfl
 | t::ts,vs,ds,p,hr,hA,hlt,hsp=>by
  obtain⟨v,vs1,d,ds1,a,b,rfl,rfl,rfl,h1,h2⟩:=trodAll_cons hA;rw[Ybx,Yj,Yj,decide_eq_true_eq]at hr;exact⟨a,b,WideElems.Trod_stays hl hr.1.1 hr.1.2 h1 (fun x hx=>hb.same (hlt x (Yap _ hx))) (fun x hx=>hsp x (Yap _ hx)),
   znu hl hb ts vs1 ds1 b hr.2 h2 (fun x hx=>hlt x (Yau _ hx)) (fun x hx=>hsp x (Yau _ hx)),rfl⟩
theorem zrd:∀(ts:List TypeId) (vs:List Value) (ds:List (DataW H)) (p:List MemPlace),DataW.TrodAll enc P w 0 (fun _=>true) true ts vs ds p→ds.length=ts.length
 | [],_,_,_,hA=>by
  obtain⟨rfl,rfl,rfl⟩:=trodAll_nil hA
  rfl
 | t::ts,vs,ds,p,hA=>by
  obtain⟨v,vs1,d,ds1,a,b,rfl,rfl,rfl,h1,h2⟩:=trodAll_cons hA;simp[zrd ts vs1 ds1 b h2]
theorem zu8{f:FuncId}{fn:Func}{s:ChangeSpec}{m tb:Nat}{tys:List (Bool×Ty)}{fresh handsOn again:Bool}(hvars:s.vars=[])(hT:Zjw P m fn.params.toList=some tys)(hl:laidOutB P=true)
  (hread:(fn.params.toList.all fun t=>P.readableRec t&&decide (t<P.types.size))=true) (hr:fn.resultTypes=#[tb]) (hb:P.underlying tb=some .bool)
  (hfn:∀ds:List (DataW H),ds.length=fn.params.toList.length→s.fn H ds={ results:=[.lit (.bool true)],args:=ds })
  (hcall:∀xs,Zhv tys xs→Zad P f xs (·=.b true)) {W:World} {args:Array Value} {ds gs:List (DataW H)} {before:List MemPlace} {base:Nat}
  (hval:∀(j:Nat) t v,fn.params[j]? = some t→args[j]? = some v→Value.okWide P W .any base t v) (hW:DataW.Whole enc P fn.params.toList s.vars false W args.toList ds gs before) :
  Calls P f args W fun e W'=>∃v,e=.returned v∧s.post enc P fn false fresh handsOn again W args v W':=by
 have hW':=hW;obtain⟨p,q,hA,hV,rfl,hfz,hnd⟩:=hW;rw[hvars]at hV;obtain⟨rfl,rfl⟩:=trodVars_none hV;have hlt:∀x∈p,x.block<W.heap.size:=fun x hx=>hW'.lt x (Yap _ hx);obtain⟨xs,ho,hlen,hC⟩:=zj1 (S:=fun k o=>MemPlace.cell k o∈p) _ _ _ _ _ hA hT (fun j t v ht hv=>hval j t v (by grind) (by grind)) (fun k o h=>h);have hc:=(hcall xs ho).2 W (fun k o=>MemPlace.cell k o∈p) args (by omega) (fun j v c hv hc=>hC j v c (by grind) hc) (fun k o h=>hlt _ h);refine hc.mono fun e W' ⟨v,r,he,hrr,hbel,hCr⟩=>?_;subst he hrr;have hv:v=.bool true:=by cases hCr;rfl
 subst hv;have hlf:=hfn ds (zrd _ _ _ _ hA);refine⟨_,rfl,zio (pa:=p) (pv:=[]) hW' (fun b sp hd=>?_) (fun sp hsp=>?_) (fun sp _=>?_) rfl hbel (ok_one hr rfl (okWide_bool_mk hb _))⟩
 ·rw[Ybb,hlf,hr];exact trodAll_mk1 (shut_bool hb _)
 ·grind[znu]
 ·rw[Ybb,hlf,hvars];exact rfl
end
end
theorem zi0:∀(els:List (List AV)),(∀row∈els,Ok (.int .u32) row)→∃l:List UInt32,els=Zb l
 | [],_=>⟨[],rfl⟩
 | r::els,h=>by
  obtain⟨l,rfl⟩:=zi0 els fun row hr=>h row (Ym _ hr);obtain⟨n,rfl,hw⟩:=h r Y2;have h1:0≤n∧n<4294967296:=by
   simp[Lit.wf,IntKind.min,IntKind.max,IntKind.signed,IntKind.bits]at hw;omega
  refine⟨w32 n.toNat::l,?_⟩;have:(w32 n.toNat).toNat=n.toNat:=zah (by omega);simp only[Zb,Yv,this,u32];rw[Int.toNat_of_nonneg h1.1]
theorem zvn{P:Program}{ν:Nat→FuncId}{T:Tbl}(hT:TOk P ν T)(hm:P.follows .mixedOrders=true){u:Nat}{af:AFx}{xs ys:List AV}{r:AV}(hu:T u=some af)(hl:af.lent=none)(h:Za T u ys=some r)(hx:xs.map wkA=ys):Zad P (ν u) xs (·=r):=by
 subst hx;have h1:=zmi hT hm hu hl h;exact Zad.wk (ex:=false) h1
abbrev Fz:=Bool×List UInt32×List UInt32
abbrev Zbk(x:Fz):List AV:=[.b x.1,.sl (Zb x.2.1) .an,.sl (Zb x.2.2) .an]
abbrev efz(x:Fz):AV:=.agg (Zbk x)
def fv(x:Fz):Rat:=mkRat (wv x.1 x.2.1) (val x.2.2)
def fz(q:Rat):Fz:=(decide (q.num<0),ofN q.num.natAbs,ofN q.den)
@[simp] theorem zby(q:Rat):fv (fz q)=q:=by
 unfold fv fz;rw[zji,zag,Rat.mkRat_self]
def fsz(x:Fz):Nat:=max x.2.1.length x.2.2.length
theorem zfy(x:Fz):x.2.1.length≤fsz x:=Nat.le_max_left ..
theorem zfz(x:Fz):x.2.2.length≤fsz x:=Nat.le_max_right ..
def sz(q:Rat):Nat:=max (ofN q.num.natAbs).length (ofN q.den).length
theorem zlr(q:Rat):(ofN q.num.natAbs).length≤sz q:=Nat.le_max_left ..
theorem zii(q:Rat):(ofN q.den).length≤sz q:=Nat.le_max_right ..
theorem znb{n:Nat}(h:n≠0):1≤(ofN n).length:=by
 have:ofN n≠[]:=fun e=>h (za4.1 e);exact Ybz.2 this
theorem zxw(q:Rat):1≤sz q:=Yc (znb q.den_nz) (zii q)
theorem zxx{z:Int}{d:Nat}(h:d≠0):(mkRat z d).num.natAbs=z.natAbs/Nat.gcd z.natAbs d:=by
 rw[Rat.num_mkRat,if_neg h,Int.natAbs_ediv_of_dvd (Int.ofNat_dvd_left.2 (Nat.gcd_dvd_right ..)),Ybf,Yce]
theorem zxy{z:Int}{d:Nat}(h:d≠0):(mkRat z d).den=d/Nat.gcd z.natAbs d:=by
 rw[Rat.den_mkRat,if_neg h,Yce]
theorem zxz{z:Int}{d:Nat}(h:d≠0):sgI (mkRat z d).num=sgI z:=by
 rw[Rat.num_mkRat,if_neg h];have hg:0<Nat.gcd d z.natAbs:=Nat.gcd_pos_of_pos_left _ (Yax h);obtain⟨k,hk⟩:((Nat.gcd d z.natAbs:Nat):Int) ∣ z:=Int.ofNat_dvd_left.2 (Nat.gcd_dvd_right ..);generalize Nat.gcd d z.natAbs=g at *
 have hg':(0:Int)<g:=by omega
 subst hk;rw[Int.mul_ediv_cancel_left _ (by omega)];unfold sgI;rcases Int.lt_trichotomy k 0 with h1 | h1 | h1
 ·have:=Int.mul_neg_of_pos_of_neg hg' h1;rw[if_pos h1,if_pos this]
 ·subst h1;simp
 ·have:=Int.mul_pos hg' h1;rw[if_neg (by omega),if_neg (by omega),if_neg (by omega),if_neg (by omega)]
theorem zul(z:Int):decide (z<0)=decide (sgI z<0):=by
 unfold sgI;split
 ·simp[*]
 ·split<;>simp[*]
theorem z5q{z:Int}{d:Nat}(h:d≠0):decide ((mkRat z d).num<0)=decide (z<0):=by
 rw[zul,zul z,zxz h]
theorem zadv(n:Bool)(x:Nat){d:Nat}(h:d≠0):fz (mkRat (sg n x) d)=(n&&decide (x≠0),ofN (x/Nat.gcd x d),ofN (d/Nat.gcd x d)):=by
 unfold fz;rw[z5q h,zxx h,zxy h,zxv,zlq]
theorem zfn:ofN 1=[1]:=by
 rw[zhf (by decide),show 1/4294967296=0 from rfl,zjg]
 rfl
theorem zfo:sz 0=1:=by
 unfold sz;rw[Rat.zero_num,Rat.zero_den,zfn];simp
theorem zij:sz 1=1:=by
 unfold sz;rw[Rat.one_num,Rat.one_den,show (1:Int).natAbs=1 from rfl,zfn]
 rfl
theorem zav(q:Rat):fsz (fz q)=sz q:=rfl
theorem zqi{z:Int}{d L:Nat}(hz:(ofN z.natAbs).length≤L)(hd:(ofN d).length≤L)(h1:1≤L):sz (mkRat z d)≤L:=by
 unfold sz;by_cases h:d=0
 ·subst h;rw[Rat.mkRat_zero,Rat.zero_num,Rat.zero_den,zfn];simp;omega
 ·rw[zxx h,zxy h];exact Yd0.2 ⟨Yc (zbl (Ybt _ _)) hz,Yc (zbl (Ybt _ _)) hd⟩
theorem zee{x:Fz}{L:Nat}(h:fsz x≤L)(h1:1≤L):sz (fv x)≤L:=
 zqi (Yc (zcq _ _) (Yc (zfy x) h)) (Yc (zad _) (Yc (zfz x) h)) h1
theorem zbz{x y L M:Nat}(hx:(ofN x).length≤L)(hy:(ofN y).length≤M):(ofN (x*y)).length≤L+M:=by
 have:=za9 (x:=(x:Int)) (y:=(y:Int)) (L:=L) (M:=M) (by simpa using hx) (by simpa using hy);simpa[Int.natAbs_mul]using this
theorem zls(p q:Rat):sz (p+q)≤sz p+sz q+1:=by
 rw[Rat.add_def'];have h1:=zlr p;have h2:=zii p;have h3:=zlr q;have h4:=zii q;have h5:=zxw p;refine zqi ?_ (Yc (zbz h2 h4) (by omega)) (by omega);refine zcg ?_ ?_
 ·exact za9 h1 (by simpa using h4)
 ·rw[Yb6];exact za9 h3 (by simpa using h2)
theorem zfw(p q:Rat):sz (p*q)≤sz p+sz q:=by
 rw[Rat.mul_def'];have h1:=zlr p;have h2:=zii p;have h3:=zlr q;have h4:=zii q;have h5:=zxw p;exact zqi (za9 h1 h3) (zbz h2 h4) (by omega)
def sgQ(q:Rat):Int:=sgI q.num
theorem z5r{z:Int}{d:Nat}(h:d≠0):sgQ (mkRat z d)=sgI z:=zxz h
theorem zw3{z:Int}:sgI z=0↔z=0:=by
 unfold sgI;split
 ·constructor<;>intro h<;>omega
 ·split<;>constructor<;>intro h<;>omega
theorem zw4{q:Rat}:sgQ q=0↔q=0:=by
 unfold sgQ;rw[zw3,Rat.num_eq_zero]
def Zc(l:List Fz):List (List AV):=l.map Zbk
@[simp] theorem zb0(l:List Fz):(Zc l).length=l.length:=by simp[Zc]
@[simp] theorem zdm(l:List Fz):wkL (Zc l)=Zc l:=by rw[zbt];simp[Zc,wkR,wkA]
@[simp] theorem rowF_get?(l:List Fz)(i:Nat):(Zc l)[i]? = (l[i]?).map Zbk:=by simp[Zc]
@[simp] theorem z8u(l:List Fz)(i:Nat)(h:i<(Zc l).length):(Zc l)[i]=Zbk (l[i]'(by simpa using h)):=by simp[Zc]
theorem zhj(l:List Fz)(x:Fz):Zc l++[Zbk x]=Zc (l++[x]):=by simp[Zc]
theorem zoo(l:List Fz)(i:Nat)(x:Fz):(Zc l).set i (Zbk x)=Zc (l.set i x):=by simp[Zc,Ycc]
@[simp] theorem z5s(l:List Fz)(n:Nat):(Zc l).take n=Zc (l.take n):=by simp[Zc]
@[simp] theorem zdz:Zc []=[]:=rfl
def Zp(m:List (List Fz)):List (List AV):=m.map fun r=>[.sl (Zc r) .an]
@[simp] theorem z0q(l:List (List Fz)):(Zp l).length=l.length:=by simp[Zp]
@[simp] theorem zum(l:List (List Fz)):wkL (Zp l)=Zp l:=by rw[zbt];simp[Zp,wkR,wkA]
@[simp] theorem z8v(l:List (List Fz))(i:Nat)(h:i<(Zp l).length):(Zp l)[i]=[.sl (Zc (l[i]'(by simpa using h))) .an]:=by simp[Zp]
theorem zun(l:List (List Fz))(r:List Fz):Zp l++[[.sl (Zc r) .an]]=Zp (l++[r]):=by simp[Zp]
@[simp] theorem z5t(l:List (List Fz))(n:Nat):(Zp l).take n=Zp (l.take n):=by simp[Zp]
@[simp] theorem zop:Zp []=[]:=rfl
abbrev tyF:Ty:=.cons .bool (.cons (.sl (.int .u32)) (.cons (.sl (.int .u32)) .nil))
theorem zxl{cs:List AV}(h:Ok tyF cs):∃x:Fz,wkR cs=Zbk x:=by
 obtain⟨c1,c2,rfl,⟨b,rfl⟩,c3,c4,rfl,⟨els,f,rfl,_,_,he⟩,c5,c6,rfl,⟨els2,f2,rfl,_,_,he2⟩,rfl⟩:=h;obtain⟨l,rfl⟩:=zi0 els he;obtain⟨l2,rfl⟩:=zi0 els2 he2;refine⟨(b,l,l2),?_⟩;simp[wkA,wkR]
theorem zvq{x:AV}(h:Zgs (true,tyF) x):∃c:Fz,wkA x=efz c:=by
 obtain⟨cs,rfl,h⟩:=h;obtain⟨c,hc⟩:=zxl h;refine⟨c,?_⟩;rw[wkA,hc]
theorem zkr:∀(els:List (List AV)),(∀r∈els,Ok tyF r)→∃l:List Fz,wkL els=Zc l
 | [],_=>⟨[],rfl⟩
 | r::els,h=>by
  obtain⟨l,hl⟩:=zkr els fun r hr=>h r (Ym _ hr);obtain⟨x,hx⟩:=zxl (h r Y2);refine⟨x::l,?_⟩;simp only[wkL,hx,hl]
  rfl
theorem zcy{cs:List AV}(h:Ok (.sl tyF) cs):∃l:List Fz,wkR cs=[.sl (Zc l) .an]:=by
 obtain⟨els,f,rfl,_,_,he⟩:=h;obtain⟨l,hl⟩:=zkr els he;exact⟨l,by simp[wkR,wkA,hl]⟩
theorem zks:∀(els:List (List AV)),(∀r∈els,Ok (.sl tyF) r)→∃m:List (List Fz),wkL els=Zp m
 | [],_=>⟨[],rfl⟩
 | r::els,h=>by
  obtain⟨m,hm⟩:=zks els fun r hr=>h r (Ym _ hr);obtain⟨l,hl⟩:=zcy (h r Y2);refine⟨l::m,?_⟩;simp only[wkL,hl,hm]
  rfl
theorem zph{P:Program}{ν:Nat→FuncId}{l l':List (Nat×AFx)}(hT:TOk P ν fun u=>l'.lookup u)(hp:Part l l')(hm:P.follows .mixedOrders=true){u:Nat}{af:AFx}{xs ys:List AV}{r:AV}
  (hu:l'.lookup u=some af) (hl:af.lent=none) (h:Za (fun u=>l.lookup u) u ys=some r) (hx:xs.map wkA=ys):Zad P (ν u) xs (·=r):=
 zvn hT hm hu hl (hp.call (by rw[hu];rfl) h) hx
end Go.Ab
section
namespace Go.Proofs.YtajopjoiaogapaaGreatDoor
open Go Go.Ab Go.RowKit
def signS:ByteArray:=⟨#[43,45,42,47,94,40,41,91,93,44,59,61]⟩
theorem signS_lt:∀(p:Nat) (h:p<signS.size),(signS[p]'h).toNat<128:=by decide
theorem sign_at(c:Nat)(hc:c<256):Zjb.contains (UInt8.ofNat c)=decide (∃p,∃h:p<signS.size,(signS[p]'h).toNat=c):=by
 rw[Ybs,decide_eq_true_iff];have:∀c,c<256→(Zjb.contains (UInt8.ofNat c)=true↔∃p,∃h:p<signS.size,(signS[p]'h).toNat=c):=by decide +kernel
 exact this c hc
set_option maxHeartbeats 1000000 in
set_option maxRecDepth 100000 in
theorem sign_calls(c:Nat)(hc:c<256)(w:World):Calls Tryz.prog 154 #[.int .u8 (c:Int)] w fun e w'=>e=.returned (.bool (Zjb.contains (UInt8.ofNat c)))∧Below w.heap.size w w':=by
 rw[sign_at c hc]
 go_enter Tryz.func154,Tryz.ntmps154
 go_wp2
 go_loopw [] (fun wr=>∃pos:Nat,wr.heap[w.heap.size]? = some (.stringIter signS pos)∧Below w.heap.size w wr∧∀j,j<pos→∀h:j<signS.size,(signS[j]'h).toNat≠c) (fun wr=>signS.size-wr.iterPos w.heap.size)
 case atStart=>
  refine⟨0,World.iter_heap w signS 0,?_,fun j hj=>absurd hj (Nat.not_lt_zero _)⟩;exact(Below.refl _ w).alloc (Yg _) _
 case round=>
  obtain⟨pos,hit,hbw,hne⟩:=hrel;by_cases hp:pos<signS.size
  ·have hnx:∀ty,(Instr.next (.pointer (some ⟨w.heap.size,0,none⟩)) true ty).run Tryz.prog wr=_:=fun ty=>Lib.run_next_ascii_at wr w.heap.size signS pos ty hit hp (signS_lt pos hp);have hit2:=Lib.iterAt_heap wr w.heap.size signS pos (pos+1) hit;have hbw2:=Lib.below_iterAt hbw (k:=w.heap.size) (Yg _) signS (pos+1);obtain⟨x,hx⟩:∃x:Nat,(signS[pos]'hp).toNat=x:=⟨_,rfl⟩;have hx1:=signS_lt pos hp;rw[hx]at hnx hx1;have hwr:IntKind.u8.wrap (x:Int)=(x:Int):=by rw[IntKind.wrap_u8];omega
   by_cases hxc:x=c
   ·subst hxc
    go_wp2
    go_ret
    exact⟨by rw[decide_eq_true ⟨pos,hp,hx⟩];rfl,hbw2⟩
   ·have hxc':¬ (x:Int)=(c:Int):=by omega
    go_wp2
    go_roundw
    case rel=>
     refine⟨pos+1,hit2,hbw2,fun j hj h=>?_⟩;rcases Yt j pos with h1 | h1
     ·exact hne j h1 h
     ·obtain rfl:j=pos:=by omega
      rw[hx];exact hxc
    case measure=>
     simp only[World.iterPos,hit2,hit];omega
  ·have hnx:∀ty,(Instr.next (.pointer (some ⟨w.heap.size,0,none⟩)) true ty).run Tryz.prog wr=_:=fun ty=>Lib.run_next_end_at wr w.heap.size signS pos ty hit hp
   go_wp2
   go_ret
   have hno:¬ ∃p,∃h:p<signS.size,(signS[p]'h).toNat=c:=by
    rintro⟨p,h,hpc⟩
    exact hne p (by omega) h hpc
   exact⟨by rw[decide_eq_false hno];rfl,hbw⟩
theorem sign_ok:∀xs r,prim187 xs=some r→Zad Tryz.prog (nu 187) xs (·=r):=by
 have e:nu 187=154:=by kernel_rfl
 rw[e];intro xs r h;unfold prim187 at h;split at h
 ·rename_i n;split at h
  ·rename_i hn;cases h;refine⟨enters_of Tryz.func154 (by kernel_rfl) rfl,fun w S cargs hsz hC hS=>?_⟩;obtain⟨v0,rfl⟩:=one_arg hsz;have c0:v0=.int .u8 n:=by
    have:=hC 0 _ _ rfl rfl;cases this
    rfl
   subst c0;obtain⟨c,rfl⟩:∃c:Nat,n=c:=⟨n.toNat,by omega⟩;refine(sign_calls c (by omega) w).mono ?_
   rintro e w' ⟨rfl,hb⟩
   refine⟨_,_,rfl,?_,hb,.b _⟩;rw[Ych]
   rfl
  ·cases h
 ·cases h
abbrev tyW:Ty:=.cons (.int .i64) (.cons .str (.cons (.int .i64) .nil))
end Go.Proofs.YtajopjoiaogapaaGreatDoor
end
namespace Go.Ab
class Zlp (T:Tbl):Prop where
end Go.Ab
section
namespace Go.Ab
end Go.Ab
end
namespace Go.Ab
section
variable{T:Tbl}
theorem zho(G:Nat):∀y:Nat×Nat,(y.1<18446744073709551616∧y.2<18446744073709551616∧Nat.gcd y.1 y.2=G) →
  Zv T 0 0 (.norm false [0]) l198_0 ⟨[(0,u64 y.1),(1,u64 y.2)],[],2⟩=some (.n,⟨[(0,u64 G)],[],2⟩):=by
 refine za1 (fun y:Nat×Nat=>⟨[(0,u64 y.1),(1,u64 y.2)],[],2⟩) _ (fun y=>y.2) _ ?_
 rintro⟨x,y⟩ ⟨hx,hy,hG⟩
 simp only at hx hy hG ⊢;by_cases h:y=0
 ·right;subst h;rw[Nat.gcd_zero_right]at hG;subst hG;constructor<;>simp -implicitDefEqProofs[l198_0]
 ·left;have hm:=Ya5 x (Yax h);refine⟨(y,x%y),⟨hy,by simp only;omega,by simp only;rw[←hG,Yce y,←Nat.gcd_rec,Yce]⟩,hm,?_,trivial⟩;simp -implicitDefEqProofs[l198_0,h]
end
section
variable{T:Tbl}[Zf T]
theorem zkt(x y:Nat)(hx:x<18446744073709551616)(hy:y<18446744073709551616):Za T 198 [u64 x,u64 y]=some (u64 (Nat.gcd x y)):=by
 have h:=zho (T:=T) (Nat.gcd x y) (x,y) ⟨hx,hy,rfl⟩;simp only at h;rw[zab Zf.h198 rfl,b198];simp -implicitDefEqProofs[h]
theorem zpi(a:List UInt32):Za T 200 [.sl (Zb (ofN (val a))) .an]=some (.b (decide (val a=1))):=by
 rw[zab Zf.h200 rfl,b200];generalize val a=n;by_cases h0:n=0
 ·subst h0;simp -implicitDefEqProofs
 ·rw[zhf h0];by_cases h1:n/4294967296=0
  ·have e:ofN (n/4294967296)=[]:=za4.2 h1;have e2:n%4294967296=n:=Ys (by omega);simp -implicitDefEqProofs[e,Zb,zdc,e2]
  ·have h2:¬ ofN (n/4294967296)=[]:=fun e=>h1 (za4.1 e);have h3:¬ n=1:=by rintro rfl;simp at h1
   have h4:¬ ((ofN (n/4294967296)).length:Int)+1=1:=by
    have:=Ybz.2 h2;omega
   simp -implicitDefEqProofs[Zb,h3,h4]
end
section
variable{T:Tbl}[Zn T][Zs T][Zw T][Zq T][Zk T][Zf T]
theorem zvr(G:Nat):∀y:List UInt32×List UInt32,(y.1.length≤90000∧y.2.length≤90000∧(∃n,y.1=ofN n)∧(∃n,y.2=ofN n)∧Nat.gcd (val y.1) (val y.2)=G) →
  ∃r,(∃a b:List UInt32,r=(Ex.n,(⟨[(0,.sl (Zb a) .an),(1,.sl (Zb b) .an)],[],2⟩:St))∧a.length≤90000∧b.length≤2∧(∃n,a=ofN n)∧(∃n,b=ofN n)∧Nat.gcd (val a) (val b)=G) ∧
   Zv T 0 0 (.norm false [0,1]) l199_0 ⟨[(0,.sl (Zb y.1) .an),(1,.sl (Zb y.2) .an)],[],2⟩=some r:=by
 refine za0 (fun y:List UInt32×List UInt32=>⟨[(0,.sl (Zb y.1) .an),(1,.sl (Zb y.2) .an)],[],2⟩) _ (fun y=>val y.2) _ ?_
 rintro⟨a,b⟩ ⟨ha,hb,hk,hn,hG⟩
 simp only at ha hb hk hn hG ⊢;by_cases h:2<b.length
 ·left;have h':(2:Int)<b.length:=by omega
  have hv:val b≠0:=by
   obtain⟨n,rfl⟩:=hn;rw[zag]
   rintro rfl
   simp at h
  have hd:=ze0 (T:=T) a b ha hb;rw[if_neg hv]at hd;have hm:=Ya5 (val a) (Yax hv);refine⟨(b,ofN (val a%val b)),⟨hb,?_,hn,⟨_,rfl⟩,?_⟩,?_,?_⟩
  ·have:=zbl (Ydb hm);have:=zad b;simp only;omega
  ·simp only;rw[zag,←hG,Yce (val b),←Nat.gcd_rec,Yce]
  ·simp only[zag];exact hm
  ·clear hG hm hn hv hk;simp -implicitDefEqProofs[l199_0,h',hd]
 ·right;have h':¬ (2:Int)<b.length:=by omega
  refine⟨_,⟨a,b,rfl,ha,by omega,hk,hn,hG⟩,?_,?_⟩<;>clear hG<;>simp -implicitDefEqProofs[l199_0,h']
theorem zmk(a b:List UInt32)(ha:a.length≤90000)(hb:b.length≤90000):Za T 199 [.sl (Zb a) .an,.sl (Zb b) .an]=some (.sl (Zb (ofN (Nat.gcd (val a) (val b)))) .an):=by
 have h1:=za6 (T:=T) a (by omega);have h2:=za6 (T:=T) b (by omega);have la:=zad a;have lb:=zad b;obtain⟨G,hG⟩:∃G,G=Nat.gcd (val a) (val b):=⟨_,rfl⟩;obtain⟨_,⟨x,y,rfl,hx,hy,⟨m,rfl⟩,⟨n,rfl⟩,hg⟩,hr⟩:=zvr (T:=T) G (ofN (val a),ofN (val b)) ⟨by simp only;omega,by simp only;omega,⟨_,rfl⟩,⟨_,rfl⟩,by simp only[zag];exact hG.symm⟩;simp only at hr;rw[zag,zag]at hg;rw[zab Zf.h199 rfl,b199,←hG];clear hG;by_cases h0:n=0
 ·subst h0;rw[Nat.gcd_zero_right]at hg;subst hg;simp -implicitDefEqProofs[h1,h2,hr]
 ·have hv:val (ofN n)≠0:=by rw[zag];exact h0
  have hd:=ze0 (T:=T) (ofN m) (ofN n) hx (by omega);rw[if_neg hv,zag,zag]at hd;have hn64:n<18446744073709551616:=by
   have:=za5 (ofN n);rw[zag]at this;exact Yl this (Yn (by decide) hy)
  have hm:=Ya5 m (Yax h0);have s1:=zk7 (T:=T) (ofN n) (by omega);rw[zag,if_pos hn64]at s1;have s2:=zk7 (T:=T) (ofN (m%n)) (by have:=zbl (Ydb hm);omega);rw[zag,if_pos (by omega)]at s2;have s3:=zkt (T:=T) n (m%n) hn64 (by omega);have e:Nat.gcd n (m%n)=G:=by rw[←hg,Yce n,←Nat.gcd_rec,Yce]
  rw[e]at s3;have s4:=zd4 (T:=T) G (by
   rw[←hg];exact Ycw (Nat.gcd_le_right _ (Yax h0)) hn64)
  have hl:¬ ofN n=[]:=fun e=>h0 (za4.1 e);simp -implicitDefEqProofs[h1,h2,hr,hd,s1,s2,s3,s4,hl,h0]
theorem zhp(a b:List UInt32)(ha:a.length≤90000)(hb:b.length≤90000):Za T 201 [.sl (Zb a) .an,.sl (Zb b) .an] =
  some (.tup [.sl (Zb (ofN (val a/Nat.gcd (val a) (val b)))) .an,.sl (Zb (ofN (val b/Nat.gcd (val a) (val b)))) .an]):=by
 have hg:=zmk (T:=T) a b ha hb;have ho:=zpi (T:=T) (ofN (Nat.gcd (val a) (val b)));rw[zag]at ho;have ll:(ofN (Nat.gcd (val a) (val b))).length≤90000:=by
  by_cases h:val a=0
  ·rw[h,Nat.gcd_zero_left];have:=zad b;omega
  ·have:=zbl (Nat.gcd_le_left (val b) (Yax h));have:=zad a;omega
 have d1:=ze0 (T:=T) a (ofN (Nat.gcd (val a) (val b))) ha ll;have d2:=ze0 (T:=T) b (ofN (Nat.gcd (val a) (val b))) hb ll;have n1:=za6 (T:=T) a (by omega);have n2:=za6 (T:=T) b (by omega);rw[zag]at d1 d2;rw[zab Zf.h201 rfl,b201];by_cases h0:Nat.gcd (val a) (val b)=0
 ·rw[h0]at hg ⊢;simp only[zjg]at hg;simp -implicitDefEqProofs[hg]
 ·rw[if_neg h0]at d1 d2;have hl:¬ ofN (Nat.gcd (val a) (val b))=[]:=fun e=>h0 (za4.1 e);by_cases h1:Nat.gcd (val a) (val b)=1
  ·rw[h1]at hg ho hl ⊢;simp -implicitDefEqProofs[hg,ho,n1,n2,hl]
  ·generalize Nat.gcd (val a) (val b)=g at *
   simp -implicitDefEqProofs[hg,ho,d1,d2,hl,h0,h1]
end
section
variable{T:Tbl}[Ze T]
theorem zaz(n:Bool)(k:Nat):Za T 55 [.b n,.sl (Zb (ofN k)) .an]=some (ez (sg n k)):=by
 rw[zab Ze.h55 rfl,b55,z5m];have h:(0<(ofN k).length)=(k≠0):=by
  rw[eq_iff_iff,Ybz];exact not_congr za4
 cases n<;>simp -implicitDefEqProofs[h]
end
section
variable{T:Tbl}[Zn T][Ze T]
theorem zqc(n:Bool)(a:List UInt32)(ha:a.length≤1000000):Za T 38 [wh n a]=some (ez (wv n a)):=by
 have h:=za6 (T:=T) a (by omega);have hs:=zaz (T:=T) n (val a);rw[zab Ze.h38 rfl,b38];simp -implicitDefEqProofs[h,hs,wv]
end
section
variable{T:Tbl}[Zn T][Ze T]
theorem zue(n:Bool)(a:List UInt32)(ha:a.length≤1000000):Za T 40 [wh n a]=some (ez (-wv n a)):=by
 have h:=za6 (T:=T) a (by omega);have hs:=zaz (T:=T) (!n) (val a);rw[z5n]at hs;rw[zab Ze.h40 rfl,b40];simp -implicitDefEqProofs[h,hs,wv]
end
section
variable{T:Tbl}[Zn T][Ze T]
theorem zig(n m:Bool)(a b:List UInt32)(ha:a.length≤90000)(hb:b.length≤90000):Za T 23 [wh n a,wh m b]=some (ez (wv n a+wv m b)):=by
 rw[zab Ze.h23 rfl,b23];by_cases h:n=m
 ·subst h;have hn:=zoc (T:=T) [a,b] (by simp) (by simp;omega);have hs:=zaz (T:=T) n (val a+val b);rw[zna]at hs;have e:lls [a,b]=[[.sl (Zb a) .an],[.sl (Zb b) .an]]:=rfl;have e2:Zdk [a,b]=val a+val b:=by simp[Zdk]
  rw[e,e2]at hn;simp -implicitDefEqProofs[hn,hs,wv]
 ·have hg:=zzo (T:=T) a b (by omega) (by omega);by_cases hlt:val a<val b
  ·have hs:=zaz (T:=T) m (val b-val a);rw[zuj h hlt]at hs;simp -implicitDefEqProofs[h,hg,hlt,zdb,hs,wv]
  ·have hs:=zaz (T:=T) n (val a-val b);rw[zuk h hlt]at hs;simp -implicitDefEqProofs[h,hg,hlt,zdb,hs,wv]
end
section
variable{T:Tbl}[Zn T][Ze T]
theorem zqd(n m:Bool)(a b:List UInt32)(ha:a.length≤90000)(hb:b.length≤90000):Za T 25 [wh n a,wh m b]=some (ez (wv n a-wv m b)):=by
 obtain⟨z,hz⟩:∃z,z=-wv m b:=⟨_,rfl⟩;have h1:=zue (T:=T) m b (by omega);have hl:=zcq m b;rw[←zhi,←hz]at hl;have h2:=zig (T:=T) n (decide (z<0)) a (ofN z.natAbs) (by omega) (by omega);have e:wv n a-wv m b=wv n a+z:=by omega
 rw[zji,←e]at h2;rw[←hz]at h1;rw[zab Ze.h25 rfl,b25];simp -implicitDefEqProofs[h1,h2]
end
section
variable{T:Tbl}[Zs T][Ze T]
theorem zln(n m:Bool)(a b:List UInt32)(ha:a.length≤100000)(hb:b.length≤100000):Za T 27 [wh n a,wh m b]=some (ez (wv n a*wv m b)):=by
 have h1:=zez (T:=T) a b ha hb;have hs:=zaz (T:=T) (n != m) (val a*val b);rw[z5o]at hs;rw[zab Ze.h27 rfl,b27];simp -implicitDefEqProofs[h1,hs,wv]
end
section
variable{T:Tbl}[Zn T][Ze T]
theorem zqe(n:Bool)(a:List UInt32)(ha:a.length≤1000000):Za T 37 [wh n a]=some (.i .i64 (sgI (wv n a))):=by
 have h1:=zi6 (T:=T) a (by omega);rw[zab Ze.h37 rfl,b37];unfold wv;rw[z5p];by_cases h:val a=0
 ·simp -implicitDefEqProofs[h1,h]
 ·cases n<;>simp -implicitDefEqProofs[h1,h]
end
section
variable{T:Tbl}[Zn T][Ze T]
theorem zqf(n m:Bool)(a b:List UInt32)(ha:a.length≤90000)(hb:b.length≤90000):Za T 36 [wh n a,wh m b]=some (.i .i64 (sgI (wv n a-wv m b))):=by
 have h1:=zqd (T:=T) n m a b ha hb;have hl:=zcg (x:=wv n a) (y:=-wv m b) (L:=90000) (by have:=zcq n a;omega) (by rw[zhi];have:=zcq m b;omega);rw[←Int.sub_eq_add_neg]at hl;have h2:=zqe (T:=T) (decide (wv n a-wv m b<0)) (ofN (wv n a-wv m b).natAbs) (show (ofN (wv n a-wv m b).natAbs).length≤1000000 by omega);rw[zji]at h2;rw[zab Ze.h36 rfl,b36];simp -implicitDefEqProofs[h1,h2]
end
section
variable{T:Tbl}[Zn T][Ze T]
theorem zw0(k:Int)(h1:-9223372036854775808≤k)(h2:k<9223372036854775808):Za T 41 [.i .i64 k]=some (ez k):=by
 rw[zab Ze.h41 rfl,b41];by_cases h:k<0
 ·have hn:=zd4 (T:=T) k.natAbs (by omega);have hs:=zaz (T:=T) true k.natAbs;have e:sg true k.natAbs=k:=by simp[sg];omega
  have e2:Zi5 0 (k%18446744073709551616).toNat=k.natAbs:=by unfold Zi5;omega
  rw[e]at hs;simp -implicitDefEqProofs[h,e2,hn,hs]
 ·have hn:=zd4 (T:=T) k.natAbs (by omega);have hs:=zaz (T:=T) false k.natAbs;have e:sg false k.natAbs=k:=by simp[sg];omega
  have e2:(k%18446744073709551616).toNat=k.natAbs:=by omega
  rw[e]at hs;simp -implicitDefEqProofs[h,e2,hn,hs]
end
section
variable{T:Tbl}[Zs T][Zx T][Ze T]
theorem zqg(l:List UInt8)(hl:l.length≤1000000):Za T 32 [.s l]=some (.tup (if 0≤Zb3 l then [wh false [],.agg [.i .i64 1,.i .i64 0,.i .i64 0,.i .i64 (Zb3 l+Zc3 l)]]
  else [ez (Za0 l),.agg [.i .i64 0,.i .i64 0,.i .i64 0,.i .i64 0]])):=by
 have h1:=zsd (T:=T) l hl;obtain⟨l',hl'⟩:∃l',l'=if l.head? = some 45 then l.tail else l:=⟨_,rfl⟩
 have hl2:l'.length≤1000000:=by
  rw[hl'];split
  ·simp;omega
  ·exact hl
 have h2:=zg0 (T:=T) l' hl2;have hs:=zaz (T:=T) (l.head? = some 45) (rd l');have hm:(l.length:Int)-l'.length=Zc3 l:=by
  rw[hl'];unfold Zc3;split
  ·rename_i h;cases l with
   | nil=>cases h
   | cons c r=>simp;omega
  ·omega
 unfold Zb3 Za0;rw[←hl']at h1 ⊢;have hw1:IntKind.wrap .i64 ((l.length:Int)-l'.length)=Zc3 l:=by rw[hm];exact zac _ (by unfold Zc3;split<;>omega)
 rw[zab Ze.h32 rfl,b32];have hwb:Z0 l'≤60:=by
  unfold Z0;split
  ·omega
  ·exact zhg 0 l' (by omega)
 by_cases h0:0≤Z0 l'
 ·have hw2:IntKind.wrap .i64 (Z0 l'+Zc3 l)=Z0 l'+Zc3 l:=zac _ (by unfold Zc3;split<;>omega);simp -implicitDefEqProofs[h1,h2,h0,hw1,hw2,zmj]
 ·simp -implicitDefEqProofs[h1,h2,h0,hs]
end
section
variable{T:Tbl}[Zn T][Zs T][Zw T][Zq T][Zk T][Ze T][Zf T][Zr T]
theorem zml(p q:Int)(hp:(ofN p.natAbs).length≤90000)(hq:(ofN q.natAbs).length≤90000):Za T 23 [ez p,ez q]=some (ez (p+q)):=by
 grind[zig,zji]
theorem zmm(p q:Int)(hp:(ofN p.natAbs).length≤90000)(hq:(ofN q.natAbs).length≤90000):Za T 36 [ez p,ez q]=some (.i .i64 (sgI (p-q))):=by
 grind[zqf,zji]
theorem zpl{x d:Nat}(h:d≠0):decide (x/Nat.gcd x d≠0)=decide (x≠0):=by
 obtain⟨k,hk⟩:=Nat.gcd_dvd_left x d
 grind[Nat.mul_div_cancel_left,Nat.mul_eq_zero]
theorem zcn(n:Bool)(a d:List UInt32)(ha:a.length≤90000)(hd:d.length≤90000)(h:val d≠0) :
  Za T 202 [wh n a,.sl (Zb d) .an]=some (efz (fz (mkRat (wv n a) (val d)))):=by
 have e:=zadv n (val a) h
 change fz (mkRat (wv n a) (val d))=_ at e
 have hc:=zhp (T:=T) a d ha hd;have hl:(ofN (val a/Nat.gcd (val a) (val d))).length≤1000000:=by
  have:=zbl (Ybt (val a) (Nat.gcd (val a) (val d)));have:=zad a;omega
 have hn:=zqc (T:=T) n _ hl;have e2:wv n (ofN (val a/Nat.gcd (val a) (val d)))=sg n (val a/Nat.gcd (val a) (val d)):=by unfold wv;rw[zag]
 rw[e2,z5m,zpl h]at hn;rw[e,zab Zr.h202 rfl,b202];simp -implicitDefEqProofs[hc,hn]
theorem zmn(n:Bool)(a d:List UInt32)(ha:a.length≤10000)(hd:d.length≤10000)(h:val d≠0) :
  Za T 202 [wh n a,.sl (Zb d) .an]=some (efz (fz (mkRat (wv n a) (val d)))):=zcn (T:=T) n a d (Yc ha (by decide)) (Yc hd (by decide)) h
theorem zbv(x:Fz)(hx:fsz x≤100000):∃y:Fz,val y.2.2≠0∧fv y=fv x∧fsz y≤max 1 (fsz x)∧Za T 203 [efz x]=some (.tup [wh y.1 y.2.1,.sl (Zb y.2.2) .an]):=by
 obtain⟨n,a,d⟩:=x;have h1:=zfy (n,a,d);have h2:=zfz (n,a,d);simp only at h1 h2;have hz:=zi6 (T:=T) d (by omega);by_cases h:val d=0
 ·refine⟨(false,[],[1]),by simp,?_,?_,?_⟩
  ·unfold fv;simp only[h,Rat.mkRat_zero]
   rfl
  ·show 1≤_;omega
  ·have ho:=zd4 (T:=T) 1 (by decide);rw[zfn]at ho;rw[zab Zr.h203 rfl,b203];simp -implicitDefEqProofs[hz,h,ho]
 ·refine⟨(n,a,d),h,rfl,by omega,?_⟩;rw[zab Zr.h203 rfl,b203];simp -implicitDefEqProofs[hz,h]
theorem zmo(k:Int)(h1:-9223372036854775808≤k)(h2:k<9223372036854775808):Za T 205 [.i .i64 k]=some (efz (fz (k:Rat))):=by
 have hw:=zw0 (T:=T) k h1 h2;have ho:=zd4 (T:=T) 1 (by decide);have e:fz (k:Rat)=(decide (k<0),ofN k.natAbs,ofN 1):=rfl;rw[e,zab Zr.h205 rfl,b205];simp -implicitDefEqProofs[hw,ho]
theorem zco:Za T 205 [.i .i64 0]=some (efz (fz 0)):=zmo 0 (by decide) (by decide)
theorem zf4:Za T 205 [.i .i64 1]=some (efz (fz 1)):=zmo 1 (by decide) (by decide)
theorem zpm(x:Fz)(hx:fsz x≤90000):Za T 207 [efz x]=some (efz (fz (fv x))):=by
 obtain⟨⟨n,a,d⟩,h1,h2,h3,hp⟩:=zbv (T:=T) x (by omega);have la:=zfy (n,a,d);have ld:=zfz (n,a,d);simp only at la ld;have hc:=zcn (T:=T) n a d (by omega) (by omega) h1;rw[←h2]
 change _=some (efz (fz (mkRat (wv n a) (val d))))
 rw[zab Zr.h207 rfl,b207];simp -implicitDefEqProofs[hp,hc]
theorem zkx(x:Fz)(hx:fsz x≤10000):Za T 207 [efz x]=some (efz (fz (fv x))):=zpm (T:=T) x (Yc hx (by decide))
theorem zda(n:Bool)(a d:List UInt32)(ha:a.length≤90000)(hd:d.length≤90000):Za T 210 [wh n a,.sl (Zb d) .an]=some (ez (wv n a*(val d:Int))):=by
 have hm:=zln (T:=T) n false a d (by omega) (by omega);rw[show wv false d=(val d:Int) from rfl]at hm;rw[zab Zr.h210 rfl,b210];simp -implicitDefEqProofs[hm]
theorem zsh(x x':Fz)(hx:fsz x≤30000)(hx':fsz x'≤30000):Za T 211 [efz x,efz x']=some (.i .i64 (sgQ (fv x-fv x'))):=by
 obtain⟨⟨n,a,d⟩,h1,h2,h3,hp⟩:=zbv (T:=T) x (by omega);obtain⟨⟨m,b,e⟩,h1',h2',h3',hp'⟩:=zbv (T:=T) x' (by omega);have la:=zfy (n,a,d);have ld:=zfz (n,a,d);have lb:=zfy (m,b,e);have le:=zfz (m,b,e);simp only at la ld lb le;have c1:=zda (T:=T) n a e (by omega) (by omega);have c2:=zda (T:=T) m b d (by omega) (by omega);have l1:(ofN (wv n a*(val e:Int)).natAbs).length≤60000:=by
  have:=za9 (x:=wv n a) (y:=(val e:Int)) (L:=30000) (M:=30000) (Yc (zcq n a) (by omega)) (Yc (zcq false e) (by omega));omega
 have l2:(ofN (wv m b*(val d:Int)).natAbs).length≤60000:=by
  have:=za9 (x:=wv m b) (y:=(val d:Int)) (L:=30000) (M:=30000) (Yc (zcq m b) (by omega)) (Yc (zcq false d) (by omega));omega
 have e1:sgQ (fv x-fv x')=sgI (wv n a*(val e:Int)-wv m b*(val d:Int)):=by
  rw[←h2,←h2',Rat.sub_eq_add_neg];unfold fv;rw[Rat.neg_mkRat,Rat.mkRat_add_mkRat _ _ h1 h1',z5r (Yds h1 h1'),Int.neg_mul]
  rfl
 generalize wv n a*(val e:Int)=z1 at *
 generalize wv m b*(val d:Int)=z2 at *
 have c3:=zmm (T:=T) z1 z2 (by omega) (by omega);rw[e1,zab Zr.h211 rfl,b211];simp -implicitDefEqProofs[hp,hp',c1,c2,c3]
theorem zdu(x x':Fz)(hx:fsz x≤30000)(hx':fsz x'≤30000):Za T 212 [efz x,efz x']=some (.b (decide (fv x=fv x'))):=by
 have hc:=zsh (T:=T) x x' hx hx';have e:(sgQ (fv x-fv x') == 0)=decide (fv x=fv x'):=by
  grind[zw4]
 rw[zab Zr.h212 rfl,b212];simp -implicitDefEqProofs[hc,e]
theorem zg1(x x':Fz)(hx:fsz x≤1000)(hx':fsz x'≤1000):Za T 212 [efz x,efz x']=some (.b (decide (fv x=fv x'))):=zdu (T:=T) x x' (Yc hx (by decide)) (Yc hx' (by decide))
theorem zes(x x':Fz)(hx:fsz x≤30000)(hx':fsz x'≤30000):Za T 215 [efz x,efz x']=some (efz (fz (fv x+fv x'))):=by
 obtain⟨⟨n,a,d⟩,h1,h2,h3,hp⟩:=zbv (T:=T) x (by omega);obtain⟨⟨m,b,e⟩,h1',h2',h3',hp'⟩:=zbv (T:=T) x' (by omega);have la:=zfy (n,a,d);have ld:=zfz (n,a,d);have lb:=zfy (m,b,e);have le:=zfz (m,b,e);simp only at la ld lb le;have c1:=zda (T:=T) n a e (by omega) (by omega);have c2:=zda (T:=T) m b d (by omega) (by omega);have c4:=zez (T:=T) d e (by omega) (by omega);have l1:(ofN (wv n a*(val e:Int)).natAbs).length≤60000:=by
  have:=za9 (x:=wv n a) (y:=(val e:Int)) (L:=30000) (M:=30000) (Yc (zcq n a) (by omega)) (Yc (zcq false e) (by omega));omega
 have l2:(ofN (wv m b*(val d:Int)).natAbs).length≤60000:=by
  have:=za9 (x:=wv m b) (y:=(val d:Int)) (L:=30000) (M:=30000) (Yc (zcq m b) (by omega)) (Yc (zcq false d) (by omega));omega
 have l3:(ofN (val d*val e)).length≤60000:=by
  have:=zbz (x:=val d) (y:=val e) (L:=30000) (M:=30000) (Yc (zad d) (by omega)) (Yc (zad e) (by omega));omega
 have e1:fv x+fv x'=mkRat (wv n a*(val e:Int)+wv m b*(val d:Int)) (val d*val e):=by
  rw[←h2,←h2'];exact Rat.mkRat_add_mkRat _ _ h1 h1'
 have hne:=Yds h1 h1';generalize wv n a*(val e:Int)=z1 at *
 generalize wv m b*(val d:Int)=z2 at *
 generalize val d*val e=D at *
 have c3:=zml (T:=T) z1 z2 (by omega) (by omega);have c5:=zcn (T:=T) (decide (z1+z2<0)) (ofN (z1+z2).natAbs) (ofN D) (by have:=zcg l1 l2;omega) (by omega) (by rw[zag];omega);rw[zji,zag,←e1]at c5;rw[zab Zr.h215 rfl,b215];simp -implicitDefEqProofs[hp,hp',c1,c2,c3,c4,c5]
theorem zn6(x x':Fz)(hx:fsz x≤1000)(hx':fsz x'≤1000):Za T 215 [efz x,efz x']=some (efz (fz (fv x+fv x'))):=zes (T:=T) x x' (Yc hx (by decide)) (Yc hx' (by decide))
theorem zcz(x x':Fz)(hx:fsz x≤30000)(hx':fsz x'≤30000):Za T 217 [efz x,efz x']=some (efz (fz (fv x*fv x'))):=by
 obtain⟨⟨n,a,d⟩,h1,h2,h3,hp⟩:=zbv (T:=T) x (by omega);obtain⟨⟨m,b,e⟩,h1',h2',h3',hp'⟩:=zbv (T:=T) x' (by omega);have la:=zfy (n,a,d);have ld:=zfz (n,a,d);have lb:=zfy (m,b,e);have le:=zfz (m,b,e);simp only at la ld lb le;have c3:=zln (T:=T) n m a b (by omega) (by omega);have c4:=zez (T:=T) d e (by omega) (by omega);have l1:(ofN (wv n a*wv m b).natAbs).length≤60000:=by
  have:=za9 (x:=wv n a) (y:=wv m b) (L:=30000) (M:=30000) (Yc (zcq n a) (by omega)) (Yc (zcq m b) (by omega));omega
 have l3:(ofN (val d*val e)).length≤60000:=by
  have:=zbz (x:=val d) (y:=val e) (L:=30000) (M:=30000) (Yc (zad d) (by omega)) (Yc (zad e) (by omega));omega
 have e1:fv x*fv x'=mkRat (wv n a*wv m b) (val d*val e):=by
  rw[←h2,←h2'];exact Rat.mkRat_mul_mkRat _ _ _ _
 have hne:=Yds h1 h1';generalize wv n a*wv m b=z at *
 generalize val d*val e=D at *
 have c5:=zcn (T:=T) (decide (z<0)) (ofN z.natAbs) (ofN D) (by omega) (by omega) (by rw[zag];omega);rw[zji,zag,←e1]at c5;rw[f217 _ rfl,b217];simp -implicitDefEqProofs[hp,hp',c3,c4,c5]
theorem zvv(x x':Fz)(hx:fsz x≤1000)(hx':fsz x'≤1000):Za T 217 [efz x,efz x']=some (efz (fz (fv x*fv x'))):=zcz (T:=T) x x' (Yc hx (by decide)) (Yc hx' (by decide))
end
def nrm(l:List Fz):List Fz:=l.map fun x=>fz (fv x)
def fzs(l:List Rat):List Fz:=l.map fz
theorem zdl{m:List Fz}{n:Nat}(h:m.length=n)(x:Fz):wkL (Zc (List.take n m)++[Zbk x])=Zc (m++[x]):=by
 rw[Yb (by omega),zhj,zdm]
theorem ze1{α β:Type}(l:List α)(f:α→β){i:Nat}(h:i<l.length):(l.take (i+1)).map f=(l.take i).map f++[f (l[i]'h)]:=by
 grind[List.take_succ_eq_append_getElem]
@[simp] theorem z5d:Z4 []=[]:=rfl
def Zlq(q:Rat):List UInt8:=if q.den=1 then Zlr q.num else Zlr q.num++47::Zg7 q.den
section
variable{T:Tbl}[Zn T][Zs T][Zw T][Zq T][Zk T][Zaz T][Ze T][Zf T][Zr T][Zab T][Zbn T]
def Zrz(n i:Nat):St:=⟨[(3,.bs (.loc 9) 1 3 0 n),(10,.i .i64 n),(11,.i .i64 i)],[(.loc 9,⟨1,.own,3,Zc (List.replicate i (fz 0))++List.replicate (n-i) [.b false,.sl [] .an,.sl [] .an]⟩)],3⟩
def Zki(l:List Fz)(i:Nat):St:=⟨[(3,.bs (.loc 3) 1 3 0 i),(6,.sl (Zc l) .an),(7,.i .i64 l.length),(8,.i .i64 i)],[(.loc 3,⟨1,.own,3,Zc (nrm (l.take i))⟩)],3⟩
theorem ztf(l:List Fz)(hl:l.length≤1000)(hw:∀x∈l,fsz x≤1000) :
  Zv T 0 0 (.norm false [3]) l266_0 (Zki l 0)=some (.n,⟨[(3,.bs (.loc 3) 1 3 0 l.length)],[(.loc 3,⟨1,.own,3,Zc (nrm l)⟩)],3⟩):=by
 refine zau (Zki l) l.length _ (fun i hi=>?_) ?_
 ·have hws:=zb8 hi (by omega);have hn:=zkx (T:=T) (l[i]'hi) (Yc (hw _ (Yp hi)) (by decide));have e:nrm (l.take (i+1))=nrm (l.take i)++[fz (fv (l[i]'hi))]:=ze1 l _ hi;have hp:=zdl (m:=nrm (l.take i)) (n:=i) (by simp[nrm];omega) (fz (fv (l[i]'hi)));have hml:(nrm (l.take i)).length=i:=by simp[nrm];omega
  unfold Zki;rw[e];have hb:i≤4294967295:=by omega
  simp -implicitDefEqProofs[l266_0,hi,hws,hn,hp,hml,hb]
 ·unfold Zki;rw[Yb (Yg _)];constructor<;>simp -implicitDefEqProofs[l266_0]
theorem zft(l:List Fz)(hl:l.length≤1000)(hw:∀x∈l,fsz x≤1000):Zcf T 2266 [.sl (Zc l) .an] []=some (.bs (.loc 3) 1 3 0 l.length,[(.loc 3,⟨1,.own,3,Zc (nrm l)⟩)]):=by
 have h:=ztf (T:=T) l hl hw;rw[show l266_0=l2266_0 from rfl]at h;unfold Zki at h;simp[nrm]at h;rw[zbn Zbn.h2266 rfl,b2266];simp -implicitDefEqProofs[h,nrm]
def scl(c:Rat)(l:List Fz):List Fz:=l.map fun x=>fz (c*fv x)
def Zkj(c:Fz)(l:List Fz)(i:Nat):St:=⟨[(2,.ptr (.loc 2) 1 3 0 0),(5,.bs (.loc 5) 2 3 0 i),(8,.sl (Zc l) .an),(9,.i .i64 l.length),(10,.i .i64 i)],[(.loc 2,⟨1,.str,3,[Zbk c]⟩),(.loc 5,⟨2,.own,3,Zc (scl (fv c) (l.take i))⟩)],4⟩
theorem zp3(c:Fz)(hc:fsz c≤1000)(l:List Fz)(hl:l.length≤1000)(hw:∀x∈l,fsz x≤1000) :
  Zv T 0 0 (.norm false [5]) l269_0 (Zkj c l 0)=some (.n,⟨[(5,.bs (.loc 5) 1 3 0 l.length)],[(.loc 5,⟨1,.own,3,Zc (scl (fv c) l)⟩)],3⟩):=by
 refine zau (Zkj c l) l.length _ (fun i hi=>?_) ?_
 ·have hws:=zb8 hi (by omega);have hn:=zvv (T:=T) c (l[i]'hi) hc (hw _ (Yp hi));have e:scl (fv c) (l.take (i+1))=scl (fv c) (l.take i)++[fz (fv c*fv (l[i]'hi))]:=ze1 l _ hi;have hml:(scl (fv c) (l.take i)).length=i:=by simp[scl];omega
  have hp:=zdl hml (fz (fv c*fv (l[i]'hi)));unfold Zkj;rw[e];have hb:i≤4294967295:=by omega
  simp -implicitDefEqProofs[l269_0,hi,hws,hn,hp,hml,hb]
 ·unfold Zkj;rw[Yb (Yg _)];constructor<;>simp -implicitDefEqProofs[l269_0]
theorem ztg(c:Fz)(hc:fsz c≤1000)(l:List Fz)(hl:l.length≤1000)(hw:∀x∈l,fsz x≤1000):Za T 269 [efz c,.sl (Zc l) .an]=some (.sl (Zc (scl (fv c) l)) .an):=by
 have h:=zp3 (T:=T) c hc l hl hw;unfold Zkj at h;have e:scl (fv c) (l.take 0)=[]:=rfl;rw[e]at h;simp at h;have ht:List.take l.length (scl (fv c) l)=scl (fv c) l:=Yb (by simp[scl]);have hl2:(scl (fv c) l).length=l.length:=by simp[scl]
 rw[zab Zbn.h269 rfl,b269];simp -implicitDefEqProofs[h,ht,hl2]
def Zbs:List Fz→List Fz→Rat
 | x::a,y::b=>fv x*fv y+Zbs a b
 | _,_=>0
def Zc6(a b:List Fz)(i:Nat):Rat:=Zbs (a.take i) (b.take i)
theorem zlh:∀(a b:List Fz) (x y:Fz),a.length=b.length→Zbs (a++[x]) (b++[y])=Zbs a b+fv x*fv y
 | [],[],x,y,_=>by simp[Zbs,Rat.add_zero,Ydu]
 | u::a,v::b,x,y,h=>by
  have ih:=zlh a b x y (by simpa using h);simp only[Ybl,Zbs,ih,Rat.add_assoc]
theorem zha{a b:List Fz}(hab:a.length=b.length){i:Nat}(hi:i<a.length):Zc6 a b (i+1)=Zc6 a b i+fv (a[i]'hi)*fv (b[i]'(by omega)):=by
 grind[Zc6,List.take_succ_eq_append_getElem,zlh]
abbrev Zdz:List AV:=[.b false,.sl [] .an,.sl [] .an]
def Zr0(a b:List Fz)(i:Nat):St:=⟨[(1,.sl (Zc b) .an),(4,.ptr (.loc 4) 1 3 0 0),(6,.ptr (.loc 6) 2 3 0 0),(16,.sl (Zc a) .an),(17,.i .i64 a.length),(18,.i .i64 i)],
 [(.loc 4,⟨1,.str,3,[Zdz]⟩),(.loc 6,⟨2,.str,3,[Zbk (fz (Zc6 a b i))]⟩)],4⟩
def Zr1(a b:List Fz)(i:Nat):St:=⟨[(0,.sl (Zc a) .an),(1,.sl (Zc b) .an),(12,.i .i64 a.length),(13,.i .i64 i)],[],2⟩
def Zji(l:List Fz):List (List UInt8):=l.map fun x=>Zlq (fv x)
def Zr2(l:List Fz)(i:Nat):St:=⟨[(3,.bs (.loc 3) 1 1 0 i),(6,.sl (Zc l) .an),(7,.i .i64 l.length),(8,.i .i64 i)],[(.loc 3,⟨1,.own,1,Z4 (Zji (l.take i))⟩)],3⟩
end
theorem zoh{α:Type}{L acc:List α}(hl:L.length=acc.length){i:Nat}(h:i<L.length) :
  (L.take i++acc.drop i).set i (L[i]'h)=L.take (i+1)++acc.drop (i+1):=by
 rw[Y5 _ _ (by simp;omega),Yad,Ybv (by omega),Ybw,Yq (show i<acc.length by omega),Ybm,Yah h,Ybj]
 rfl
theorem zth{α:Type}{L acc:List α}(hl:L.length=acc.length){i:Nat}(h:i<L.length):(L.take i++acc.drop i)[i]? = some (acc[i]'(by omega)):=by
 rw[Yi (by simp;omega),Yad,Ybv (by omega),Ybw,Yab,Y1,Ya]
theorem zmy{l:List Rat}{i:Nat}{q:Rat}(h:l[i]? = some q):(fzs l)[i]? = some (fz q):=by
 unfold fzs;rw[Ycg,h]
 rfl
theorem zti(l:List Rat)(i:Nat)(q:Rat):(fzs l).set i (fz q)=fzs (l.set i q):=by
 unfold fzs;rw[Ycc]
@[simp] theorem zar(l:List Rat):(fzs l).length=l.length:=by simp[fzs]
theorem zz7(l:List Fz):nrm l=fzs (l.map fv):=by unfold nrm fzs;rw[List.map_map];rfl
def Zoh(c:Rat)(acc:List Rat)(r:List Fz):List Rat:=List.zipWith (fun q x=>q+c*fv x) acc r
def Zax(acc:List Rat)(r:List Fz):List Rat:=List.zipWith (fun q x=>q+fv x) acc r
theorem zed{acc:List Rat}{r:List Fz}(h:r.length=acc.length):(Zax acc r).length=acc.length:=by simp[Zax,h]
theorem zz8{acc:List Rat}{r:List Fz}{S B:Nat}(ha:∀q∈acc,sz q≤S)(hr:∀x∈r,fsz x≤B)(hB:1≤B):∀q∈Zax acc r,sz q≤S+(B+1):=by
 intro q hq;obtain⟨i,hi,rfl⟩:=List.getElem_of_mem hq;simp only[Zax,List.length_zipWith]at hi;simp only[Zax,List.getElem_zipWith];have h1:=ha _ (Yp (show i<acc.length by omega));have h2:=zee (hr _ (Yp (show i<r.length by omega))) hB;have h3:=zls (acc[i]'(by omega)) (fv (r[i]'(by omega)));omega
section
variable{T:Tbl}[Zn T][Zs T][Zw T][Zq T][Zk T][Zaz T][Ze T][Zf T][Zr T][Zab T][Zbn T]
def Zkk(k j n:Nat)(rest:List (List Fz))(r:List Fz)(L acc:List Rat)(i:Nat):St:=
 ⟨[(4,.bs (.fld (.loc 15) 3) 1 3 0 n),(17,.sl (Zp rest) .an),(18,.i .i64 k),(19,.i .i64 j),(28,.sl (Zc r) .an),(29,.i .i64 n),(30,.i .i64 i)],
  [(.fld (.loc 15) 3,⟨1,.own,3,Zc (fzs (L.take i++acc.drop i))⟩)],3⟩
theorem ztj(k j n i:Nat)(rest:List (List Fz))(r M:List Fz)(x y z:Fz)(hi:i<n)(hn:n≤1000)(hir:i<r.length)(hg:r[i]? = some x)(c1:Za T 215 [efz y,efz x]=some (efz z))(hge:M[i]? = some y)(hml:M.length=n) :
  evX (orc T) T 0 l267_0 ⟨[(4,.bs (.fld (.loc 15) 3) 1 3 0 n),(17,.sl (Zp rest) .an),(18,.i .i64 k),(19,.i .i64 j),(28,.sl (Zc r) .an),(29,.i .i64 n),(30,.i .i64 i)],[(.fld (.loc 15) 3,⟨1,.own,3,Zc M⟩)],3⟩ =
   some (.n,⟨[(4,.bs (.fld (.loc 15) 3) 1 3 0 n),(17,.sl (Zp rest) .an),(18,.i .i64 k),(19,.i .i64 j),(28,.sl (Zc r) .an),(29,.i .i64 n),(30,.i .i64 (i+1:Nat))],[(.fld (.loc 15) 3,⟨1,.own,3,Zc (M.set i z)⟩)],3⟩):=by
 have hws:=zb8 hi (by omega);have hi':(i:Int)<n:=by omega
 obtain⟨_,hgE⟩:=Ye.1 hge;obtain⟨_,hgR⟩:=Ye.1 hg;have hset:=zoo M i z;simp -implicitDefEqProofs[l267_0,hi,hi',hir,hg,hgR,hws,c1,hge,hgE,hml,hset]
theorem ztk(k j:Nat)(rest:List (List Fz))(r:List Fz)(acc:List Rat)(hr:r.length=acc.length)(hn:acc.length≤1000){S B:Nat}
  (ha:∀q∈acc,sz q≤S) (hw:∀x∈r,fsz x≤B) (hB:1≤B) (hS:S+(B+1)≤1000) :
  Zv T 0 2 (.norm false [4,17,18,19]) l267_0 (Zkk k j acc.length rest r (Zax acc r) acc 0) =
   some (.n,⟨[(4,.bs (.fld (.loc 15) 3) 1 3 0 acc.length),(17,.sl (Zp rest) .an),(18,.i .i64 k),(19,.i .i64 j)],[(.fld (.loc 15) 3,⟨1,.own,3,Zc (fzs (Zax acc r))⟩)],3⟩):=by
 have hL:=zed hr;refine zau (Zkk k j acc.length rest r (Zax acc r) acc) acc.length _ (fun i hi=>?_) ?_
 ·have hir:i<r.length:=by omega
  have s1:=ha _ (Yp hi);have s2:=hw _ (Yp hir);have c1:=zn6 (T:=T) (fz (acc[i]'hi)) (r[i]'hir) (by rw[zav];omega) (by omega);have e1:(Zax acc r)[i]'(by omega)=acc[i]'hi+fv (r[i]'hir):=by simp[Zax]
  rw[zby,←e1]at c1;have hu:=congrArg fzs (zoh hL (show i<(Zax acc r).length by omega));rw[←zti]at hu;unfold Zkk;rw[←hu];exact ztj k j _ i rest r _ _ _ _ hi hn hir (Ya hir) c1 (zmy (zth hL (show i<(Zax acc r).length by omega))) (by simp;omega)
 ·have e:(Zax acc r).take acc.length++acc.drop acc.length=Zax acc r:=by rw[Yb (by omega),Yag,Ybb]
  unfold Zkk;rw[e];generalize fzs (Zax acc r)=M at *
  constructor<;>simp -implicitDefEqProofs[l267_0]
def Zkl(n:Nat)(rest:List (List Fz))(acc:List Rat)(j:Nat):St:=
 ⟨[(4,.bs (.fld (.loc 15) 3) 1 3 0 n),(17,.sl (Zp rest) .an),(18,.i .i64 rest.length),(19,.i .i64 j)],[(.fld (.loc 15) 3,⟨1,.own,3,Zc (fzs ((rest.take j).foldl Zax acc))⟩)],3⟩
theorem ztl{B:Nat}(hB:1≤B):∀(l:List (List Fz)) (acc:List Rat) (S:Nat),(∀q∈acc,sz q≤S)→(∀r∈l,∀x∈r,fsz x≤B)→∀q∈l.foldl Zax acc,sz q≤S+l.length*(B+1)
 | [],acc,S,ha,_=>by simpa using ha
 | r::l,acc,S,ha,hw=>by
  intro q hq;have:=ztl hB l (Zax acc r) (S+(B+1)) (zz8 ha (hw r Y2) hB) (fun r hr=>hw r (Ym _ hr)) q hq;rw[Yk,Nat.succ_mul];omega
theorem zja:∀(l:List (List Fz)) (acc:List Rat),(∀r∈l,r.length=acc.length)→(l.foldl Zax acc).length=acc.length
 | [],_,_=>rfl
 | r::l,acc,h=>by
  have h1:=zed (h r Y2);have:=zja l (Zax acc r) (fun r hr=>by rw[h1];exact h r (Ym _ hr));rw[Yc6,this,h1]
theorem ztm(rest:List (List Fz))(acc:List Rat)(hn:acc.length≤1000)(hk:rest.length≤1000){S B:Nat}
  (ha:∀q∈acc,sz q≤S) (hw:∀r∈rest,∀x∈r,fsz x≤B) (hB:1≤B) (hS:S+rest.length*(B+1)≤1000) (hall:∀r∈rest,r.length=acc.length) :
  Zv T 0 0 (.norm false [4]) l267_1 (Zkl acc.length rest acc 0)=some (.n,⟨[(4,.bs (.fld (.loc 15) 3) 1 3 0 acc.length)],[(.fld (.loc 15) 3,⟨1,.own,3,Zc (fzs (rest.foldl Zax acc))⟩)],3⟩):=by
 refine zau (Zkl acc.length rest acc) rest.length _ (fun j hj=>?_) ?_
 ·have hg:rest[j]? = some (rest[j]'hj):=Ya hj;have hws:=zb8 hj (by omega);have hm:=Yp hj;have hlen:=zja (rest.take j) acc (fun r hr=>hall r (Y9 hr));have hr:(rest[j]'hj).length=acc.length:=hall _ hm;have hsz:=ztl hB (rest.take j) acc S ha (fun r hr=>hw r (Y9 hr));rw[Yad,Ybv (by omega)]at hsz;have hj2:(j+1)*(B+1)≤rest.length*(B+1):=Yr _ hj;rw[Nat.succ_mul]at hj2;have hin:=ztk (T:=T) rest.length j rest (rest[j]'hj) ((rest.take j).foldl Zax acc) (by omega) (by omega) hsz (hw _ hm) hB (by omega);have e:(rest.take (j+1)).foldl Zax acc=Zax ((rest.take j).foldl Zax acc) (rest[j]'hj):=by
   rw[Yah hj,List.foldl_append];rfl
  unfold Zkl;rw[e];unfold Zkk at hin;rw[Ybo,Yaz,Ybc,hlen]at hin;clear e hsz hlen hj2;generalize fzs ((rest.take j).foldl Zax acc)=M at *
  generalize fzs (Zax ((rest.take j).foldl Zax acc) (rest[j]'hj))=M' at *
  generalize acc.length=n at *
  simp only[Y3]at hin;have hr':((rest[j]'hj).length:Int)=n:=by omega
  simp -implicitDefEqProofs[l267_1,hj,hg,hws,hin,hr,hr']
 ·unfold Zkl;rw[Yb (Yg _)];generalize fzs (rest.foldl Zax acc)=M at *
  constructor<;>simp -implicitDefEqProofs[l267_1]
theorem zz9(r0:List Fz)(rest:List (List Fz))(hn:r0.length≤1000)(hk:rest.length≤1000){B:Nat}(hw0:∀x∈r0,fsz x≤B)(hw:∀r∈rest,∀x∈r,fsz x≤B)(hB:1≤B)
  (hS:B+rest.length*(B+1)≤1000) (hall:∀r∈rest,r.length=r0.length) :
  Za T 267 [.sl (Zp (r0::rest)) .an]=some (.tup [.sl (Zc (fzs (rest.foldl Zax (r0.map fv)))) .an,.b true]):=by
 have hno:=zft (T:=T) r0 hn (fun x hx=>Yc (hw0 x hx) (by omega));rw[zz7]at hno;have h:=ztm (T:=T) rest (r0.map fv) (by simpa using hn) hk (S:=B) (by
  intro q hq;obtain⟨x,hx,rfl⟩:=Yz.1 hq;exact zee (hw0 x hx) hB) hw hB hS (by simpa using hall)
 have hfl:=zja rest (r0.map fv) (by simpa using hall);unfold Zkl at h;rw[Ybo,List.foldl_nil]at h;rw[Ybr]at h hfl;have hl2:(fzs (rest.foldl Zax (r0.map fv))).length=r0.length:=by rw[zar];exact hfl
 have ht:List.take r0.length (fzs (rest.foldl Zax (r0.map fv)))=fzs (rest.foldl Zax (r0.map fv)):=Yb (by omega);rw[f267 _ rfl,b267];clear hw0 hw hS hall hfl;generalize fzs (rest.foldl Zax (r0.map fv))=M at *
 generalize fzs (r0.map fv)=N at *
 have e1:(Zp (r0::rest))[0]? = some [.sl (Zc r0) .an]:=rfl;have e2:(Zp (r0::rest)).length=rest.length+1:=by simp
 have e4:¬ (rest.length:Int)+1=0:=by omega
 have e7:Option.all (fun r:List AV=>decide (r.length=1)) (Zp (r0::rest)).head? = true:=rfl;have e8:(List.take (rest.length+1) (Zp (r0::rest))).tail=Zp rest:=by rw[Yb (by simp)];rfl
 have e6:(1:Int)≤(rest.length:Int)+1:=by omega
 generalize Zp (r0::rest)=RR at *
 obtain⟨_,e5⟩:=Ye.1 e1;simp only[Y3]at h;simp -implicitDefEqProofs[hno,h,hl2,ht,e1,e2,e4,e5,e6,e7,e8]
end
def Zmx(p:List (Fz×List Fz))(acc:List Rat):List Rat:=p.foldl (fun a q=>Zoh (fv q.1) a q.2) acc
section
variable{T:Tbl}[Zn T][Zs T][Zw T][Zq T][Zk T][Zaz T][Ze T][Zf T][Zr T][Zab T][Zbn T]
def Zq1(C:List Fz)(k j n:Nat)(l:List (List Fz))(r:List Fz)(L acc:List Rat)(i:Nat):St:=
 ⟨[(0,.sl (Zc C) .an),(10,.bs (.fld (.loc 40) 9) 1 3 0 n),(11,.i .i64 k),(41,.sl (Zp l) .an),(42,.i .i64 j),(43,.i .i64 k),(54,.sl (Zc r) .an),(55,.i .i64 n),(56,.i .i64 i)],
  [(.fld (.loc 40) 9,⟨1,.own,3,Zc (fzs (L.take i++acc.drop i))⟩)],3⟩
def Zq2(C:List Fz)(n:Nat)(l:List (List Fz))(acc:List Rat)(k:Nat):St:=
 ⟨[(0,.sl (Zc C) .an),(10,.bs (.fld (.loc 40) 9) 1 3 0 n),(41,.sl (Zp l) .an),(42,.i .i64 l.length),(43,.i .i64 k)],[(.fld (.loc 40) 9,⟨1,.own,3,Zc (fzs (Zmx ((C.zip l).take k) acc))⟩)],3⟩
def Zq3(C:List Fz)(l:List (List Fz))(n i:Nat):St:=⟨[(0,.sl (Zc C) .an),(1,.sl (Zp l) .an),(2,.i .i64 n),(28,.sl (Zp l) .an),(29,.i .i64 l.length),(30,.i .i64 i)],[],2⟩
end
abbrev agS(t h:Fz)(y0 y1 f0 f1:List Fz):AV:=
 .agg [.b t.1,.sl (Zb t.2.1) .an,.sl (Zb t.2.2) .an,.b h.1,.sl (Zb h.2.1) .an,.sl (Zb h.2.2) .an,.sl (Zc y0) .an,.sl (Zc y1) .an,.sl (Zc f0) .an,.sl (Zc f1) .an]
def Zm6(l:List Fz):Rat:=l.foldl (fun p x=>p*fv x) 1
section
variable{T:Tbl}[Zn T][Zs T][Zw T][Zq T][Zk T][Zaz T][Ze T][Zf T][Zr T][Zab T][Zbn T][Zlp T]
def Zsi(l:List Fz)(i:Nat):St:=⟨[(2,.ptr (.loc 2) 1 3 0 0),(3,.ptr (.loc 3) 2 3 0 0),(7,.sl (Zc l) .an),(8,.i .i64 l.length),(9,.i .i64 i)],[(.loc 2,⟨1,.str,3,[Zdz]⟩),(.loc 3,⟨2,.str,3,[Zbk (fz (Zm6 (l.take i)))]⟩)],4⟩
def Zor(h:Fz)(y0 y1 f0 f1:List Fz):Bool:=decide (0<fv h)&&decide (y0.length≤300)&&decide (y1.length=y0.length)&&decide (f0.length=y0.length)&&decide (f1.length=y0.length)
end
theorem zh6(a b:List AV):wkR (a++b)=wkR a++wkR b:=by rw[ziv,ziv,ziv,Ycd]
abbrev tyS:Ty:=.cons tyF (.cons tyF (.cons (.sl tyF) (.cons (.sl tyF) (.cons (.sl tyF) (.cons (.sl tyF) .nil)))))
section
variable{T:Tbl}[Zn T][Zs T][Zw T][Zq T][Zk T][Zaz T][Ze T][Zf T][Zr T][Zab T][Zbn T]
theorem zp4(r1:List Fz)(rest:List (List Fz))(n:Nat)(M:List Fz)(hne:r1.length≠n) :
  Zv T 0 0 (.norm false [4]) l267_1 ⟨[(4,.bs (.fld (.loc 15) 3) 1 3 0 n),(17,.sl (Zp (r1::rest)) .an),(18,.i .i64 ((rest.length:Int)+1)),(19,.i .i64 0)],[(.fld (.loc 15) 3,⟨1,.own,3,Zc M⟩)],3⟩ =
   some (.r,⟨[(2,.sl [] .an),(3,.b false)],[],2⟩):=by
 refine za1 (fun _:Unit=>⟨[(4,.bs (.fld (.loc 15) 3) 1 3 0 n),(17,.sl (Zp (r1::rest)) .an),(18,.i .i64 ((rest.length:Int)+1)),(19,.i .i64 0)],[(.fld (.loc 15) 3,⟨1,.own,3,Zc M⟩)],3⟩) (fun _=>True) (fun _=>0) (fun _=>_) ?_ () trivial;intro _ _;right;have e1:(Zp (r1::rest))[0]? = some [.sl (Zc r1) .an]:=rfl;have e2:(Zp (r1::rest)).length=rest.length+1:=by simp
 have p1:(0:Int)<(rest.length:Int)+1:=by omega
 have q1:¬ (r1.length:Int)=(n:Int):=by omega
 generalize Zp (r1::rest)=RR at *
 obtain⟨h0,e5⟩:=Ye.1 e1;constructor<;>simp -implicitDefEqProofs[l267_1,e1,e2,e5,p1,q1,hne,h0]
theorem zli(r0 r1:List Fz)(rest:List (List Fz))(hn:r0.length≤1000)(hw0:∀x∈r0,fsz x≤1000)(hk:rest.length≤1000)(hne:r1.length≠r0.length) :
  Za T 267 [.sl (Zp (r0::r1::rest)) .an]=some (.tup [.sl [] .an,.b false]):=by
 have hno:=zft (T:=T) r0 hn hw0;have h:=zp4 (T:=T) r1 rest r0.length (nrm r0) hne;rw[f267 _ rfl,b267];have e1:(Zp (r0::r1::rest))[0]? = some [.sl (Zc r0) .an]:=rfl;have e2:(Zp (r0::r1::rest)).length=rest.length+1+1:=by simp
 have e4:¬ (rest.length:Int)+1+1=0:=by omega
 have e7:Option.all (fun r:List AV=>decide (r.length=1)) (Zp (r0::r1::rest)).head? = true:=rfl;have e8:(List.take (rest.length+1+1) (Zp (r0::r1::rest))).tail=Zp (r1::rest):=by rw[Yb (by simp)];rfl
 have e6:(1:Int)≤(rest.length:Int)+1+1:=by omega
 have p0:(0:Int)<(rest.length:Int)+1+1:=by omega
 have hl2:(nrm r0).length=r0.length:=by simp[nrm]
 generalize Zp (r0::r1::rest)=RR at *
 obtain⟨_,e5⟩:=Ye.1 e1;clear hw0;generalize nrm r0=N at *
 have e9:(Zp (r1::rest)).length=rest.length+1:=by simp
 have hwk:=zum (r1::rest);generalize Zp (r1::rest)=R2 at *
 simp -implicitDefEqProofs[hno,h,hl2,e1,e2,e4,e5,e6,e7,e8,e9,p0,hwk]
end
section
variable{T:Tbl}
def Zrf(Q:List UInt32)(o n s i:Nat):St:=⟨[(0,.bs (.bor 0) 0 1 o n),(1,.i .i64 s),(5,.i .i64 i)],[(.bor 0,⟨0,.own,1,Zb Q⟩)],4⟩
end
section
variable{T:Tbl}[Zaq T][Zar T][Zai T][Zas T][Za3 T]
def Zrg(Q R:List UInt32)(o n o2 n2 c i:Nat):St:=⟨[(0,.bs (.bor 0) 0 1 o n),(1,.bs (.bor 1) 1 1 o2 n2),(4,u64 c),(5,.i .i64 i)],[(.bor 0,⟨0,.own,1,Zb Q⟩),(.bor 1,⟨1,.own,1,Zb R⟩)],6⟩
def nmX:BId:=.fld (.loc 12) 22
def nmY:BId:=.fld (.loc 14) 22
def nm2(f:Bool):BId×BId:=if f then (nmX,nmY) else (nmY,nmX)
def Zrh(f:Bool)(P a S P2 b S2:List UInt32)(m n:Nat):St:=
 ⟨[(5,.bs (nm2 f).1 1 1 P.length a.length),(6,.bs (nm2 f).2 2 1 P2.length b.length),(7,.i .i64 m),(8,.i .i64 n)],[((nm2 f).1,⟨1,.own,1,Zb (P++(a++S))⟩),((nm2 f).2,⟨2,.own,1,Zb (P2++(b++S2))⟩)],4⟩
structure Gc where
 f:Bool
 P:List UInt32
 S:List UInt32
 P2:List UInt32
 S2:List UInt32
 X:Nat
 Y:Nat
end
end Go.Ab
section
namespace Go.Ab
end Go.Ab
end
namespace Go.Ab
section
variable{T:Tbl}[Zaq T][Zar T][Zai T][Zas T][Za3 T][Zba T][Zav T]
theorem zfh(x:Fz)(k:Nat):Za T 247 [efz x,.i .i64 k]=some (.b (decide (k<fsz x))):=by
 obtain⟨n,a,d⟩:=x;unfold fsz;rw[zab Zav.h247 rfl,b247];by_cases h1:k<a.length
 ·have h3:k<max a.length d.length:=by omega
  simp -implicitDefEqProofs[h1,h3]
 ·by_cases h2:k<d.length
  ·have h3:k<max a.length d.length:=by omega
   simp -implicitDefEqProofs[h1,h2,h3]
  ·have h3:¬ k<max a.length d.length:=by omega
   simp -implicitDefEqProofs[h1,h2,h3]
end
section
variable{T:Tbl}[Zaq T][Zar T][Zai T][Zas T][Za3 T][Zba T][Zav T][Zbb T]
def Zrj(n i:Nat):St:=⟨[(0,.i .i64 n),(3,.bs (.loc 3) 1 3 0 i),(4,.i .i64 i)],[(.loc 3,⟨1,.own,3,Zc (List.replicate i (fz 0))⟩)],3⟩
def Zrk(l:List Fz)(i:Nat):St:=⟨[(0,.sl (Zc l) .an),(3,.bs (.loc 3) 1 3 0 i),(4,.i .i64 i)],[(.loc 3,⟨1,.own,3,Zc (nrm (l.take i))⟩)],3⟩
def Zrl(a b:List Fz)(i:Nat):St:=⟨[(0,.sl (Zc a) .an),(1,.sl (Zc b) .an),(5,.i .i64 i)],[],2⟩
def Zrm(p q:List Rat)(i:Nat):St:=⟨[(0,.sl (Zc (fzs p)) .an),(1,.sl (Zc (fzs q)) .an),(5,.bs (.loc 5) 1 3 0 i),(6,.i .i64 i)],[(.loc 5,⟨1,.own,3,Zc (fzs ((Zax p (fzs q)).take i))⟩)],3⟩
def Zrn(p q:List Rat)(i:Nat):St:=⟨[(0,.sl (Zc (fzs p)) .an),(1,.sl (Zc (fzs q)) .an),(4,.ptr (.loc 4) 1 3 0 0),(5,.ptr (.loc 5) 2 3 0 0),(6,.i .i64 i)],
 [(.loc 4,⟨1,.str,3,[Zdz]⟩),(.loc 5,⟨2,.str,3,[Zbk (fz (Zc6 (fzs p) (fzs q) i))]⟩)],4⟩
def Zag(l:List Fz)(many words:Nat):Bool:=decide (many<l.length) || l.any fun x=>decide (words<fsz x)
def Zgd(l:List Fz)(many words:Nat)(i:Nat):St:=⟨[(0,.sl (Zc l) .an),(1,.i .i64 many),(2,.i .i64 words),(7,.i .i64 i)],[],2⟩
theorem zp0(l:List Fz)(many words:Nat)(hl:l.length≤many)(hm:many≤1000) :
  Zv T 0 0 (.norm false [0,1]) l286_0 (Zgd l many words 0)=if (l.drop 0).any (fun x=>decide (words<fsz x))=true then some (.r,⟨[(6,.b true)],[],2⟩) else some (.n,⟨[(0,.sl (Zc l) .an),(1,.i .i64 many)],[],2⟩):=by
 refine za3 (Zgd l many words) l.length (fun i=>if (l.drop i).any (fun x=>decide (words<fsz x))=true then some (.r,⟨[(6,.b true)],[],2⟩) else some (.n,⟨[(0,.sl (Zc l) .an),(1,.i .i64 many)],[],2⟩)) (fun i hi=>?_) ?_
 ·have hga:l[i]? = some (l[i]'hi):=Ya hi;have hws:=zb8 hi (by omega);have c:=zfh (T:=T) (l[i]'hi) words;have h3:(i:Int)<many:=by omega
  have h4:i<many:=by omega
  have key:(l.drop i).any (fun x=>decide (words<fsz x))=(decide (words<fsz (l[i]'hi)) || (l.drop (i+1)).any fun x=>decide (words<fsz x)):=by
   rw[Yq hi,List.any_cons]
  by_cases he:words<fsz (l[i]'hi)
  ·right;rw[if_pos (by rw[key,decide_eq_true he,Bool.true_or])];rw[decide_eq_true he]at c;unfold Zgd;clear key he;constructor<;>simp -implicitDefEqProofs[l286_0,hi,h3,c]
  ·left;refine⟨?_,by grind⟩;rw[decide_eq_false he]at c;unfold Zgd;clear key he;simp -implicitDefEqProofs[l286_0,hi,h3,hws,c]
 ·rw[Yag,if_neg (by simp)];unfold Zgd;constructor<;>simp -implicitDefEqProofs[l286_0]
theorem zp1(l:List Fz)(many words:Nat)(hl:l.length≤many)(hm:many≤1000):Za T 286 [.sl (Zc l) .an,.i .i64 many,.i .i64 words]=some (.b (Zag l many words)):=by
 have h:=zp0 (T:=T) l many words hl hm;rw[Yaz]at h;unfold Zgd at h;simp only[Y3]at h;have h1:¬ (many:Int)<l.length:=by omega
 have h2:¬ many<l.length:=by omega
 unfold Zag;rw[zab Zbb.h286 rfl,b286];cases hc:l.any fun x=>decide (words<fsz x) with
 | true=>
  rw[hc,if_pos rfl]at h;simp -implicitDefEqProofs[h,h2]
 | false=>
  rw[hc,if_neg (by decide)]at h;simp -implicitDefEqProofs[h,h1,h2]
theorem zp2(l:List Fz)(many words:Nat)(hl:many<l.length)(hm:many≤1000) :
  ∃r,(r=some (.r,(⟨[(6,.b true)],[],2⟩:St))∨r=some (.n,⟨[(0,.sl (Zc l) .an),(1,.i .i64 many)],[],2⟩))∧Zv T 0 0 (.norm false [0,1]) l286_0 (Zgd l many words 0)=r:=by
 obtain⟨G,hG⟩:∃G:Nat→Option (Ex×St),G=fun i=>if ((l.take many).drop i).any (fun x=>decide (words<fsz x))=true then some (.r,⟨[(6,.b true)],[],2⟩) else some (.n,⟨[(0,.sl (Zc l) .an),(1,.i .i64 many)],[],2⟩):=⟨_,rfl⟩
 refine⟨G 0,?_,za3 (Zgd l many words) many G (fun i hi=>?_) ?_⟩
 ·grind
 ·have hil:i<l.length:=by omega
  have hil':(i:Int)<l.length:=by omega
  have hga:l[i]? = some (l[i]'hil):=Ya hil;have hws:=zb8 hi (by omega);have c:=zfh (T:=T) (l[i]'hil) words;have key:((l.take many).drop i).any (fun x=>decide (words<fsz x))=(decide (words<fsz (l[i]'hil)) || ((l.take many).drop (i+1)).any fun x=>decide (words<fsz x)):=by
   grind[List.drop_eq_getElem_cons]
  by_cases he:words<fsz (l[i]'hil)
  ·right;rw[hG];simp only;rw[if_pos (by rw[key,decide_eq_true he,Bool.true_or])];rw[decide_eq_true he]at c;unfold Zgd;clear key he hG;constructor<;>simp -implicitDefEqProofs[l286_0,hi,hil,hil',c]
  ·left;refine⟨?_,by grind⟩;rw[decide_eq_false he]at c;unfold Zgd;clear key he hG;simp -implicitDefEqProofs[l286_0,hi,hil,hil',hws,c]
 ·rw[hG];simp only;rw[Yas (by grind),if_neg (by simp)];have h1:(many:Int)<l.length:=by omega
  unfold Zgd;constructor<;>simp -implicitDefEqProofs[l286_0,h1]
theorem zmx(l:List Fz)(many words:Nat)(hl:many<l.length)(hm:many≤1000):Za T 286 [.sl (Zc l) .an,.i .i64 many,.i .i64 words]=some (.b true):=by
 obtain⟨r,hr,h⟩:=zp2 (T:=T) l many words hl hm;unfold Zgd at h;simp only[Y3]at h;have h1:(many:Int)<l.length:=by omega
 rw[zab Zbb.h286 rfl,b286];rcases hr with rfl | rfl
 ·simp -implicitDefEqProofs[h]
 ·simp -implicitDefEqProofs[h,hl]
theorem zbw(l:List Fz)(many words:Nat)(hm:many≤1000):Za T 286 [.sl (Zc l) .an,.i .i64 many,.i .i64 words]=some (.b (Zag l many words)):=by
 grind[zmx,Zag,zp1]
theorem za7{l:List Fz}{many words:Nat}(h:Zag l many words=false):l.length≤many∧∀x∈l,fsz x≤words:=by
 grind[Zag]
end
def Zi0(n:Int):Nat:=(min (max n 0) 300).toNat
section
variable{T:Tbl}[Zn T][Zs T][Zw T][Zq T][Zk T][Zaz T][Ze T][Zf T][Zr T][Zab T][Zbn T]
def Zp7(n i:Int):List Rat:=if 0≤i∧i<Zi0 n then (List.replicate (Zi0 n) 0).set i.toNat 1 else List.replicate (Zi0 n) 0
end
section
variable{T:Tbl}[Zaq T][Zar T][Zai T][Zas T][Za3 T][Zba T][Zav T][Zbb T]
def Zp8(n:Int)(i:Nat):St:=⟨[(0,.i .i64 n),(3,.bs (.loc 3) 1 3 0 i),(4,.i .i64 i)],[(.loc 3,⟨1,.own,3,Zc (List.replicate i (fz 0))⟩)],3⟩
end
theorem zsk{m:List (List Fz)}{n:Nat}(h:m.length=n)(r:List Fz):wkL (Zp (List.take n m)++[[.sl (Zc r) .an]])=Zp (m++[r]):=by
 rw[Yb (by omega),zun,zum]
theorem zky{α:Type}(l:List α){i:Nat}(h:i<l.length):l.take (i+1)=l.take i++[l[i]'h]:=Yah h
section
variable{T:Tbl}[Zaq T][Zar T][Zai T][Zas T][Za3 T][Zba T][Zav T][Zbb T][Zdj T][Zc9 T]
theorem zn7(x:Fz):Za T 248 [efz x]=some (efz x):=by
 rw[zab Zdj.h248 rfl,b248];simp -implicitDefEqProofs
def Zg0(l:List Fz)(i:Nat):St:=⟨[(0,.sl (Zc l) .an),(3,.bs (.loc 3) 1 3 0 i),(4,.i .i64 i)],[((.loc 3),⟨1,.own,3,Zc (l.take i)⟩)],3⟩
theorem zsl(l:List Fz)(hl:l.length≤4294967296) :
  Zv T 0 0 (.norm false [3]) l287_0 (Zg0 l 0)=some (.n,⟨[(3,.bs (.loc 3) 1 3 0 (l.length))],[((.loc 3),⟨1,.own,3,Zc (l.take (l.length))⟩)],3⟩):=by
 refine zau (Zg0 l) (l.length) _ (fun i hi=>?_) ?_
 ·have hws:=zb8 hi (by omega);have hb:i≤4294967295:=by omega
  have hg:l[i]? = some (l[i]'hi):=Ya hi;have hn:=zn7 (T:=T) (l[i]'hi);have e:=zky l hi;have hml:(l.take i).length=i:=by simp;omega
  have hp:=zdl hml (l[i]'hi);unfold Zg0;rw[e];clear e;generalize l.take i=M at *
  simp -implicitDefEqProofs[l287_0,hi,hws,hb,hp,hml,hg,hn]
 ·unfold Zg0;rw[Yb (Yg _)];constructor<;>simp -implicitDefEqProofs[l287_0]
theorem zdv(l:List Fz)(hl:l.length≤4294967296):Za T 287 [.sl (Zc l) .an]=some (.sl (Zc l) .an):=by
 have h:=zsl (T:=T) l hl;unfold Zg0 at h;rw[Ybo,Yb (Yg _)]at h;simp only[zdz,Y3]at h;have ht:List.take l.length l=l:=Yb (Yg _);rw[zab Zc9.h287 rfl,b287];simp -implicitDefEqProofs[h,ht]
def Zn3(l:List Fz)(i:Nat):St:=⟨[(0,.sl (Zc l) .an),(3,.bs (.loc 3) 1 3 0 i),(4,.i .i64 i)],[((.loc 3),⟨1,.own,3,Zc (l.take i)⟩)],3⟩
end
def Zl1:List (List Fz)→Nat
 | []=>0
 | r::_=>r.length
def Znz(m:List (List Fz)):Bool:=m.all fun r=>decide (r.length=Zl1 m)
def Zmq(m:List (List Fz))(j:Nat):List Fz:=m.map fun r=>r.getD j (false,[],[])
def Zmr(m:List (List Fz))(k:Nat):List (List Fz):=(List.range k).map fun j=>nrm (Zmq m j)
def scM(r:List Fz)(m:List (List Fz)):List (List Fz):=List.zipWith (fun x row=>scl (fv x) row) r m
def Zn0:List (List Fz)→List Rat
 | []=>[]
 | r::m=>m.foldl Zax (r.map fv)
def Zms(r:List Fz)(m:List (List Fz)):List Rat:=Zn0 (scM r m)
def Zl2(m:List (List Fz))(c:List Fz):List Rat:=m.map fun r=>Zbs r c
section
variable{T:Tbl}[Zn T][Zs T][Zw T][Zq T][Zk T][Zaz T][Ze T][Zf T][Zr T][Zab T][Zbn T][Zhl T]
def Zo4(m:List (List Fz))(i:Nat):St:=⟨[(0,.sl (Zp m) .an),(5,.sl (Zp m) .an),(6,.i .i64 m.length),(7,.i .i64 i)],[],2⟩
def Zo5(a b:List (List Fz))(i:Nat):St:=⟨[(1,.sl (Zp b) .an),(12,.sl (Zp a) .an),(13,.i .i64 a.length),(14,.i .i64 i)],[],2⟩
def idQ(k:Nat)(i:Nat):List (List Fz):=(List.range i).map fun j=>fzs ((List.replicate k 0).set j 1)
def Zo6(k:Nat)(i:Nat):St:=⟨[(0,.i .i64 k),(3,.bs (.loc 3) 1 1 0 i),(8,.i .i64 k),(9,.i .i64 i)],[((.loc 3),⟨1,.own,1,Zp (idQ k i)⟩)],3⟩
def Zo7(m R:List (List Fz))(k j:Nat)(i:Nat):St:=⟨[(0,.sl (Zp m) .an),(3,.bs (.loc 3) 1 1 0 j),(4,.i .i64 j),(5,.bs (.loc 5) 2 3 0 i),(12,.i .i64 k),(13,.i .i64 j),(16,.sl (Zp m) .an),(17,.i .i64 m.length),(18,.i .i64 i)],[(.loc 3,⟨1,.own,1,Zp R⟩),((.loc 5),⟨2,.own,3,Zc (nrm (Zmq (m.take i) j))⟩)],4⟩
def Znr(m:List (List Fz))(k:Nat)(i:Nat):St:=⟨[(0,.sl (Zp m) .an),(3,.bs (.loc 3) 1 1 0 i),(12,.i .i64 k),(13,.i .i64 i)],[((.loc 3),⟨1,.own,1,Zp (Zmr m i)⟩)],3⟩
end
section
variable{T:Tbl}[Zn T][Zs T][Zw T][Zq T][Zk T][Zaz T][Ze T][Zf T][Zr T][Zab T][Zbn T][Zhl T]
def Zo8(r:List Fz)(m:List (List Fz))(i:Nat):St:=⟨[(0,.sl (Zc r) .an),(6,.bs (.loc 6) 1 1 0 i),(19,.sl (Zp m) .an),(20,.i .i64 m.length),(21,.i .i64 i)],[((.loc 6),⟨1,.own,1,Zp (scM (r.take i) (m.take i))⟩)],3⟩
def Zo9(m:List (List Fz))(c:List Fz)(i:Nat):St:=⟨[(1,.sl (Zc c) .an),(6,.bs (.loc 6) 1 3 0 i),(21,.sl (Zp m) .an),(22,.i .i64 m.length),(23,.i .i64 i)],[((.loc 6),⟨1,.own,3,Zc (fzs (Zl2 (m.take i) c))⟩)],3⟩
def Zn1(a b:List (List Fz)):List (List Fz):=a.map fun r=>fzs (Zms r b)
def Zpa(a m:List (List Fz))(i:Nat):St:=⟨[(1,.sl (Zp m) .an),(6,.bs (.loc 6) 1 1 0 i),(26,.sl (Zp a) .an),(27,.i .i64 a.length),(28,.i .i64 i)],[((.loc 6),⟨1,.own,1,Zp (Zn1 (a.take i) m)⟩)],3⟩
def Zn2(a b:List (List Fz)):List (List Fz):=List.zipWith (fun r s=>fzs (Zax (r.map fv) s)) a b
def Zpb(a m:List (List Fz))(i:Nat):St:=⟨[(1,.sl (Zp m) .an),(6,.bs (.loc 6) 1 1 0 i),(33,.sl (Zp a) .an),(34,.i .i64 a.length),(35,.i .i64 i)],[((.loc 6),⟨1,.own,1,Zp (Zn2 (a.take i) (m.take i))⟩)],3⟩
end
def Znb:List Rat→List Rat→Rat
 | x::a,y::b=>x*y+Znb a b
 | _,_=>0
def Zow(m:List (List Fz)):List (List Rat):=m.map fun r=>r.map fv
def fzM(L:List (List Rat)):List (List Fz):=L.map fzs
def Zku:List (List Rat)→Nat
 | []=>0
 | r::_=>r.length
def Zox(L:List (List Rat)):Bool:=L.all fun r=>decide (r.length=Zku L)
def Zl6(L:List (List Rat))(j:Nat):List Rat:=L.map fun p=>p.getD j 0
def Znc(L:List (List Rat)):List (List Rat):=(List.range (Zku L)).map (Zl6 L)
def Zkv(L:List (List Rat))(c:List Rat):List Rat:=L.map fun p=>Znb p c
def Zql(r:List Rat)(L:List (List Rat)):List Rat:=Zkv (Znc L) r
def Zmn(q:Rat):Rat:=if q<0 then -q else q
def Zme(c:Rat)(l:List Rat):List Rat:=l.map fun x=>c*x
def Znm(a b:List Rat):List Rat:=List.zipWith (· + ·) a b
def Zlh(b x:Rat):Rat:=if b<Zmn x then Zmn x else b
def Zlu(l:List Rat):Rat:=l.foldl Zlh 0
def Zo1:List (Rat×List Rat)→List Rat→List Rat
 | [],acc=>acc
 | p::l,acc=>Zo1 l (Znm acc (Zme p.1 p.2))
def sqC:List UInt32→Nat
 | []=>0
 | x::r=>4294967296*(x.toNat*val r)+4294967296*4294967296*sqC r
def sqD:List UInt32→Nat
 | []=>0
 | x::r=>x.toNat*x.toNat+4294967296*4294967296*sqD r
theorem zxp:∀a:List UInt32,2*sqC a+sqD a=val a*val a
 | []=>rfl
 | x::r=>by
  have ih:=zxp r;simp only[sqC,sqD,zaq]
  grind
theorem zlc(i:Nat):4294967296^(2*i+2)=4294967296^(2*i)*(4294967296*4294967296):=by
 rw[Ybp]
theorem zld{x L:Nat}(h:(ofN x).length≤L):(ofN (x*2^1)).length≤L+1:=by
 refine zae ?_;have h1:=za5 (ofN x);rw[zag]at h1;have h2:4294967296^(ofN x).length≤4294967296^L:=Yn (by decide) h;omega
section
variable{T:Tbl}[Zy T][Zn T][Zs T][Zw T][Zbj T]
theorem zf5(a:List UInt32)(ha:a.length≤1000000):Za T 356 [.sl (Zb a) .an]=some (.i .i64 (Z5 (val a))):=by
 have h1:=za6 (T:=T) a (by omega);have hl:=zad a;have hv:val (ofN (val a))=val a:=zag _;rw[zab Zbj.h356 rfl,b356];by_cases h0:val a=0
 ·have e:ofN (val a)=[]:=za4.2 h0;have eb:Z5 (val a)=0:=by rw[h0];rfl
  rw[e]at h1;rw[eb];simp -implicitDefEqProofs[h1]
 ·have hne:ofN (val a)≠[]:=fun h=>h0 (za4.1 h);obtain⟨B,x,hB⟩:∃B x,ofN (val a)=B++[x]:=⟨_,_,(Yb5 hne).symm⟩;have hx0:x.toNat≠0:=by
   intro hx;have e1:val (ofN (val a))=val B:=by
    rw[hB,zai];simp[hx]
   have e2:ofN (val B)=ofN (val a):=by rw[←e1,zag]
   have e3:=zad B;rw[e2,hB]at e3;simp at e3;omega
  have hlog:Z5 (val a)=32*B.length+Z5 x.toNat:=by
   have hdiv:val a/2^(32*B.length)=x.toNat:=by
    have e1:val a=val B+4294967296^B.length*x.toNat:=by
     rw[←hv,hB,zai];simp
    have e2:2^(32*B.length)=4294967296^B.length:=by
     rw[Yc8]
    have e3:=za5 B;rw[e2,e1,Yc2 _ _ (by omega),Ybh e3,Yai]
   have:=zh9 (n:=val a) (s:=32*B.length) (by rw[hdiv];exact hx0);rw[hdiv]at this;exact this
  have hbl:B.length+1≤1000000:=by
   have:=congrArg List.length hB;simp at this;omega
  have hL:=zob (T:=T) x;have hb32:Z5 x.toNat≤32:=by
   have hx:=zal x;unfold Z5;split
   ·omega
   ·have:=(Yc7 (n:=x.toNat) (k:=32) (by assumption)).2 (by omega);omega
  rw[hB]at h1;rw[hlog];have w2:IntKind.wrap .i64 (32*(B.length:Int))=32*(B.length:Int):=zac _ (by omega);have w3:IntKind.wrap .i64 (32*(B.length:Int)+(Z5 x.toNat:Int))=32*(B.length:Int)+(Z5 x.toNat:Int):=zac _ (by omega);have w4:IntKind.wrap .i64 (B.length:Int)=B.length:=zac _ (by omega);have n1:¬ (B.length:Int)+1=0:=by omega
  have n2:(B.length:Int)<(B.length:Int)+1:=by omega
  simp -implicitDefEqProofs[h1,hL,w2,w3,w4,n1,n2]
def Zi7(a X:List UInt32)(i:Nat):St:=
 ⟨[(0,.sl (Zb a) .an),(3,.bs (.loc 14) 1 1 0 (2*a.length+1)),(15,.sl (Zb a) .an),(16,.i .i64 a.length),(17,.i .i64 i)],[(.loc 14,⟨1,.own,1,Zb (X++List.replicate (a.length+1-i) 0)⟩)],3⟩
theorem zwk(a:List UInt32)(ha:a.length≤100000):∀y:Nat×List UInt32,
  (y.1≤a.length∧y.2.length=a.length+y.1∧val y.2+4294967296^(2*y.1)*sqC (a.drop y.1)=sqC a) →
  ∃r,(∃out:List UInt32,r=(Ex.n,(⟨[(0,.sl (Zb a) .an),(3,.bs (.loc 14) 1 1 0 (2*a.length+1))],[(.loc 14,⟨1,.own,1,Zb out⟩)],3⟩:St))∧out.length=2*a.length+1∧val out=sqC a) ∧
   Zv T 0 0 (.norm false [0,3]) l357_0 (Zi7 a y.2 y.1)=some r:=by
 refine za0 _ _ (fun y=>a.length-y.1) _ ?_
 rintro⟨i,X⟩ ⟨hi,hX,hv⟩
 simp only at hi hX hv;by_cases h0:i<a.length
 ·left;have hw:IntKind.wrap .i64 ((i:Int)+1)=((i+1:Nat):Int):=zac _ (by omega);have hw2:IntKind.wrap .i64 (2*(i:Int))=2*(i:Int):=zac _ (by omega);have hw3:IntKind.wrap .i64 (2*(i:Int)+1)=((2*i+1:Nat):Int):=zac _ (by omega);have hdl:(a.drop (i+1)).length=a.length-(i+1):=Yao;obtain⟨m,hm1,hm2,hc⟩:=zi7 (T:=T) (X.take (2*i+1)) (X.drop (2*i+1)++List.replicate (a.length+1-i) 0) (a.drop (i+1)) (a[i]'h0).toNat 0 (zal _) (by decide) (by simp;omega) (by simp;omega);have e1:X.take (2*i+1)++(X.drop (2*i+1)++List.replicate (a.length+1-i) 0)=X++List.replicate (a.length+1-i) 0:=by rw[←Ybj,Yal]
  have e2:(X.take (2*i+1)).length=2*i+1:=by simp;omega
  have e3:(X.drop (2*i+1)++List.replicate (a.length+1-i) 0).length=2*a.length+1-(2*i+1):=by simp;omega
  have e4:2*i+1+(2*a.length+1-(2*i+1))=2*a.length+1:=by omega
  have e5:(X.drop (2*i+1)++List.replicate (a.length+1-i) 0).drop ((a.drop (i+1)).length+1)=List.replicate (a.length+1-(i+1)) 0:=by
   rw[List.drop_append,Yas (by simp;omega),List.drop_replicate];simp only[Ybc,Yao];congr 1;omega
  have e6:(X.drop (2*i+1)++List.replicate (a.length+1-i) 0).take (a.drop (i+1)).length=X.drop (2*i+1):=by
   rw[Yb2 (by simp;omega),Yb (by simp;omega)]
  rw[e1,e2,e3,e4,e5]at hc;refine⟨(i+1,X.take (2*i+1)++m),⟨h0,by simp only[Y0,e2,hm1];omega,?_⟩,by omega,?_⟩
  ·simp only;have e7:=zai (X.take (2*i+1)) (X.drop (2*i+1));rw[Yal,e2]at e7;rw[Yq h0]at hv;simp only[sqC]at hv;rw[zai,e2,hm2];have p1:4294967296^(2*i+1)=4294967296^(2*i)*4294967296:=Yaa ..;have p2:4294967296^(2*(i+1))=4294967296^(2*i)*(4294967296*4294967296):=zlc i;rw[p1]at e7 ⊢;rw[p2,←hv,e7];generalize 4294967296^(2*i)=q;generalize val (a.drop (i+1))=v;generalize sqC (a.drop (i+1))=w;generalize (4294967296:Nat)=p
   grind
  ·have hle:(i:Int)+1≤a.length:=by omega
   have hm3:((2*i+1:Nat):Int)=2*(i:Int)+1:=by omega
   rw[hm3]at hc hw3;simp -implicitDefEqProofs[l357_0,Zi7,h0,hw,hw2,hw3,hc,hle]
 ·right;have:i=a.length:=by omega
  subst this;refine⟨_,⟨X++List.replicate (a.length+1-a.length) 0,rfl,by simp;omega,by rw[zai,za8];simp[sqC]at hv;simp[hv]⟩,?_,?_⟩<;>simp -implicitDefEqProofs[l357_0,Zi7]
def Zi8(a X:List UInt32)(U:List (List AV))(i:Nat):St:=
 ⟨[(6,.sl U .an),(7,.bs (.loc 38) 1 1 0 (2*a.length)),(39,.sl (Zb a) .an),(40,.i .i64 a.length),(41,.i .i64 i)],[(.loc 38,⟨1,.own,1,Zb (X++List.replicate (2*a.length-2*i) 0)⟩)],3⟩
theorem zwl(a:List UInt32)(U:List (List AV))(hU:wkL U=U)(ha:a.length≤100000):∀y:Nat×List UInt32,
  (y.1≤a.length∧y.2.length=2*y.1∧val y.2+4294967296^(2*y.1)*sqD (a.drop y.1)=sqD a) →
  ∃r,(∃out:List UInt32,r=(Ex.n,(⟨[(6,.sl U .an),(7,.bs (.loc 38) 1 1 0 (2*a.length))],[(.loc 38,⟨1,.own,1,Zb out⟩)],3⟩:St))∧out.length=2*a.length∧val out=sqD a) ∧
   Zv T 0 2 (.norm false [6,7]) l357_1 (Zi8 a y.2 U y.1)=some r:=by
 refine za0 _ _ (fun y=>a.length-y.1) _ ?_
 rintro⟨i,X⟩ ⟨hi,hX,hv⟩
 simp only at hi hX hv;by_cases h0:i<a.length
 ·left;have hm:=zn9 (T:=T) (a[i]'h0) (a[i]'h0) 0 0;obtain⟨hi_,hhi⟩:∃h:UInt32,h=w32 (((a[i]'h0).toNat*(a[i]'h0).toNat+(0:UInt32).toNat+(0:UInt32).toNat)/4294967296):=⟨_,rfl⟩;obtain⟨lo_,hlo⟩:∃h:UInt32,h=w32 ((a[i]'h0).toNat*(a[i]'h0).toNat+(0:UInt32).toNat+(0:UInt32).toNat):=⟨_,rfl⟩;rw[←hhi,←hlo]at hm;have hx:=zal (a[i]'h0);have hval:lo_.toNat+4294967296*hi_.toNat=(a[i]'h0).toNat*(a[i]'h0).toNat:=by
   have hlt:=zg3 hx hx;have e0:(0:UInt32).toNat=0:=rfl;rw[hlo,hhi,zba,zba,e0];omega
  have hw:IntKind.wrap .i64 ((i:Int)+1)=((i+1:Nat):Int):=zac _ (by omega);have hw2:IntKind.wrap .i64 (2*(i:Int))=2*(i:Int):=zac _ (by omega);have hw3:IntKind.wrap .i64 (2*(i:Int)+1)=2*(i:Int)+1:=zac _ (by omega);have e1:(X++List.replicate (2*a.length-2*i) (0:UInt32))=X++0::0::List.replicate (2*a.length-2*(i+1)) 0:=by
   rw[show 2*a.length-2*i=(2*a.length-2*(i+1))+1+1 by omega,Yav,Yav]
  have e2:((X++0::0::List.replicate (2*a.length-2*(i+1)) (0:UInt32)).set (2*i+1) hi_).set (2*i) lo_=X++[lo_,hi_]++List.replicate (2*a.length-2*(i+1)) 0:=by
   rw[Y5 _ _ (by omega),Y5 _ _ (by omega),hX,Ybw,show 2*i+1-2*i=1 by omega];simp
  refine⟨(i+1,X++[lo_,hi_]),⟨h0,by simp;omega,?_⟩,by omega,?_⟩
  ·simp only;rw[Yq h0]at hv;simp only[sqD]at hv;rw[zai,hX];simp only[zaq,zbo,Yaq,Y1];have p2:4294967296^(2*(i+1))=4294967296^(2*i)*(4294967296*4294967296):=zlc i;rw[p2,←hv,←hval];generalize 4294967296^(2*i)=q;generalize sqD (a.drop (i+1))=w;generalize (4294967296:Nat)=p
   grind
  ·unfold Zi8;rw[e1,←e2];have hl:(X++0::0::List.replicate (2*a.length-2*(i+1)) (0:UInt32)).length=2*a.length:=by simp;omega
   generalize (X++0::0::List.replicate (2*a.length-2*(i+1)) (0:UInt32))=B at *
   have s1:(Zb B).set (2*i+1) [u32 hi_.toNat]=Zb (B.set (2*i+1) hi_):=by simp[Zb,Ycc]
   have s2:(Zb (B.set (2*i+1) hi_)).set (2*i) [u32 lo_.toNat]=Zb ((B.set (2*i+1) hi_).set (2*i) lo_):=by simp[Zb,Ycc]
   have b1:2*i+1<2*a.length:=by omega
   have b2:2*i<2*a.length:=by omega
   have b3:2*(i:Int)+1<2*(a.length:Int):=by omega
   have b5:(0:Int)≤2*(i:Int)+1:=by omega
   have b6:(0:Int)≤2*(i:Int):=by omega
   have b7:(2*(i:Int)+1).toNat=2*i+1:=by omega
   have b8:(2*(i:Int)).toNat=2*i:=by omega
   have z0:(0:UInt32).toNat=0:=rfl;rw[z0]at hm;have hl2:((B.set (2*i+1) hi_)).length=2*a.length:=by simp[hl]
   simp -implicitDefEqProofs[l357_1,h0,hw,hw2,hw3,hm,hl,s1,s2,b1,b2,b3,b5,b6,b7,b8,hl2,hU]
 ·right;have:i=a.length:=by omega
  subst this;refine⟨_,⟨X++List.replicate (2*a.length-2*a.length) 0,rfl,by simp;omega,by simp[sqD]at hv;simp[hv]⟩,?_,?_⟩<;>simp -implicitDefEqProofs[l357_1,Zi8,hU]
theorem zmw(a:List UInt32)(ha:a.length≤4000):Za T 357 [.sl (Zb a) .an]=some (.sl (Zb (ofN (val a*val a))) .an):=by
 obtain⟨_,⟨out,rfl,ho,hv⟩,hr⟩:=zwk (T:=T) a (by omega) (0,List.replicate a.length 0) ⟨Yu _,by simp,by simp[za8]⟩;unfold Zi7 at hr;have hup:=z0j (T:=T) out 1 (by decide) (by omega);rw[Ya4]at hup;have hupl:(ofN (val out*2^1)).length≤10000:=by
  have h1:=zad out;have h2:=zld (x:=val out) (L:=out.length) (by omega);omega
 obtain⟨_,⟨dg,rfl,hd,hdv⟩,hr2⟩:=zwl (T:=T) a (Zb (ofN (val out*2^1))) (by simp) (by omega) (0,[]) ⟨Yu _,rfl,by simp⟩;unfold Zi8 at hr2;have hn:=zs2 (T:=T) [ofN (val out*2^1),dg] (by simp) (by
  intro x hx;simp only[Yy,Yc1,or_false]at hx;rcases hx with rfl | rfl<;>omega)
 have e1:lls [ofN (val out*2^1),dg]=[[.sl (Zb (ofN (val out*2^1))) .an],[.sl (Zb dg) .an]]:=rfl;have e2:Zdk [ofN (val out*2^1),dg]=val a*val a:=by
  simp only[Zdk,Yv,Yb9,zag,Yci,List.sum_nil,hv,hdv];have:=zxp a;omega
 rw[e1,e2]at hn;simp only[Y3,Ybc,Ydw,Yaq]at hr hr2;have e3:List.replicate a.length (0:UInt32)++List.replicate (a.length+1) 0=List.replicate (2*a.length+1) 0:=by
  rw[Ybu];congr 1;omega
 rw[e3]at hr;have w1:IntKind.wrap .i64 (2*(a.length:Int))=2*(a.length:Int):=zac _ (by omega);have w2:IntKind.wrap .i64 (2*(a.length:Int)+1)=2*(a.length:Int)+1:=zac _ (by omega);have n1:(0:Int)≤2*(a.length:Int)+1:=by omega
 have n2:2*(a.length:Int)+1≤4294967296:=by omega
 have n3:(0:Int)≤2*(a.length:Int):=by omega
 have n4:2*(a.length:Int)≤4294967296:=by omega
 have n5:(2*(a.length:Int)+1).toNat=2*a.length+1:=by omega
 have n6:(2*(a.length:Int)).toNat=2*a.length:=by omega
 have t1:List.take (2*a.length+1) out=out:=Yb (by omega);have t2:List.take (2*a.length) dg=dg:=Yb (by omega);rw[zab Zbj.h357 rfl,b357];simp -implicitDefEqProofs[w1,w2,n1,n2,n3,n4,n5,n6,hr,ho,t1,hup,hr2,hd,t2,hn]
end
theorem zz0(e m:Nat)(hm:m≤63):Z8 .shr (.i .i64 (e:Int)) (.i .i64 (m:Int))=some (.i .i64 ((e/2^m:Nat):Int)):=by
 have h1:¬ (m:Int)<0:=by omega
 have h2:min m 64=m:=by omega
 simp only[Z8,IntKind.bits,h1,if_false,Ych,h2];rw[Int.fdiv_eq_ediv_of_nonneg _ (Int.le_of_lt (Int.pow_pos (by decide)))]
 norm_cast
theorem zz1(k:Nat)(hk:k<9223372036854775808):Z8 .and (.i .i64 (k:Int)) (.i .i64 1)=some (.i .i64 ((k%2:Nat):Int)):=by
 show some (AV.i .i64 (IntKind.wrap .i64 ((BitVec.ofInt 64 (k:Int) &&& BitVec.ofInt 64 1).toNat:Int)))=_;have h1:(BitVec.ofInt 64 (k:Int)).toNat=k:=by
  rw[BitVec.ofInt_natCast,BitVec.toNat_ofNat];omega
 have h2:(BitVec.ofInt 64 1).toNat=1:=rfl;rw[BitVec.toNat_and,h1,h2,Nat.and_one_is_mod,zac _ (by omega)]
theorem zs8(e m:Nat):e/2^m=2*(e/2^(m+1))+e/2^m%2:=by
 rw[Yaa,←Yb3];omega
theorem zog(x e:Nat)(h:e*Z5 x≤65536):(ofN (x^e)).length≤2048:=by
 by_cases h1:x^e=0
 ·rw[h1];have:ofN 0=[]:=za4.2 rfl;rw[this]
  decide
 by_cases hx:x=0
 ·subst hx;cases e with
  | zero=>exact Yc (zae (k:=1) (by decide)) (by decide)
  | succ e=>simp at h1
 ·refine zae ?_;generalize hk:(2048:Nat)=k;have h2:x<2^Z5 x:=by
   unfold Z5;rw[if_neg hx];exact Ycs
  have h5:∀m,(2:Nat)^(32*m)=4294967296^m:=fun m=>by rw[Yc8]
  cases e with
  | zero=>exact Nat.one_lt_pow (by omega) (by decide)
  | succ e=>
   have h3:x^(e+1)<(2^Z5 x)^(e+1):=Nat.pow_lt_pow_left h2 (by omega);rw[←Yc8,Yae]at h3;refine Yl h3 ?_;rw[←h5];exact Yn (by decide) (by omega)
theorem zs9{e:Nat}(h:e<9223372036854775808):Z5 e≤63:=by
 unfold Z5;split
 ·omega
 ·next h0=>
  have:=(Yc7 (n:=e) (k:=63) h0).2 h;omega
theorem zwm(e:Nat):e/2^Z5 e=0:=by
 unfold Z5;split
 ·next h=>simp[h]
 ·exact Ybh Ycs
section
variable{T:Tbl}[Zy T][Zn T][Zs T][Zw T][Zbj T]
theorem zwn(a:List UInt32)(e:Nat)(ha:a.length≤3000)(he:e<9223372036854775808)(hb:e*Z5 (val a)≤65536):∀b:Nat,b≤63 →
  Zv T 0 0 (.norm false [7]) l258_0 ⟨[(0,.sl (Zb a) .an),(1,.i .i64 e),(7,.sl (Zb (ofN (val a^(e/2^b)))) .an),(8,.i .i64 ((b:Int)-1))],[],2⟩ =
   some (.n,⟨[(7,.sl (Zb (ofN (val a^e))) .an)],[],2⟩):=by
 refine za1 (fun b:Nat=>⟨[(0,.sl (Zb a) .an),(1,.i .i64 e),(7,.sl (Zb (ofN (val a^(e/2^b)))) .an),(8,.i .i64 ((b:Int)-1))],[],2⟩) (fun b=>b≤63) (fun b=>b) (fun _=>_) ?_;intro b hb63;cases b with
 | zero=>
  right;rw[Ydv,Nat.div_one];constructor<;>simp -implicitDefEqProofs[l258_0]
 | succ m=>
  left;have hs:=zs8 e m;have hmul:∀k,k≤e→k*Z5 (val a)≤65536:=fun k hk=>Yc (Yr _ hk) hb;have hd0:e/2^m≤e:=Ybt _ _;have l1:=zog (val a) (e/2^(m+1)) (hmul _ (Ybt _ _));have l2:=zog (val a) (2*(e/2^(m+1))) (hmul _ (by omega));have c1:=zmw (T:=T) (ofN (val a^(e/2^(m+1)))) (by omega);rw[zag,←Ybp,←Nat.two_mul]at c1;have c2:=zez (T:=T) (ofN (val a^(2*(e/2^(m+1))))) a (by omega) (by omega);rw[zag,←Nat.pow_add_one]at c2;have hsh:=zz0 e m (by omega);have han:=zz1 (e/2^m) (by omega);have w1:IntKind.wrap .i64 ((m:Int)-1)=(m:Int)-1:=zac _ (by omega);have p1:(0:Int)≤m:=by omega
  have e1:((m+1:Nat):Int)-1=m:=by omega
  refine⟨m,by omega,by simp,?_,rfl⟩;rcases Nat.mod_two_eq_zero_or_one (e/2^m) with h0 | h0
  ·rw[h0]at han hs;rw[Y1]at hs;rw[←hs]at c1;generalize e/2^m=q at *
   simp -implicitDefEqProofs[l258_0,p1,c1,hsh,han,w1]
  ·rw[h0]at han hs;rw[←hs]at c2;generalize e/2^m=q at *
   simp -implicitDefEqProofs[l258_0,p1,c1,c2,hsh,han,w1]
theorem zwo(a:List UInt32)(e:Nat)(ha:a.length≤3000)(h2:2≤Z5 (val a))(hb:e≤65536/Z5 (val a)) :
  Za T 258 [.sl (Zb a) .an,.i .i64 e]=some (.tup [.sl (Zb (ofN (val a^e))) .an,.b true]):=by
 have hmul:e*Z5 (val a)≤65536:=Yc (Yr _ hb) (Nat.div_mul_le_self _ _);have he:e≤65536:=Yc hb (Ybt _ _);have c1:=zf5 (T:=T) a (by omega);have c2:=zd4 (T:=T) 1 (by decide);have c3:=zd4 (T:=T) e (by omega);have c4:=zf5 (T:=T) (ofN e) (by
  have:=zae (n:=e) (k:=1) (by omega);omega)
 rw[zag]at c4;have hl:=zwn (T:=T) a e ha (by omega) hmul (Z5 e) (zs9 (by omega));rw[zwm,Ydv]at hl;have hbe:=zs9 (e:=e) (by omega);have hq:((65536:Int)).tdiv (Z5 (val a):Int)=((65536/Z5 (val a):Nat):Int):=by
  rfl
 have hbl:65536/Z5 (val a)≤65536:=Ybt _ _;have w0:IntKind.wrap .i64 ((65536/Z5 (val a):Nat):Int)=((65536/Z5 (val a):Nat):Int):=zac _ (by omega);have w1:IntKind.wrap .i64 ((Z5 e:Int)-1)=(Z5 e:Int)-1:=zac _ (by omega);have q1:¬ (e:Int)<0:=by omega
 have q2:(1:Int)<(Z5 (val a):Int):=by omega
 have q3:¬ ((65536/Z5 (val a):Nat):Int)<(e:Int):=by omega
 have q4:¬ (Z5 (val a):Int)<2:=by omega
 have q5':¬ Z5 (val a)=0:=by omega
 have qm:((e:Int)%18446744073709551616).toNat=e:=by omega
 rw[zab Zbj.h258 rfl,b258];generalize 65536/Z5 (val a)=Q at *
 simp -implicitDefEqProofs[c1,c2,c3,c4,hl,hq,w0,w1,q1,q2,q3,q4,q5',qm]
end
section
variable{T:Tbl}[Zaq T][Zar T][Zai T][Zas T][Za3 T][Zba T][Zav T][Zbb T][Zfw T]
def Zpq(m:List (List Fz))(i:Nat):St:=⟨[(0,.sl (Zp m) .an),(3,.i .i64 i)],[],2⟩
def Zpr(m:List (List Fz))(i:Nat):St:=⟨[(0,.sl (Zp m) .an),(3,.bs (.loc 3) 1 1 0 i),(4,.i .i64 i)],[((.loc 3),⟨1,.own,1,Zp (fzM (Zow (m.take i)))⟩)],3⟩
def Zps(a b:List (List Fz))(i:Nat):St:=⟨[(0,.sl (Zp a) .an),(1,.sl (Zp b) .an),(5,.i .i64 i)],[],2⟩
def Zpt(n:Int)(k:Nat)(i:Nat):St:=⟨[(0,.i .i64 n),(3,.bs (.loc 3) 1 1 0 i),(4,.i .i64 i)],[((.loc 3),⟨1,.own,1,Zp (idQ k i)⟩)],3⟩
def Zoc(L:List (List Rat))(R:List (List Fz))(j:Nat)(i:Nat):St:=⟨[(0,.sl (Zp (fzM L)) .an),(3,.bs (.loc 3) 1 1 0 j),(4,.i .i64 j),(5,.bs (.loc 5) 2 3 0 i),(6,.i .i64 i)],[(.loc 3,⟨1,.own,1,Zp R⟩),((.loc 5),⟨2,.own,3,Zc (fzs (Zl6 (L.take i) j))⟩)],4⟩
def Zod(L:List (List Rat))(i:Nat):St:=⟨[(0,.sl (Zp (fzM L)) .an),(3,.bs (.loc 3) 1 1 0 i),(4,.i .i64 i)],[((.loc 3),⟨1,.own,1,Zp (fzM ((List.range i).map (Zl6 L)))⟩)],3⟩
def Zpu(L:List (List Rat))(c:List Rat)(i:Nat):St:=⟨[(0,.sl (Zp (fzM L)) .an),(1,.sl (Zc (fzs c)) .an),(5,.bs (.loc 5) 1 3 0 i),(6,.i .i64 i)],[((.loc 5),⟨1,.own,3,Zc (fzs (Zkv (L.take i) c))⟩)],3⟩
def Zpv(m:List (List Fz))(many words:Nat):Bool:=decide (many<m.length) || m.any fun r=>Zag r many words
def Zpw(m:List (List Fz))(many words:Nat)(i:Nat):St:=⟨[(0,.sl (Zp m) .an),(1,.i .i64 many),(2,.i .i64 words),(7,.i .i64 i)],[],2⟩
end
section
variable{T:Tbl}[Zn T][Zs T][Zw T][Zq T][Zk T][Zaz T][Ze T][Zf T][Zr T][Zab T][Zbn T][Zhl T][Zaq T][Zar T][Zai T][Zas T][Za3 T][Zba T][Zav T][Zbb T][Zfw T][Zdj T][Zc9 T][Ze6 T]
def Zg1(m:List (List Fz))(i:Nat):St:=⟨[(0,.sl (Zp m) .an),(3,.bs (.loc 3) 1 1 0 i),(4,.i .i64 i)],[((.loc 3),⟨1,.own,1,Zp (m.take i)⟩)],3⟩
theorem zsn(m:List (List Fz))(hl:m.length≤1000000)(hw:∀r∈m,r.length≤1000000) :
  Zv T 0 0 (.norm false [3]) l308_0 (Zg1 m 0)=some (.n,⟨[(3,.bs (.loc 3) 1 1 0 (m.length))],[((.loc 3),⟨1,.own,1,Zp (m.take (m.length))⟩)],3⟩):=by
 refine zau (Zg1 m) (m.length) _ (fun i hi=>?_) ?_
 ·have hws:=zb8 hi (by omega);have hb:i≤4294967295:=by omega
  have hn:=zdv (T:=T) (m[i]'hi) (Yc (hw _ (Yp hi)) (by decide));have e:=zky m hi;have hml:(m.take i).length=i:=by grind
  have hp:=zsk hml (m[i]'hi);unfold Zg1;simp -implicitDefEqProofs[l308_0,hi,hws,hb,hp,hml,hn]
 ·unfold Zg1;rw[Yb (Yg _)];constructor<;>simp -implicitDefEqProofs[l308_0]
theorem zvy(m:List (List Fz))(hl:m.length≤1000000)(hw:∀r∈m,r.length≤1000000):Za T 308 [.sl (Zp m) .an]=some (.sl (Zp m) .an):=by
 have h:=zsn (T:=T) m hl hw;unfold Zg1 at h;rw[Ybo,Yb (Yg _)]at h;simp only[zop,Y3]at h;have ht:List.take m.length m=m:=Yb (Yg _);rw[zab Ze6.h308 rfl,b308];simp -implicitDefEqProofs[h,ht]
def Zn4(a b:List (List Fz))(i:Nat):St:=⟨[(0,.sl (Zp a) .an),(1,.sl (Zp b) .an),(5,.i .i64 i)],[],2⟩
theorem zadk{q:Rat}(h1:q.num.natAbs<4294967296)(h2:q.den<4294967296):sz q≤1:=Yd0.2 ⟨zae (by omega),zae (by omega)⟩
end
class Zmk (T:Tbl):Prop where
def Zmy(l:List Rat):Nat→Nat
 | 0=>0
 | n+1=>if l.getD n 0=0 then Zmy l n else n+1
def Zpm(l:List Rat):List Rat:=l.take (Zmy l l.length)
section
variable{T:Tbl}[Zn T][Zs T][Zw T][Zq T][Zk T][Zaz T][Ze T][Zf T][Zr T][Zab T][Zbn T][Zmk T]
def Zn7:List Rat→Rat→Rat
 | [],_=>0
 | a::l,x=>Zn7 l x*x+a
def dif(l:List Rat):List Rat:=(List.range (l.length-1)).map fun(i:Nat)=>(((i:Int)+1:Int):Rat)*l.getD (i+1) 0
def Zq9(l:List Fz)(i:Nat):St:=⟨[(0,.sl (Zc l) .an),(3,.bs (.loc 3) 1 3 0 i),(4,.i .i64 ((i:Int)+1))],[((.loc 3),⟨1,.own,3,Zc (fzs ((dif (l.map fv)).take i))⟩)],3⟩
end
def Zeg(x:Fz):Nat:=Z5 (val x.2.1)+Z5 (val x.2.2)
def Zm0(l:List Fz):Nat:=l.foldl (fun n x=>max n (Zeg x)) 0
theorem zf6{x k:Nat}(h:(ofN x).length≤k):Z5 x≤32*k:=by
 unfold Z5;split
 ·omega
 ·next h0=>
  have h1:=za5 (ofN x);rw[zag]at h1;have h2:4294967296^(ofN x).length≤4294967296^k:=Yn (by decide) h;have h3:(4294967296:Nat)^k=2^(32*k):=by rw[Yc8]
  have:=(Yc7 (n:=x) (k:=32*k) h0).2 (by omega);omega
theorem z0a{x:Fz}{k:Nat}(h:fsz x≤k):Zeg x≤64*k:=by
 unfold Zeg;have h1:=zf6 (Yc (zad x.2.1) (Yc (zfy x) h));have h2:=zf6 (Yc (zad x.2.2) (Yc (zfz x) h));omega
section
variable{T:Tbl}[Zy T][Zn T][Zs T][Zw T][Zq T][Zk T][Zaz T][Ze T][Zf T][Zr T][Za9 T][Zae T][Zbj T][Zab T][Zbn T][Zex T]
def Zm1(b c:Rat)(i:Nat):Rat:=if i=0 then 0 else if i=1 then b else (if b<c then c else b)
def Zr3(b c:Rat)(i:Nat):St:=⟨[(2,.ptr (.loc 2) 1 3 0 0),(3,.ptr (.loc 3) 2 3 0 0),(7,.sl [Zbk (fz b),Zbk (fz c)] .an),(8,.i .i64 2),(9,.i .i64 i)],
 [(.loc 2,⟨1,.str,3,[Zdz]⟩),(.loc 3,⟨2,.str,3,[Zbk (fz (Zm1 b c i))]⟩)],4⟩
def Zr4(l:List Fz)(i:Nat):St:=⟨[(2,.ptr (.loc 2) 1 3 0 0),(3,.ptr (.loc 3) 2 3 0 0),(7,.sl (Zc l) .an),(8,.i .i64 l.length),(9,.i .i64 i)],
 [(.loc 2,⟨1,.str,3,[Zdz]⟩),(.loc 3,⟨2,.str,3,[Zbk (fz (Zlu ((l.map fv).take i)))]⟩)],4⟩
def Zr5(l:List Fz)(i:Nat):St:=⟨[(3,.i .i64 (Zm0 (l.take i))),(6,.sl (Zc l) .an),(7,.i .i64 l.length),(8,.i .i64 i)],[],2⟩
end
section
variable{T:Tbl}[Zaq T][Zar T][Zai T][Zas T][Za3 T][Zba T][Zav T][Zbb T][Zgx T]
def Zr6(c:Rat)(p:List Rat)(i:Nat):St:=⟨[(1,.sl (Zc (fzs p)) .an),(2,.ptr (.loc 2) 1 3 0 0),(5,.bs (.loc 5) 2 3 0 i),(6,.i .i64 i)],
 [(.loc 2,⟨1,.str,3,[Zbk (fz c)]⟩),(.loc 5,⟨2,.own,3,Zc (fzs ((Zme c p).take i))⟩)],4⟩
def Zr7(p:List Rat)(i:Nat):St:=⟨[(0,.sl (Zc (fzs p)) .an),(2,.ptr (.loc 2) 1 3 0 0),(3,.ptr (.loc 3) 2 3 0 0),(4,.i .i64 i)],
 [(.loc 2,⟨1,.str,3,[Zdz]⟩),(.loc 3,⟨2,.str,3,[Zbk (fz (Zlu (p.take i)))]⟩)],4⟩
end
structure Ins where
 op:Int
 a:Int
 b:Int
 n:Fz
abbrev Znn(i:Ins):List AV:=[.i .i64 i.op,.i .i64 i.a,.i .i64 i.b,.b i.n.1,.sl (Zb i.n.2.1) .an,.sl (Zb i.n.2.2) .an]
def Zi1(l:List Ins):List (List AV):=l.map Znn
@[simp] theorem z8w:Zi1 []=[]:=rfl
structure Tp where
 code:List Ins
 outs:List Int
 dim:Int
 par:Int
abbrev etp(t:Tp):AV:=.agg [.sl (Zi1 t.code) .an,.sl (ints t.outs) .an,.i .i64 t.dim,.i .i64 t.par]
def Zct(x:Fz):Bool:=decide (x=fz (fv x))
def Zmg(x:Fz):Bool:=!x.1&&x.2.1.isEmpty&&x.2.2.isEmpty
def Zh9(i:Ins):List Int:=if i.op=6∨i.op=11 then [i.a] else if 7≤i.op∧i.op≤10 then [i.a,i.b] else []
def Zf1(i m:Int):Bool:=decide (0≤i)&&decide (i<m)
def Zno(dim par p:Int)(i:Ins):Bool:=
 if i.op=1 then decide (i.a=0)&&decide (i.b=0)&&Zct i.n
 else Zmg i.n&&(Zh9 i).all (fun r=>Zf1 r p) &&
  (if i.op=2 then decide (i.a=0)&&decide (i.b=0)
   else if i.op=3 then Zf1 i.a dim&&decide (i.b=0)
   else if i.op=4 then Zf1 i.a par&&decide (i.b=0)
   else if i.op=6 then decide (i.b=0)
   else if i.op=11 then decide (-8≤i.b)&&decide (i.b≤8)
   else decide ((Zh9 i).length=2))
def Zi2(dim par:Int):Nat→List Ins→Int
 | _,[]=>-1
 | p,i::r=>if Zno dim par p i then Zi2 dim par (p+1) r else p
def Zmh(t:Tp):Bool:=Zf1 (t.dim-1) 6&&Zf1 t.par 7&&decide ((t.outs.length:Int)=t.dim)&&decide (t.code.length≤300)
def Zmi(t:Tp):Int:=
 if Zmh t=false then -2 else if Zi2 t.dim t.par 0 t.code≠-1 then Zi2 t.dim t.par 0 t.code
 else if (t.outs.all fun o=>Zf1 o t.code.length)=false then t.code.length else -1
def okT(t:Tp):Bool:=decide (Zmi t=-1)
structure OkTp (t:Tp):Prop where
 d1:1≤t.dim
 d2:t.dim≤6
 p1:0≤t.par
 p2:t.par≤6
 ol:(t.outs.length:Int)=t.dim
 cl:t.code.length≤300
 may:∀(k:Nat) (i:Ins),t.code[k]? = some i→Zno t.dim t.par k i=true
 outs:∀o∈t.outs,0≤o∧o<t.code.length
structure Po where
 t:Rat
 y:List Rat
 p:List Rat
structure PoF where
 t:Fz
 y:List Fz
 p:List Fz
def PoF.v(x:PoF):Po:=⟨fv x.t,x.y.map fv,x.p.map fv⟩
def Po.f(x:Po):PoF:=⟨fz x.t,fzs x.y,fzs x.p⟩
abbrev ept(x:PoF):AV:=.agg [.b x.t.1,.sl (Zb x.t.2.1) .an,.sl (Zb x.t.2.2) .an,.sl (Zc x.y) .an,.sl (Zc x.p) .an]
def gI(l:List Rat)(i:Int):Rat:=l.getD i.toNat 0
def Znp(x:Rat)(e:Int):Rat:=x^e
def Zir(P:Po)(D:List Rat)(i:Ins):Rat×Bool:=
 if i.op=1 then (fv i.n,true)
 else if i.op=3 then (gI P.y i.a,true)
 else if i.op=4 then (gI P.p i.a,true)
 else if i.op=6 then (-gI D i.a,true)
 else if i.op=7 then (gI D i.a+gI D i.b,true)
 else if i.op=8 then (gI D i.a-gI D i.b,true)
 else if i.op=9 then (gI D i.a*gI D i.b,true)
 else if i.op=10 then (gI D i.a/gI D i.b,decide (gI D i.b≠0))
 else if i.op=11 then (if i.b<0∧gI D i.a=0 then (0,false) else (Znp (gI D i.a) i.b,true))
 else (P.t,true)
def Zlj(q:Rat):Nat:=Zeg (fz q)
def Zjm(lim:Nat)(P:Po):List Ins→List Rat→List Rat×Nat×Nat
 | [],D=>(D,0,0)
 | i::r,D=>if (Zir P D i).2=false then ([],3,D.length) else if lim<Zlj (Zir P D i).1 then ([],6,D.length) else Zjm lim P r (D++[(Zir P D i).1])
abbrev tyI:Ty:=.cons (.int .i64) (.cons (.int .i64) (.cons (.int .i64) (.cons tyF .nil)))
abbrev tyT:Ty:=.cons (.sl tyI) (.cons (.sl (.int .i64)) (.cons (.int .i64) (.cons (.int .i64) .nil)))
abbrev tyP:Ty:=.cons tyF (.cons (.sl tyF) (.cons (.sl tyF) .nil))
theorem z4z{a:Int}(h:(Lit.int .i64 a).wf=true):-9223372036854775808≤a∧a<9223372036854775808:=by
 simp[Lit.wf,IntKind.min,IntKind.max,IntKind.signed,IntKind.bits]at h;omega
abbrev tyW:Ty:=.cons tyP (.cons tyP (.cons (.int .i64) .nil))
theorem zsc{x:AV}(h:Zgs (true,Zhj 2 (.sl tyF)) x):∃u v:List Fz,wkA x=.agg [.sl (Zc u) .an,.sl (Zc v) .an]:=by
 obtain⟨cs,rfl,c1,c1',rfl,h1,c2,c2',rfl,h2,rfl⟩:=h;obtain⟨u,e1⟩:=zcy h1;obtain⟨v,e2⟩:=zcy h2;refine⟨u,v,?_⟩;rw[wkA];simp only[zh6,e1,e2]
 rfl
section
variable{T:Tbl}[Zab T][Zbe T]
theorem zk1(c:UInt8):Za T 185 [u8 c.toNat]=some (.b (isD c)):=by
 rw[zab Zbe.h185 rfl,b185];by_cases h1:48≤c.toNat
 ·simp -implicitDefEqProofs[isD,h1]
 ·simp -implicitDefEqProofs[isD,h1]
theorem zh8(c:UInt8):Za T 186 [u8 c.toNat]=some (.b (isL c)):=by
 rw[zab Zbe.h186 rfl,b186];by_cases h1:97≤c.toNat<;>by_cases h2:c.toNat≤122<;>by_cases h3:65≤c.toNat<;>by_cases h4:c.toNat≤90<;>by_cases h5:c.toNat=95 <;>
  simp -implicitDefEqProofs[isL,h1,h2,h3,h4,h5]
theorem zv2(c:UInt8):Za T 187 [u8 c.toNat]=some (.b (isS c)):=by rw[p187,zqj]
theorem zv3(c:UInt8):Za T 177 [u8 c.toNat]=some (.i .i64 (Zbg c)):=by
 have h1:=zk1 (T:=T) c;have h2:=zh8 (T:=T) c;have h3:=zv2 (T:=T) c;rw[zab Zbe.h177 rfl,b177];cases e1:isD c<;>cases e2:isL c<;>cases e3:isS c<;>simp -implicitDefEqProofs[Zbg,h1,h2,h3,e1,e2,e3]
theorem zv4(k:Nat)(c:UInt8):Za T 188 [.i .i64 k,u8 c.toNat]=some (.b (Zd4 k c)):=by
 have h1:=zk1 (T:=T) c;have h2:=zh8 (T:=T) c;rw[zab Zbe.h188 rfl,b188];by_cases k1:k=1
 ·subst k1;cases e1:isD c<;>cases e2:isL c<;>simp -implicitDefEqProofs[Zd4,h1,e1,e2]
 ·have k1':¬ (k:Int)=1:=by omega
  by_cases k2:k=2
  ·subst k2;cases e1:isD c<;>cases e2:isL c<;>simp -implicitDefEqProofs[Zd4,h1,h2,e1,e2]
  ·have k2':¬ (k:Int)=2:=by omega
   simp -implicitDefEqProofs[Zd4,k1,k2,k1',k2']
theorem zv5(k:Nat):Za T 179 [.i .i64 k]=some (.i .i64 (Zeh k)):=by
 rw[zab Zbe.h179 rfl,b179];by_cases k1:k=1
 ·subst k1;simp -implicitDefEqProofs[Zeh]
 ·have k1':¬ (k:Int)=1:=by omega
  by_cases k2:k=2
  ·subst k2;simp -implicitDefEqProofs[Zeh]
  ·have k2':¬ (k:Int)=2:=by omega
   simp -implicitDefEqProofs[Zeh,k1,k2,k1',k2']
theorem zpq(s:List UInt8)(hs:s.length≤1000000)(k F:Nat):∀n:Nat,(n≤s.length∧n+((s.drop n).takeWhile (Zd4 k)).length=F) →
  Zv T 0 0 (.norm false [5]) l178_0 ⟨[(0,.s s),(1,.i .i64 k),(5,.i .i64 n)],[],2⟩=some (.n,⟨[(5,.i .i64 F)],[],2⟩):=by
 refine za1 (fun n:Nat=>⟨[(0,.s s),(1,.i .i64 k),(5,.i .i64 n)],[],2⟩) _ (fun n=>s.length-n) _ ?_
 rintro n ⟨hn,hF⟩
 by_cases h0:n<s.length
 ·have hd:=Yq h0;have hgo:=zv4 (T:=T) k (s[n]'h0);have hw:IntKind.wrap .i64 ((n:Int)+1)=((n+1:Nat):Int):=zac _ (by omega);by_cases hc:Zd4 k (s[n]'h0)=true
  ·left;rw[hd,List.takeWhile_cons_of_pos hc]at hF;refine⟨n+1,⟨h0,by grind⟩,by omega,?_,rfl⟩;simp -implicitDefEqProofs[l178_0,h0,hgo,hc,hw]
  ·right;rw[hd,List.takeWhile_cons_of_neg hc]at hF;subst hF;constructor<;>simp -implicitDefEqProofs[l178_0,h0,hgo,hc]
 ·right;have:n=s.length:=by omega
  subst this;rw[Yag]at hF;subst hF;constructor<;>simp -implicitDefEqProofs[l178_0]
theorem zss(c:UInt8)(r:List UInt8)(hs:r.length≤100000)(k:Nat):Za T 178 [.s (c::r),.i .i64 k]=some (.i .i64 (Zcy k r)):=by
 have h:=zpq (T:=T) (c::r) (by grind) k (Zcy k r) 1 ⟨by simp,rfl⟩;rw[zab Zbe.h178 rfl,b178]
 simp_all
theorem zst(l:List UInt8)(h:l.length≤1000000):Za T 184 [.s l,.s [10]]=some (.tup [.s (l.takeWhile (· != 10)),.s ((l.dropWhile (· != 10)).drop 1),.b (l.contains 10)]):=by rw[p184,zik l h]
def wdR(w:Wd):List AV:=[.i .i64 w.1,.s w.2.1,.i .i64 w.2.2]
def Zhn(l:List Wd):List (List AV):=l.map wdR
def Zpe(s:List UInt8)(i:Nat)(acc:List Wd):St:=
 ⟨[(0,.s s),(3,.ptr (.loc 3) 1 4 0 0),(4,.bs (.loc 4) 2 3 0 acc.length),(5,.i .i64 i)],[(.loc 3,⟨1,.str,4,[[.i .i64 0,.i .i64 0,.i .i64 0,.i .i64 0]]⟩),(.loc 4,⟨2,.own,3,Zhn acc⟩)],4⟩
def Zpf:Except Nat (List Wd)→Option (Ex×St)
 | .ok ws=>some (.n,⟨[(3,.ptr (.loc 3) 1 4 0 0),(4,.bs (.loc 4) 2 3 0 ws.length)],[(.loc 3,⟨1,.str,4,[[.i .i64 0,.i .i64 0,.i .i64 0,.i .i64 0]]⟩),(.loc 4,⟨2,.own,3,Zhn ws⟩)],4⟩)
 | .error e=>some (.r,⟨[(2,.sl [] .an),(3,.ptr (.loc 3) 1 4 0 0)],[(.loc 3,⟨1,.str,4,[[.i .i64 1,.i .i64 0,.i .i64 0,.i .i64 e]]⟩)],3⟩)
def Zns(r:Except Nat (List Wd)):AV:=
 match r with
 | .ok ws=>.tup [.sl (Zhn ws) .an,.agg [.i .i64 0,.i .i64 0,.i .i64 0,.i .i64 0]]
 | .error e=>.tup [.sl [] .an,.agg [.i .i64 1,.i .i64 0,.i .i64 0,.i .i64 e]]
def Zpg(s:List UInt8):Except Nat (List Wd):=if 4000<s.length then .error 4000 else Zlt (s.drop (Zip false s)) (Zip false s) []
def Zbo(k:Int)(t:List UInt8):Bool:=
 match t with
 | []=>false
 | c::r=>decide (k≠0)&&decide ((Zbg c:Int)=k)&&decide (Zcy (Zbg c) r=r.length+1)&&decide (r.length+1≤Zeh (Zbg c))
theorem zk2(k a:Int)(t:List UInt8)(ht:t.length≤100000):Za T 172 [.agg [.i .i64 k,.s t,.i .i64 a]]=some (.b (Zbo k t)):=by
 rw[zab Zbe.h172 rfl,b172];cases t with
 | nil=>simp -implicitDefEqProofs[Zbo]
 | cons c r=>
  simp only[Yk]at ht;have hk:=zv3 (T:=T) c;have hf:=zss (T:=T) c r (by omega) (Zbg c);have hm:=zv5 (T:=T) (Zbg c);by_cases h0:k=0
  ·simp -implicitDefEqProofs[Zbo,h0]
  ·by_cases h1:(Zbg c:Int)=k
   ·subst h1;have h0':¬ Zbg c=0:=by omega
    by_cases h2:Zcy (Zbg c) r=r.length+1
    ·by_cases h3:r.length+1≤Zeh (Zbg c)
     ·have h3':(r.length:Int)+1≤(Zeh (Zbg c):Nat):=by omega
      simp -implicitDefEqProofs[Zbo,h0',hk,hf,hm,h2,h3,h3']
     ·have h3':¬ (r.length:Int)+1≤(Zeh (Zbg c):Nat):=by omega
      simp -implicitDefEqProofs[Zbo,h0',hk,hf,hm,h2,h3,h3']
    ·have h2':¬ ((Zcy (Zbg c) r:Nat):Int)=(r.length:Int)+1:=by omega
     simp -implicitDefEqProofs[Zbo,h0',hk,hf,h2,h2']
   ·simp -implicitDefEqProofs[Zbo,h0,hk,h1]
abbrev Wz:=Int×List UInt8×Int
def wzR(w:Wz):List AV:=[.i .i64 w.1,.s w.2.1,.i .i64 w.2.2]
def Zmv(l:List Wz):List (List AV):=l.map wzR
def Zqz(l:List Wz)(i:Nat)(b:BId):St:=
 ⟨[(3,.bs (.loc 3) 1 1 0 i),(6,.sl (Zmv l) .an),(7,.i .i64 l.length),(8,.i .i64 i)],[(.loc 3,⟨1,.own,1,Z4 ((l.take i).map (·.2.1))⟩)],3⟩
end
structure Tr where
 t:Fz
 w:Fz
 h:Fz
 e:Fz
 y:List Fz
 ok:Bool
abbrev Zoy(r:Tr):List AV:=[.b r.t.1,.sl (Zb r.t.2.1) .an,.sl (Zb r.t.2.2) .an,.b r.w.1,.sl (Zb r.w.2.1) .an,.sl (Zb r.w.2.2) .an,.b r.h.1,.sl (Zb r.h.2.1) .an,.sl (Zb r.h.2.2) .an,.b r.e.1,.sl (Zb r.e.2.1) .an,.sl (Zb r.e.2.2) .an,.sl (Zc r.y) .an,.b r.ok]
def Zd3(l:List Tr):List (List AV):=l.map Zoy
@[simp] theorem z5u:Zd3 []=[]:=rfl
structure Hs where
 l:List Tr
 t:Fz
 y:List Fz
abbrev ehs(h:Hs):AV:=.agg [.sl (Zd3 h.l) .an,.b h.t.1,.sl (Zb h.t.2.1) .an,.sl (Zb h.t.2.2) .an,.sl (Zc h.y) .an]
def Zh8(l:List Fz):Bool:=l.all Zct
def Tr.nums(r:Tr):List Fz:=[r.t,r.w,r.h,r.e]
def Zl7(h:Hs):Bool:=(h.l.all fun r=>Zh8 r.nums&&Zh8 r.y)&&(Zct h.t&&Zh8 h.y)
def Znd(h:Hs):Bool:=(h.l.all fun r=>decide (r.y.length=h.y.length))&&(decide (1≤h.y.length)&&decide (h.y.length≤6))
def Zne(r:Tr):Bool:=decide (0<fv r.w)&&decide (0<fv r.h)&&decide (fv r.h≤fv r.w)&&decide (0≤fv r.e)
def Zl8(h:Hs):Bool:=h.l.all Zne
def Znf(r:Tr)(at_:Fz)(y:List Fz):Bool:=if r.ok then decide (fv at_=fv r.t+fv r.h) else decide (fv at_=fv r.t)&&decide (y.map fv=r.y.map fv)
def Zls(l:List Tr)(t:Fz)(y:List Fz):Fz×List Fz:=match l with | []=>(t,y) | r::_=>(r.t,r.y)
def Zkw:List Tr→Fz→List Fz→Bool
 | [],_,_=>true
 | r::l,t,y=>Znf r (Zls l t y).1 (Zls l t y).2&&Zkw l t y
def Zl9(h:Hs):Bool:=Zkw h.l h.t h.y
def Zma(h:Hs):Int:=if !Zl7 h then 1 else if !Znd h then 2 else if 200<h.l.length then 3 else if !Zl8 h then 4 else if !Zl9 h then 5 else 0
def Zoz(h:Hs):Bool:=decide (Zma h=0)
def Zo0(r:Tr):Tr:=⟨fz (fv r.t),fz (fv r.w),fz (fv r.h),fz (fv r.e),nrm r.y,r.ok⟩
def Zlf(l:List Tr):List Tr:=(l.filter (·.ok)).map Zo0
def Zqm(h:Hs):List Fz:=(Zlf h.l).map (·.t)++[fz (fv h.t)]
def Zqn(h:Hs):List (List Fz):=(Zlf h.l).map (·.y)++[nrm h.y]
def Zsv(h:Hs):List Fz:=(Zlf h.l).map (·.h)
structure HsS (h:Hs) (B:Nat):Prop where
 len:h.l.length≤1000
 t:fsz h.t≤B
 y:∀x∈h.y,fsz x≤B
 yl:h.y.length≤1000
 rt:∀r∈h.l,∀x∈r.nums,fsz x≤B
 ry:∀r∈h.l,∀x∈r.y,fsz x≤B
 rl:∀r∈h.l,r.y.length≤1000
theorem zmp:∀(a b:List UInt32),a.length=b.length→val a=val b→a=b
 | [],[],_,_=>rfl
 | x::a,y::b,hl,hv=>by
  simp only[zaq]at hv;have hx:=zal x;have hy:=zal y;have h1:x.toNat=y.toNat:=by omega
  have h2:val a=val b:=by omega
  rw[UInt32.toNat_inj.1 h1,zmp a b (by simpa using hl) h2]
 | [],_::_,hl,_=>by simp at hl
 | _::_,[],hl,_=>by simp at hl
theorem zet{x y:Nat}:Zfz x y=0↔x=y:=by
 grind[Zfz]
section
variable{T:Tbl}[Zy T][Zn T][Zs T][Zw T][Zq T][Zk T][Ze T][Zf T][Zr T][Zaa T]
theorem zpn(x:Fz)(hx:fsz x≤10000):Za T 208 [efz x]=some (.b (Zct x)):=by
 have hn:=zkx (T:=T) x hx;have hs:=zee (x:=x) (L:=10000) hx (by decide);have l1:=zlr (fv x);have l2:=zii (fv x);unfold Zct;have e':fz (fv x)=(decide ((fv x).num<0),ofN (fv x).num.natAbs,ofN (fv x).den):=rfl;rw[e']at hn ⊢;obtain⟨n,a,d⟩:=x;have la:=zfy (n,a,d);have ld:=zfz (n,a,d);simp only at la ld;generalize decide ((fv (n,a,d)).num<0)=m at *
 generalize ofN (fv (n,a,d)).num.natAbs=b at *
 generalize ofN (fv (n,a,d)).den=e at *
 have c1:=zg5 (T:=T) a b (by omega) (by omega);have c2:=zg5 (T:=T) d e (by omega) (by omega);rw[zab Zaa.h208 rfl,b208];by_cases h1:n=m
 case neg=>
  have hd:decide ((n,a,d)=(m,b,e))=false:=by grind
  have hb:(n == m)=false:=by grind
  rw[hd];simp -implicitDefEqProofs[hn,hb]
 subst h1;by_cases h2:a.length=b.length
 case neg=>
  have hd:decide ((n,a,d)=(n,b,e))=false:=by
   grind
  have hb:((a.length:Int) == b.length)=false:=by grind
  rw[hd];simp -implicitDefEqProofs[hn,hb]
 by_cases h3:d.length=e.length
 case neg=>
  have hd:decide ((n,a,d)=(n,b,e))=false:=by
   grind
  have hb:((d.length:Int) == e.length)=false:=by grind
  rw[hd];simp -implicitDefEqProofs[hn,h2,hb]
 by_cases h4:val a=val b
 case neg=>
  have hd:decide ((n,a,d)=(n,b,e))=false:=by
   grind
  have hc:¬ Zfz (val a) (val b)=0:=fun h=>h4 (zet.1 h);rw[hd];simp -implicitDefEqProofs[hn,h2,h3,c1,hc]
 have hab:=zmp a b h2 h4;subst hab;have hk:Zfz (val a) (val a)=0:=zet.2 rfl;rw[hk]at c1;by_cases h5:val d=val e
 case neg=>
  have hd:decide ((n,a,d)=(n,a,e))=false:=by
   grind
  have hc:¬ Zfz (val d) (val e)=0:=fun h=>h5 (zet.1 h);rw[hd];simp -implicitDefEqProofs[hn,h3,c1,c2,hc]
 have hde:=zmp d e h3 h5;subst hde;have hk2:Zfz (val d) (val d)=0:=zet.2 rfl;rw[hk2]at c2;have hd:decide ((n,a,d)=(n,a,d))=true:=by simp
 simp -implicitDefEqProofs[hn,c1,c2]
def Zqs(a:List UInt32)(k i:Nat):St:=⟨[(0,.sl (Zb a) .an),(5,.sl (Zb (ofN (val a^i))) .an),(7,.i .i64 k),(8,.i .i64 i)],[],2⟩
def Zqt(q:Rat)(e:Int):Rat×Bool:=if -8≤e∧e≤8∧¬ (e<0∧q=0) then (Znp q e,true) else (0,false)
end
@[simp] theorem zm8(l:List Int):(ints l).length=l.length:=by simp[ints]
@[simp] theorem zhe(l:List Int):wkL (ints l)=ints l:=by rw[zbt];simp[ints,wkR,wkA]
@[simp] theorem ints_get?(l:List Int)(i:Nat):(ints l)[i]? = (l[i]?).map fun x=>[.i .i64 x]:=by simp[ints]
@[simp] theorem z8t:ints []=[]:=rfl
section
variable{T:Tbl}[Zy T][Zn T][Zs T][Zw T][Zq T][Zk T][Ze T][Zf T][Zr T][Zaa T][Zbq T]
def Zss(t:Tp)(p:Nat)(x:Ins)(i:Nat):St:=
 ⟨[(1,.i .i64 p),(2,.ptr (.loc 2) 1 4 0 0),(5,.ptr (.loc 5) 2 6 0 0),(30,.sl (ints (Zh9 x)) .an),(31,.i .i64 (Zh9 x).length),(32,.i .i64 i)],
  [(.loc 2,⟨1,.str,4,[[.sl (Zi1 t.code) .an,.sl (ints t.outs) .an,.i .i64 t.dim,.i .i64 t.par]]⟩),(.loc 5,⟨2,.str,6,[Znn x]⟩)],4⟩
end
section
variable{T:Tbl}[Zy T][Zn T][Zs T][Zw T][Zq T][Zk T][Ze T][Zf T][Zr T][Zaa T][Zbq T]
structure Small (t:Tp):Prop where
 code:t.code.length≤4294967296
 outs:t.outs.length≤4294967296
 ns:∀i∈t.code,fsz i.n≤10000
 d1:-9223372036854775808≤t.dim
 d2:t.dim<9223372036854775808
def bxT(t:Tp):Box:=⟨1,.str,4,[[.sl (Zi1 t.code) .an,.sl (ints t.outs) .an,.i .i64 t.dim,.i .i64 t.par]]⟩
def Zst(t:Tp)(i:Nat):St:=⟨[(1,.ptr (.loc 1) 1 4 0 0),(11,.i .i64 t.code.length),(12,.i .i64 i)],[(.loc 1,bxT t)],3⟩
def Zsu(t:Tp)(i:Nat):St:=⟨[(1,.ptr (.loc 1) 1 4 0 0),(22,.sl (ints t.outs) .an),(23,.i .i64 t.outs.length),(24,.i .i64 i)],[(.loc 1,bxT t)],3⟩
end
def Zny(n:Int):Int:=if n<0 then 0 else if 4096<n then 4096 else n
abbrev bxG(g:Nat)(s p L:Int):Box:=⟨g,.str,3,[[.i .i64 s,.i .i64 p,.i .i64 L]]⟩
def Zmo(s:Int):Int:=IntKind.wrap .i64 (s+1)
def Zmp(p:Int)(x:Fz):Int:=if p<(Zeg x:Int) then (Zeg x:Int) else p
section
variable{T:Tbl}[Zy T][Zn T][Zs T][Zw T][Zq T][Zk T][Ze T][Zf T][Zr T][Zaa T][Zae T][Zbj T][Zbq T][Zay T][Zb1 T]
theorem zpo(x:Fz)(hx:fsz x≤10000):Za T 223 [efz x]=some (.i .i64 (Zeg x)):=by
 have h1:=zfy x;have h2:=zfz x;have c1:=zf5 (T:=T) x.2.1 (by omega);have c2:=zf5 (T:=T) x.2.2 (by omega);have b1:=zf6 (x:=val x.2.1) (k:=10000) (Yc (zad x.2.1) (by omega));have b2:=zf6 (x:=val x.2.2) (k:=10000) (Yc (zad x.2.2) (by omega));have w:IntKind.wrap .i64 ((Z5 (val x.2.1):Int)+(Z5 (val x.2.2):Int))=((Zeg x:Nat):Int):=by
  have e:((Zeg x:Nat):Int)=(Z5 (val x.2.1):Int)+(Z5 (val x.2.2):Int):=by unfold Zeg;omega
  rw[e];exact zac _ (by omega)
 rw[zab Zae.h223 rfl,b223];generalize Zeg x=S at *
 generalize Z5 (val x.2.1)=B1 at *
 generalize Z5 (val x.2.2)=B2 at *
 simp -implicitDefEqProofs[c1,c2,w]
def Zqu(l:List Fz)(i:Nat):St:=⟨[(3,.bs (.loc 3) 1 3 0 i),(6,.sl (Zc l) .an),(7,.i .i64 l.length),(8,.i .i64 i)],[(.loc 3,⟨1,.own,3,Zc (nrm (l.take i))⟩)],3⟩
structure PoS (x:PoF) (B:Nat):Prop where
 t:fsz x.t≤B
 y:∀u∈x.y,fsz u≤B
 p:∀u∈x.p,fsz u≤B
 yl:x.y.length≤1000
 pl:x.p.length≤1000
end
abbrev mD:AV:=.agg [.dead]
theorem zoi{n b:Nat}(h:Z5 n≤b):(ofN n).length≤b/32+1:=by
 refine zae ?_;unfold Z5 at h;split at h
 ·grind
 ·rename_i h0;have h1:n<2^(n.log2+1):=(Yc7 h0).1 (Yx _);have h3:(4294967296:Nat)^(b/32+1)=2^(32*(b/32+1)):=by rw[Yc8]
  have h2:2^(n.log2+1)≤2^(32*(b/32+1)):=Yn (by decide) (by omega);omega
theorem z0b{q:Rat}{b:Nat}(h:Zlj q≤b):sz q≤b/32+1:=by
 unfold Zlj Zeg fz at h;rw[zag,zag]at h;exact Yd0.2 ⟨zoi (Yc (Nat.le_add_right _ _) h),zoi (Yc (Nat.le_add_left _ _) h)⟩
structure PvS (P:Po) (B:Nat):Prop where
 t:sz P.t≤B
 y:∀q∈P.y,sz q≤B
 p:∀q∈P.p,sz q≤B
def Zkm(lim:Nat)(P:Po):List Ins→List Rat→Int→Int→Int×Int
 | [],_,s,p=>(s,p)
 | i::r,D,s,p=>if (Zir P D i).2=false then (s,p) else if lim<Zlj (Zir P D i).1 then (Zmo s,Zmp p (fz (Zir P D i).1)) else Zkm lim P r (D++[(Zir P D i).1]) (Zmo s) (Zmp p (fz (Zir P D i).1))
abbrev bxM:Box:=⟨3,.str,1,[[.ptr (.bor 0) 0 3 0 0]]⟩
abbrev bxP(g:Nat)(x:PoF):Box:=⟨g,.str,5,[[.b x.t.1,.sl (Zb x.t.2.1) .an,.sl (Zb x.t.2.2) .an,.sl (Zc x.y) .an,.sl (Zc x.p) .an]]⟩
abbrev bxF(g:Nat)(a b c d:Int):Box:=⟨g,.str,4,[[.i .i64 a,.i .i64 b,.i .i64 c,.i .i64 d]]⟩
def Zp9(Q:PoF)(L:Int)(code:List Ins)(i:Nat)(D:List Fz)(s p:Int)(kd:Kind):St:=
 ⟨[(3,.ptr (.loc 3) 3 1 0 0),(5,.ptr (.loc 5) 4 5 0 0),(7,.ptr (.loc 7) 5 4 0 0),(8,.bs (.loc 8) 6 3 0 i),(34,.sl (Zi1 code) .an),(35,.i .i64 code.length),(36,.i .i64 i)],
  [(.bor 0,bxG 0 s p L),(.loc 3,bxM),(.loc 5,bxP 4 Q),(.loc 7,bxF 5 0 0 0 0),(.loc 8,⟨6,kd,3,Zc D⟩)],8⟩
def Zoi(n:Nat)(D:List Fz)(s p L:Int)(kd:Kind):Ex×St:=(.n,⟨[(7,.ptr (.loc 7) 3 4 0 0),(8,.bs (.loc 8) 4 3 0 n)],[(.bor 0,bxG 0 s p L),(.loc 7,bxF 3 0 0 0 0),(.loc 8,⟨4,kd,3,Zc D⟩)],6⟩)
def Zoj(kind at_ s p L:Int):Ex×St:=(.r,⟨[(6,.sl [] .an),(7,.ptr (.loc 7) 3 4 0 0)],[(.bor 0,bxG 0 s p L),(.loc 7,bxF 3 kind 0 0 at_)],5⟩)
section
variable{T:Tbl}[Zy T][Zn T][Zs T][Zw T][Zq T][Zk T][Ze T][Zf T][Zr T][Zaa T][Zae T][Zbj T][Zbq T][Zay T][Zb1 T][Zdg T][Zdf T]
def kdE(kd:Kind)(l:List Ins):Kind:=if l=[] then kd else .sh
def Zok(lim:Nat)(P:Po)(code l:List Ins)(D:List Rat)(s p:Int)(kd:Kind):Ex×St:=
 if (Zjm lim P l D).2.1=0 then Zoi code.length (fzs (Zjm lim P l D).1) (Zkm lim P l D s p).1 (Zkm lim P l D s p).2 lim (kdE kd l)
 else Zoj (Zjm lim P l D).2.1 (Zjm lim P l D).2.2 (Zkm lim P l D s p).1 (Zkm lim P l D s p).2 lim
end
def Zol(t:Tp)(y p:Nat):Bool:=okT t&&decide ((y:Int)=t.dim)&&decide ((p:Int)=t.par)
def Zkn(lim:Nat)(t:Tp)(P:Po):List Rat×Nat×Nat:=if Zol t P.y.length P.p.length=true then Zjm lim P t.code [] else ([],2,0)
def Zm2(t:Tp)(D:List Rat):List Rat:=t.outs.map (gI D)
def Zl4(lim:Nat)(t:Tp)(P:Po):List Rat×Nat×Nat:=if (Zkn lim t P).2.1=0 then (Zm2 t (Zkn lim t P).1,0,0) else ([],(Zkn lim t P).2)
structure TpS (t:Tp):Prop where
 small:Small t
 ns:∀i∈t.code,fsz i.n≤1000
abbrev Zr8(k s g a:Int):AV:=.agg [.i .i64 k,.i .i64 s,.i .i64 g,.i .i64 a]
section
variable{T:Tbl}[Zy T][Zn T][Zs T][Zw T][Zq T][Zk T][Ze T][Zf T][Zr T][Zaa T][Zae T][Zbj T][Zbq T][Zay T][Zb1 T][Zdg T][Zdf T]
def Zom(n:Int):Nat:=(Zny n).toNat
def Zr9(D:List Fz)(outs:List Int)(E:List Fz)(i:Nat)(kd:Kind):St:=
 ⟨[(1,.sl (Zc D) .an),(5,.bs (.loc 5) 1 3 0 i),(20,.sl (ints outs) .an),(21,.i .i64 outs.length),(22,.i .i64 i)],[(.loc 5,⟨1,.own,3,Zc (E.take i)⟩)],3⟩
end
structure Sm where
 nm:List UInt8
 c:List Fz
 a:List (List Fz)
 b:List Fz
 e:List Fz
abbrev esm(s:Sm):AV:=.agg [.s s.nm,.sl (Zc s.c) .an,.sl (Zp s.a) .an,.sl (Zc s.b) .an,.sl (Zc s.e) .an]
def Zb4:List (List Fz)→Nat→Bool
 | [],_=>true
 | r::l,i=>decide (r.length=i)&&Zb4 l (i+1)
def Zei(s:Sm):Bool:=decide (1≤s.b.length)&&decide (s.b.length≤8)&&decide (s.c.length=s.b.length)&&decide (s.a.length=s.b.length)&&(decide (s.e.length=s.b.length) || decide (s.e.length=0))&&Zb4 s.a 0
def Zdl(x:Fz):Bool:=Zct x&&decide (Zeg x≤190)
def Zdc(m:List (List Fz)):Bool:=m.all fun r=>r.all Zdl
def sumF(l:List Fz):Rat:=l.foldl (fun s x=>s+fv x) 0
def Zcz(a:List (List Fz))(c:List Fz):Bool:=(a.zip c).all fun p=>decide (sumF p.1=fv p.2)
def Zcs(s:Sm):Int:=
 if !Zbo 2 s.nm then 1 else if !Zei s then 2 else if !(Zdc s.a&&Zdc [s.b,s.c,s.e]) then 3
 else if !Zcz s.a s.c then 4 else if sumF s.b≠1 then 5 else if s.e≠[]∧sumF s.e≠1 then 6 else 0
def okS(s:Sm):Bool:=decide (Zcs s=0)
structure SmS (s:Sm):Prop where
 nm:s.nm.length≤1000
 cl:s.c.length≤1000
 al:s.a.length≤1000
 bl:s.b.length≤1000
 el:s.e.length≤1000
 c:∀x∈s.c,fsz x≤300
 a:∀r∈s.a,r.length≤1000∧∀x∈r,fsz x≤300
 b:∀x∈s.b,fsz x≤300
 e:∀x∈s.e,fsz x≤300
structure Pb where
 t:Tp
 s:Sm
 p:List Fz
 bits:Int
abbrev epb(p:Pb):AV:=.agg [.sl (Zi1 p.t.code) .an,.sl (ints p.t.outs) .an,.i .i64 p.t.dim,.i .i64 p.t.par,.s p.s.nm,.sl (Zc p.s.c) .an,.sl (Zp p.s.a) .an,.sl (Zc p.s.b) .an,.sl (Zc p.s.e) .an,.sl (Zc p.p) .an,.i .i64 p.bits]
def okP(p:Pb):Bool:=okT p.t&&okS p.s&&decide ((p.p.length:Int)=p.t.par)
abbrev Zj4:Ty:=.cons .str (.cons (.sl tyF) (.cons (.sl (.sl tyF)) (.cons (.sl tyF) (.cons (.sl tyF) .nil))))
abbrev Zqq:Ty:=.cons tyT (.cons Zj4 (.cons (.sl tyF) (.cons (.int .i64) .nil)))
abbrev Znx:Ty:=.cons tyF (.cons tyF (.cons tyF (.cons tyF (.cons (.sl tyF) (.cons .bool .nil)))))
abbrev Zqr:Ty:=.cons (.sl Znx) (.cons tyF (.cons (.sl tyF) .nil))
theorem zpg{cs:List AV}(h:Ok (.sl (.sl tyF)) cs):∃m:List (List Fz),wkR cs=[.sl (Zp m) .an]:=by
 obtain⟨els,f,rfl,_,_,he⟩:=h;obtain⟨m,hm⟩:=zks els he;exact⟨m,by simp[wkR,wkA,hm]⟩
theorem zvo{cs:List AV}(h:Ok Zj4 cs):∃s:Sm,wkR cs=[.s s.nm,.sl (Zc s.c) .an,.sl (Zp s.a) .an,.sl (Zc s.b) .an,.sl (Zc s.e) .an]:=by
 obtain⟨c1,c1',rfl,⟨nm,rfl,_⟩,c2,c2',rfl,h2,c3,c3',rfl,h3,c4,c4',rfl,h4,c5,c5',rfl,h5,rfl⟩:=h;obtain⟨c,e2⟩:=zcy h2;obtain⟨a,e3⟩:=zpg h3;obtain⟨b,e4⟩:=zcy h4;obtain⟨e,e5⟩:=zcy h5;refine⟨⟨nm,c,a,b,e⟩,?_⟩;simp only[zh6,e2,e3,e4,e5]
 rfl
theorem zzc{x:AV}(h:Zgs (true,Zj4) x):∃s:Sm,wkA x=esm s:=by
 obtain⟨cs,rfl,hc⟩:=h;obtain⟨s,e⟩:=zvo hc;exact⟨s,by rw[wkA,e]⟩
theorem zh5:∀(els:List (List AV)),(∀r∈els,Ok (.int .i64) r)→∃m:List Int,wkL els=ints m∧∀x∈m,-9223372036854775808≤x∧x<9223372036854775808
 | [],_=>⟨[],rfl,by simp⟩
 | r::els,h=>by
  obtain⟨m,hm,hb⟩:=zh5 els fun r hr=>h r (Ym _ hr);obtain⟨n,rfl,hn⟩:=h r Y2;refine⟨n::m,?_,fun x hx=>?_⟩
  ·simp only[wkL,hm]
   rfl
  ·rcases Yy.1 hx with rfl | hx
   ·exact z4z hn
   ·exact hb x hx
theorem zvp{x:AV}(h:Zgs (false,.sl (.int .i64)) x):∃l:List Int,wkA x=.sl (ints l) .an∧∀y∈l,-9223372036854775808≤y∧y<9223372036854775808:=by
 obtain⟨els,f,hx,_,_,he⟩:=(h:Ok (.sl (.int .i64)) [x]);cases hx;obtain⟨m,hm,hb⟩:=zh5 els he;exact⟨m,by simp[wkA,hm],hb⟩
end Go.Ab
section
namespace Go.Proofs.YtajopjoiaogapaaGreatDoor
open Go Go.Ab Go.ChangeShapes Go.WideShapes Go.ChangeAt Go.RowKit
theorem Tryz.own:ownKnob Tryz.prog.godebug=none:=by kernel_rfl
theorem Tryz.laidOut:laidOutB Tryz.prog=true:=by kernel_rfl
theorem Tryz.mixed:Tryz.prog.follows .mixedOrders=true:=by kernel_rfl
theorem Tryz.rowed:mapsRowed Tryz.prog=true:=by kernel_rfl
theorem Tryz.heard:Tryz.prog.stopsHeard=true:=by kernel_rfl
theorem Tryz.enters:Tryz.prog.mayEnter=true:=by kernel_rfl
theorem Tryz.keys:Tryz.prog.plainKeys=Rows.orderTreesRow.plainKeys:=by kernel_rfl
theorem Tryz.lifts:Tryz.prog.liftsFinal=Rows.orderTreesRow.lifted:=by kernel_rfl
theorem Tryz.makes:Tryz.prog.make=some Rows.orderTreesRow.make:=by kernel_rfl
def laid2:List (String×DataW Unit):=[("unicode/utf8.acceptRanges",Rows.laid_unicode_utf8_acceptRanges),("unicode/utf8.first",Rows.laid_unicode_utf8_first)]
noncomputable def laidWorld(os:Os):World:=
 let put (h:Array Obj) (g:Nat) (cs:Array Value):Array Obj:=h.modify g fun
  | .cells _ t frozen=>.cells cs t frozen
  | o=>o
 let w0:=World.holding Tryz.prog os ⟨#[],#[],[]⟩
 let h1:=put w0.heap 1 (Lib.firstTab.map fun z=>Value.int .u8 z).toArray
 let h2:=put h1 2 ((List.range 16).flatMap fun i=>[Value.int .u8 (Lib.accLo i),Value.int .u8 (Lib.accHi i)]).toArray
 { w0 with heap:=h2 }
theorem laid_met(os:Os)(args:Array Value):laidMetH Tryz.prog laid2 ((laidWorld os).forCall (fun _ _=>0) ⟨#[],args,[]⟩).memory:=
 laidMetH_of_parts3 (fuel:=8) (laidMet_of_run' 8 (by kernel_rfl) (by kernel_rfl)) (by kernel_rfl) (by kernel_rfl)
theorem laid_shaped(os:Os):(laidWorld os).Shaped Tryz.prog:=World.shaped_of_RefB (by kernel_rfl) (by kernel_rfl)
theorem tab_all:TOk Tryz.prog nu (fun u=>lTab.lookup u):=lTab_ok (str344_ok) (str194_ok) (str361_ok) (sign_ok) (str184_ok)
end Go.Proofs.YtajopjoiaogapaaGreatDoor
end
namespace Go.Ab
class Zlz (T:Tbl):Prop where
def Zz(c:UInt8):List UInt8→List (List UInt8)
 | []=>[[]]
 | b::l=>if b=c then []::Zz c l else match Zz c l with
  | []=>[[b]]
  | p::r=>(b::p)::r
theorem zcp(c:UInt8):∀l:List UInt8,(l.count c=0∧Lib.indexByte l c=-1∧Zz c l=[l]) ∨
  ∃m:Nat,m<l.length∧Lib.indexByte l c=m∧Zz c l=l.take m::Zz c (l.drop (m+1))
 | []=>.inl ⟨rfl,rfl,rfl⟩
 | b::l=>by
  by_cases h:b=c
  ·right;subst h;refine⟨0,by simp,?_,?_⟩
   ·simp[Lib.indexByte]
   ·simp[Zz]
  ·have hb:(b == c)=false:=by simpa using h
   rcases zcp c l with ⟨h1,h2,h3⟩ | ⟨m,h1,h2,h3⟩
   ·left;refine⟨by rw[List.count_cons_of_ne h,h1],by simp[Lib.indexByte,hb,h2],by simp[Zz,h,h3]⟩
   ·right;have hm:((m:Int) == -1)=false:=by simp
    refine⟨m+1,by simpa using h1,by simp[Lib.indexByte,hb,h2,hm],by simp[Zz,h,h3]⟩
theorem zbx(c:UInt8):∀l:List UInt8,(Zz c l).length=l.count c+1
 | []=>rfl
 | b::l=>by
  have ih:=zbx c l;by_cases h:b=c
  ·subst h;simp[Zz,ih]
  ·rw[List.count_cons_of_ne h,←ih];cases hs:Zz c l with
   | nil=>rw[hs]at ih;simp at ih
   | cons p r=>simp[Zz,h,hs]
theorem z0g{T:Tbl}[Zcn T](s:List UInt8)(c:UInt8):Za T 194 [.s s,.s [c]]=some (.i .i64 (Lib.indexByte s c)):=by rw[p194];rfl
theorem z0h{T:Tbl}[Zcn T](s:List UInt8)(c:UInt8):Za T 361 [.s s,.s [c]]=some (.i .i64 ((s.count c:Nat):Int)):=by rw[p361];rfl
section
variable{T:Tbl}[Zcn T][Zaj T]
theorem zlm(s:List UInt8)(c:UInt8):Za T 362 [.s s,.s [c]]=some (.i .i64 (Lib.indexByte s c)):=by
 have h:=z0g (T:=T) s c;rw[zab Zaj.h362 rfl,b362];simp -implicitDefEqProofs[h]
def Zlb(c:UInt8)(N:Nat)(ps:List (List UInt8))(s:List UInt8):St:=
 ⟨[(0,.s s),(1,.s [c]),(2,.i .i64 0),(3,.i .i64 ((N:Int)-1)),(9,.bs (.loc 31) 1 1 0 N),(10,.i .i64 ps.length)],[(.loc 31,⟨1,.own,1,Z4 ps++List.replicate (N-ps.length) [.s []]⟩)],3⟩
theorem zp9(c:UInt8)(all:List (List UInt8))(hN:all.length≤1000001):∀y:List (List UInt8)×List UInt8,(y.1++Zz c y.2=all∧y.2.length≤1000000) →
  Zv T 0 0 (.norm false [0,9,10]) l354_0 (Zlb c all.length y.1 y.2)=some (.n,⟨[(0,.s (all.getLastD [])),(9,.bs (.loc 31) 1 1 0 all.length),(10,.i .i64 ((all.length:Int)-1))],[(.loc 31,⟨1,.own,1,Z4 all.dropLast++[[.s []]]⟩)],3⟩):=by
 refine za1 (fun y:List (List UInt8)×List UInt8=>Zlb c all.length y.1 y.2) (fun y=>y.1++Zz c y.2=all∧y.2.length≤1000000) (fun y=>y.2.length) (fun _=>_) ?_
 rintro⟨ps,s⟩ ⟨hall,hs⟩
 simp only at hall hs;have hi:=zlm (T:=T) s c;have hlen:=congrArg List.length hall;rw[Y0,zbx]at hlen;unfold Zlb;rcases zcp c s with ⟨h1,h2,h3⟩ | ⟨m,h1,h2,h3⟩
 ·right;rw[h3]at hall;have e1:all.getLastD []=s:=by rw[←hall];simp
  have e2:all.dropLast=ps:=by rw[←hall];simp
  have e3:all.length-ps.length=1:=by omega
  have e4:¬ (ps.length:Int)<(all.length:Int)-1:=by omega
  have e5:(ps.length:Int)=(all.length:Int)-1:=by omega
  rw[e1,e2,e3,e5];have e6:List.replicate 1 [AV.s []]=[[AV.s []]]:=rfl;rw[e6];have hw:wkL (Z4 ps++[[AV.s []]])=Z4 ps++[[AV.s []]]:=by
   rw[zbt,Ycd,←zbt,ze5]
   rfl
  have hl2:(Z4 ps++[[AV.s []]]).length=all.length:=by simp;omega
  clear hall e1 e2 h3;generalize Z4 ps++[[AV.s []]]=B at *
  constructor<;>simp -implicitDefEqProofs[l354_0,hw,hl2]
 ·left;rw[h2]at hi;have hpos:0<(Zz c (s.drop (m+1))).length:=by rw[zbx];omega
  have hlen2:=congrArg List.length hall;rw[h3,Y0,Yk]at hlen2;refine⟨(ps++[s.take m],s.drop (m+1)),⟨by rw[←hall,h3];simp,by simp;omega⟩,by simp;omega,?_,rfl⟩;have q1:(ps.length:Int)<(all.length:Int)-1:=by omega
  have q2:¬ (m:Int)<0:=by omega
  have q3:IntKind.wrap .i64 ((m:Int)+0)=m:=by rw[Int.add_zero];exact zac _ (by omega)
  have q3':IntKind.wrap .i64 (m:Int)=m:=zac _ (by omega);have q4:IntKind.wrap .i64 ((m:Int)+1)=((m+1:Nat):Int):=zac _ (by omega);have q5:IntKind.wrap .i64 ((ps.length:Int)+1)=((ps.length+1:Nat):Int):=zac _ (by omega);have q6:(m:Int)≤s.length:=by omega
  have q7:((m+1:Nat):Int)≤s.length:=by omega
  have q7':m+1≤s.length:=by omega
  have q8:(m:Int)+1≤s.length:=by omega
  have e:(Z4 ps++List.replicate (all.length-ps.length) [AV.s []]).set ps.length [AV.s (s.take m)]=Z4 (ps++[s.take m])++List.replicate (all.length-(ps.length+1)) [AV.s []]:=by
   rw[Y5 _ _ (by simp),zcr,Ybw,show all.length-ps.length=(all.length-(ps.length+1))+1 by omega,Yav (n:=all.length-(ps.length+1)),Ybm,
    show Z4 (ps++[s.take m])=Z4 ps++[[AV.s (s.take m)]] by simp[Z4],Ybj]
   rfl
  have hl:(Z4 ps++List.replicate (all.length-ps.length) [AV.s []]).length=all.length:=by simp;omega
  have hk:wkL ((Z4 ps++List.replicate (all.length-ps.length) [AV.s []]).set ps.length [AV.s (s.take m)])=(Z4 ps++List.replicate (all.length-ps.length) [AV.s []]).set ps.length [AV.s (s.take m)]:=by
   rw[e,zbt,Ycd,←zbt,ze5];simp[wkR,wkA]
  have hg:(Z4 ps++List.replicate (all.length-ps.length) [AV.s []])[ps.length]? = some [AV.s []]:=by
   rw[Yi (by simp),zcr,Ybw,Yct,if_pos (by omega)]
  simp only[Y0,Yk,Yak];rw[←e];have hnl:ps.length<all.length:=by omega
  have hnl':(ps.length:Int)<all.length:=by omega
  clear e hall h3 hpos hlen hlen2;generalize Z4 ps++List.replicate (all.length-ps.length) [AV.s []]=B at *
  obtain⟨hb,hgE⟩:=Ye.1 hg;simp -implicitDefEqProofs[l354_0,hi,q1,q2,q3,q3',q4,q5,q6,q7,q7',q8,hl,hk,hg,hgE,hnl,hnl',h1]
theorem zt0(s:List UInt8)(c:UInt8)(hs:s.length≤1000000):Za T 346 [.s s,.s [c]]=some (.sl (Z4 (Zz c s)) .an):=by
 have hc:=z0h (T:=T) s c;have hcl:s.count c≤s.length:=List.count_le_length;have hlen:=zbx c s;have h:=zp9 (T:=T) c (Zz c s) (by omega) ([],s) ⟨by simp,hs⟩;unfold Zlb at h;simp only[Yak,Ydw,Y3]at h;have e0:Z4 []=[]:=rfl;rw[e0,Ybc,hlen]at h;have w1:IntKind.wrap .i64 ((s.count c:Int)+1)=((s.count c+1:Nat):Int):=zac _ (by omega);have w2:IntKind.wrap .i64 ((s.length:Int)+1)=((s.length+1:Nat):Int):=zac _ (by omega);have w3:IntKind.wrap .i64 (((s.count c+1:Nat):Int)-1)=((s.count c+1:Nat):Int)-1:=zac _ (by omega);have w4:IntKind.wrap .i64 (((s.count c+1:Nat):Int)-1+1)=((s.count c+1:Nat):Int):=by
  rw[Int.sub_add_cancel];exact zac _ (by omega)
 have mm:min ((s.count c+1:Nat):Int) ((s.length+1:Nat):Int)=((s.count c+1:Nat):Int):=by omega
 have hz:wkL (List.replicate (s.count c+1) [AV.s []])=List.replicate (s.count c+1) [AV.s []]:=by rw[zbt,List.map_replicate];rfl
 obtain⟨L,hL⟩:∃L,L=Zz c s:=⟨_,rfl⟩;rw[←hL]at h ⊢ hlen;have hne:L≠[]:=by intro e;rw[e]at hlen;simp at hlen
 have hset:(Z4 L.dropLast++[[AV.s []]]).set (s.count c) [AV.s (L.getLastD [])]=Z4 L:=by
  have h1:L.dropLast.length=s.count c:=by rw[Ycp];omega
  rw[Y5 _ _ (by simp;omega),zcr,h1,Ybw,Ybm];have h2:L=L.dropLast++[L.getLastD []]:=by
   rw[List.getLastD_eq_getLast?,List.getLast?_eq_some_getLast hne,Yb1,Yb5]
  conv=>rhs;rw[h2]
  simp[Z4]
 have hl2:(Z4 L.dropLast++[[AV.s []]]).length=s.count c+1:=by simp[Ycp];omega
 have hg:(Z4 L.dropLast++[[AV.s []]])[s.count c]? = some [AV.s []]:=by
  rw[Yi (by simp[Ycp];omega)];simp[Ycp,hlen]
 have hr:(Z4 L).length=s.count c+1:=by simp[hlen]
 have n1:¬ ((s.count c:Int)+1<0):=by omega
 have n2:(s.count c:Int)+1≤4294967296:=by omega
 have hwR:wkL (Z4 L)=Z4 L:=ze5 L;generalize s.count c=k at *
 generalize Z4 L.dropLast++[[AV.s []]]=B at *
 obtain⟨hb,hgE⟩:=Ye.1 hg;generalize L.getLastD []=last at *
 generalize Z4 L=R at *
 clear hL hne;have hk:(((k+1:Nat):Int)-1)=k:=by omega
 rw[hk]at h w3 w4;have tk:List.take (k+1) R=R:=Yb (by omega);have hnlt:¬ s.length<k:=by omega
 have nn:(0:Int)≤(k:Int)+1:=by omega
 have nt:((k:Int)+1).toNat=k+1:=by omega
 have nk:(k:Int)<(k:Int)+1:=by omega
 have nle:(k:Int)+1≤(R.length:Int):=by omega
 have nle2:(k:Int)≤(B.length:Int):=by omega
 have hg354:Za T 354 [.s s,.s [c],.i .i64 0,.i .i64 (-1)]=some (.sl R .an):=by
  rw[zab Zaj.h354 rfl,b354];simp -implicitDefEqProofs[hc,w1,w2,w3,w4,mm,hz,h,hset,hl2,hg,hgE,hr,n1,n2,tk,hnlt,nn,nt,nk,nle,nle2,hwR,hr]
 rw[zab Zaj.h346 rfl,b346];simp -implicitDefEqProofs[hg354,hwR]
end
abbrev flt(k a:Int):AV:=.agg [.i .i64 k,.i .i64 0,.i .i64 0,.i .i64 a]
def Zgy(c:UInt8):Bool:=c == 47 || c == 46
def Z2:List UInt8→Nat
 | []=>0
 | c::r=>if Zgy c then 0 else Z2 r+1
theorem zi1:∀s,Z2 s≤s.length
 | []=>Yg _
 | c::r=>by
  have:=zi1 r;simp only[Z2];split
  ·omega
  ·simp only[Yk];omega
theorem zn2:∀s:List UInt8,Lib.indexAny s [47,46]=if Z2 s<s.length then (Z2 s:Int) else -1
 | []=>rfl
 | c::r=>by
  have ih:=zn2 r;have hc:([47,46]:List UInt8).contains c=Zgy c:=by
   rw[Ybs];simp only[Yca,Yy,Yc1,or_false,Zgy,Ya2,beq_iff_eq]
  have hle:=zi1 r;simp only[Lib.indexAny,hc,Z2];by_cases hcut:Zgy c=true
  ·simp[hcut]
  ·simp only[hcut,if_false,Yk,Yde,Yaw];rw[ih];by_cases h:Z2 r<r.length
   ·have e:((Z2 r:Int) == -1)=false:=by simp
    simp[h,e]
   ·simp[h]
theorem zn3:∀(s:List UInt8),Z2 s<s.length→∃c,s[Z2 s]? = some c∧(c=47∨c=46)
 | [],h=>by simp at h
 | c::r,h=>by
  simp only[Z2]at h ⊢;cases hc:Zgy c with
  | true=>
   refine⟨c,by simp,?_⟩;simpa[Zgy]using hc
  | false=>
   rw[hc]at h;simp only[Yaw,if_false,Yk,Yde]at h ⊢;obtain⟨d,h1,h2⟩:=zn3 r h;exact⟨d,by simpa using h1,h2⟩
theorem zse{l:List UInt8}(h0:¬ 0≤Z0 l):l.length≤60∧(ofN (rd l)).length≤60:=by
 have h1:Zc7 0 l<0:=by
  unfold Z0 at h0;split at h0
  ·omega
  ·omega
 obtain⟨h2,h3⟩:=zf8 0 l (Yu _) h1;refine⟨by omega,zae (k:=60) ?_⟩;have h4:=zui h3;have h5:10^l.length≤10^60:=Yn (by decide) (by omega);exact Yl h4 (Yc h5 (by decide))
def Zfi(z:Int)(neg:Bool)(s:List UInt8)(c:UInt8)(at_:Nat):Rat×Int×Int:=
 let rest:=s.drop at_
 if 0≤Z0 rest then (0,1,Z0 rest+at_)
 else if c=47 then (if rd rest=0 then (0,2,at_) else (mkRat z (rd rest),0,0))
 else (mkRat (sg neg (z.natAbs*10^rest.length+rd rest)) (10^rest.length),0,0)
def Zak(s:List UInt8):Rat×Int×Int:=
 let first:=s.take (Z2 s)
 if 0≤Zb3 first then (0,1,Zb3 first+Zc3 first)
 else if Z2 s<s.length then Zfi (Za0 first) (s.head? = some 45) s (s.getD (Z2 s) 0) (Z2 s+1)
 else (mkRat (Za0 first) 1,0,0)
theorem zsf{n:Nat}(h:n≤60):(ofN (10^n)).length≤60:=by
 refine zae (k:=60) ?_;have h5:10^n≤10^60:=Yn (by decide) h;exact Ycw h5 (by decide)
theorem zsg(l:List UInt8):-1≤Zb3 l∧Zb3 l≤60∧0≤Zc3 l∧Zc3 l≤1:=by
 have key:∀l',-1≤Z0 l'∧Z0 l'≤60:=by
  intro l';unfold Z0;split
  ·omega
  ·exact⟨zm9 0 l',zhg 0 l' (by decide)⟩
 unfold Zb3 Zc3;refine⟨(key _).1,(key _).2,?_,?_⟩<;>split<;>omega
section
variable{T:Tbl}[Zn T][Zs T][Zw T][Zq T][Zk T][Zx T][Ze T][Zf T][Zr T][Za9 T][Zcn T][Zaj T][Zcl T]
theorem zi2(n:Bool)(a d:List UInt32)(ha:a.length≤10000)(hd:d.length≤10000) :
  Za T 204 [wh n a,.sl (Zb d) .an]=some (.tup (if val d=0 then [efz (fz 0),.b false] else [efz (fz (mkRat (wv n a) (val d))),.b true])):=by
 have c0:=zco (T:=T);have c1:=zi6 (T:=T) d (by omega);rw[zab Za9.h204 rfl,b204];by_cases h:val d=0
 ·rw[if_pos h];rw[decide_eq_true h]at c1;generalize fz 0=Z at *
  simp -implicitDefEqProofs[c0,c1]
 ·rw[if_neg h];rw[decide_eq_false h]at c1;have c2:=zmn (T:=T) n a d ha hd h;generalize fz (mkRat (wv n a) (val d))=R at *
  simp -implicitDefEqProofs[c1,c2]
theorem zpj(l:List UInt8):Za T 345 [.s l,.s [45]]=some (.b (l.head? = some 45)):=by
 have h1:Za T 123 [.s l,.s [45]]=some (.b (l.head? = some 45)):=by
  rw[zab Zx.h123 rfl,b123];cases l with
  | nil=>simp -implicitDefEqProofs
  | cons c r=>
   have h2:(1:Int)≤(r.length:Int)+1:=by omega
   by_cases hc:c=45<;>simp -implicitDefEqProofs[h2,hc]
 rw[zab Zaj.h345 rfl,b345];simp -implicitDefEqProofs[h1]
theorem zh7(s:List UInt8)(k:Nat)(hk:k≤s.length)(hs:s.length≤1000000):Za T 253 [.s s,.i .i64 k] =
  some (.tup (if 0≤Z0 (s.drop k) then [.sl [] .an,flt 1 (Z0 (s.drop k)+k)] else [.sl (Zb (ofN (rd (s.drop k)))) .an,flt 0 0])):=by
 have h1:=zg0 (T:=T) (s.drop k) (by rw[Yao];omega);have hk':(k:Int)≤s.length:=by omega
 rw[zab Zcl.h253 rfl,b253];by_cases h0:0≤Z0 (s.drop k)
 ·rw[if_pos h0]at h1 ⊢;have hw:Z0 (s.drop k)≤60:=by
   unfold Z0;split
   ·omega
   ·exact zhg 0 _ (by decide)
  have w1:IntKind.wrap .i64 (Z0 (s.drop k)+(k:Int))=Z0 (s.drop k)+(k:Int):=zac _ (by omega);generalize Z0 (s.drop k)=W at *
  simp -implicitDefEqProofs[hk,hk',h1,w1]
 ·rw[if_neg h0]at h1 ⊢;generalize ofN (rd (s.drop k))=R at *
  simp -implicitDefEqProofs[hk,hk',h1]
theorem zvs(n:Bool)(a:List UInt32)(s:List UInt8)(k:Nat)(ha:a.length≤10000)(hk:k≤s.length)(hs:s.length≤1000000):Za T 254 [wh n a,.s s,.i .i64 k] =
  some (.tup (if 0≤Z0 (s.drop k) then [efz (fz 0),flt 1 (Z0 (s.drop k)+k)] else if rd (s.drop k)=0 then [efz (fz 0),flt 2 k] else [efz (fz (mkRat (wv n a) (rd (s.drop k)))),flt 0 0])):=by
 have h1:=zh7 (T:=T) s k hk hs;have c0:=zco (T:=T);rw[zab Zcl.h254 rfl,b254];by_cases h0:0≤Z0 (s.drop k)
 ·rw[if_pos h0]at h1 ⊢;generalize fz 0=Z at *
  generalize Z0 (s.drop k)+(k:Int)=W at *
  simp -implicitDefEqProofs[h1,c0]
 ·rw[if_neg h0]at h1 ⊢;have hl:=(zse h0).2;have h2:=zi2 (T:=T) n a (ofN (rd (s.drop k))) ha (by omega);rw[zag]at h2;by_cases hz:rd (s.drop k)=0
  ·rw[if_pos hz]at h2 ⊢;clear hl h0;generalize fz 0=Z at *
   generalize ofN (rd (s.drop k))=R at *
   simp -implicitDefEqProofs[h1,h2]
  ·rw[if_neg hz]at h2 ⊢;clear hl h0;generalize fz (mkRat (wv n a) (rd (s.drop k)))=Z at *
   generalize ofN (rd (s.drop k))=R at *
   simp -implicitDefEqProofs[h1,h2]
theorem zpk(ht:∀n:Nat,n≤60→Za T 252 [.i .i64 n]=some (.sl (Zb (ofN (10^n))) .an))(n neg:Bool)(a:List UInt32)(s:List UInt8)(k:Nat)(ha:a.length≤1000)(hk:k≤s.length)(hs:s.length≤1000000) :
  Za T 255 [wh n a,.b neg,.s s,.i .i64 k] =
  some (.tup (if 0≤Z0 (s.drop k) then [efz (fz 0),flt 1 (Z0 (s.drop k)+k)] else [efz (fz (mkRat (sg neg (val a*10^(s.drop k).length+rd (s.drop k))) (10^(s.drop k).length))),flt 0 0])):=by
 have h1:=zh7 (T:=T) s k hk hs;have c0:=zco (T:=T);rw[zab Zcl.h255 rfl,b255];by_cases h0:0≤Z0 (s.drop k)
 ·rw[if_pos h0]at h1 ⊢;generalize fz 0=Z at *
  generalize Z0 (s.drop k)+(k:Int)=W at *
  simp -implicitDefEqProofs[h1,c0]
 ·rw[if_neg h0]at h1 ⊢;obtain⟨hl60,hl⟩:=zse h0;have h2:=ht (s.drop k).length hl60;have ht60:=zsf hl60;have h3:=zez (T:=T) a (ofN (10^(s.drop k).length)) (by omega) (by omega);rw[zag]at h3;have hm:(ofN (val a*10^(s.drop k).length)).length≤1060:=by
   have e1:=zad a;have e2:=zbz (x:=val a) (y:=10^(s.drop k).length) (L:=1000) (M:=60) (by omega) ht60;omega
  have h4:=zs2 (T:=T) [ofN (val a*10^(s.drop k).length),ofN (rd (s.drop k))] (by simp) (by
   intro x hx;simp only[Yy,Yc1,or_false]at hx;rcases hx with rfl | rfl<;>omega)
  have e1:lls [ofN (val a*10^(s.drop k).length),ofN (rd (s.drop k))]=[[.sl (Zb (ofN (val a*10^(s.drop k).length))) .an],[.sl (Zb (ofN (rd (s.drop k)))) .an]]:=rfl;have e2:Zdk [ofN (val a*10^(s.drop k).length),ofN (rd (s.drop k))]=val a*10^(s.drop k).length+rd (s.drop k):=by simp[Zdk,zag]
  rw[e1,e2]at h4;have hsum:(ofN (val a*10^(s.drop k).length+rd (s.drop k))).length≤10000:=by
   have e3:=zcg (x:=((val a*10^(s.drop k).length:Nat):Int)) (y:=((rd (s.drop k):Nat):Int)) (L:=1060) (by rw[Ybf];exact hm) (by rw[Ybf];omega);rw[←Ya3,Ybf]at e3;omega
  have h5:=zi2 (T:=T) neg (ofN (val a*10^(s.drop k).length+rd (s.drop k))) (ofN (10^(s.drop k).length)) hsum (by omega);have hne:¬ 10^(s.drop k).length=0:=Nat.ne_of_gt (Ybg (by decide));rw[zag,if_neg hne]at h5;unfold wv at h5;rw[zag]at h5;have hd:(s.drop k).length=s.length-k:=Yao;have w1:IntKind.wrap .i64 ((s.length:Int)-(k:Int))=(((s.drop k).length:Nat):Int):=by
   rw[hd];have:((s.length-k:Nat):Int)=(s.length:Int)-k:=by omega
   rw[this];exact zac _ (by omega)
  clear hl hl60 ht60 hm e1 e2 hsum hne h0 hd ht;generalize 10^(s.drop k).length=TN at *
  generalize (s.drop k).length=dl at *
  generalize fz (mkRat (sg neg (val a*TN+rd (s.drop k))) TN)=R at *
  generalize ofN (val a*TN+rd (s.drop k))=R1 at *
  generalize ofN (val a*TN)=R2 at *
  generalize ofN (rd (s.drop k))=R3 at *
  generalize ofN TN=R4 at *
  simp -implicitDefEqProofs[h1,h2,h3,h4,h5,w1]
theorem zvt(ht:∀n:Nat,n≤60→Za T 252 [.i .i64 n]=some (.sl (Zb (ofN (10^n))) .an))(s:List UInt8)(hs:s.length≤100000) :
  Za T 256 [.s s]=some (.tup [efz (fz (Zak s).1),flt (Zak s).2.1 (Zak s).2.2]):=by
 have hi:Za T 344 [.s s,.s [47,46]]=some (.i .i64 (if Z2 s<s.length then (Z2 s:Int) else -1)):=by
  rw[p344,←zn2];simp only[prim344];rw[if_pos (by omega)]
 have hr:=zqg (T:=T) (s.take (Z2 s)) (by rw[Yad];omega);have hle:=zi1 s;have c0:=zco (T:=T);rw[zab Zcl.h256 rfl,b256];by_cases hc:Z2 s<s.length
 ·rw[if_pos hc]at hi;have q1:(0:Int)≤(Z2 s:Int):=by omega
  have q2:(Z2 s:Int)≤s.length:=by omega
  have q3:¬ (Z2 s:Int)<0:=by omega
  by_cases h0:0≤Zb3 (s.take (Z2 s))
  ·have eR:Zak s=(0,1,Zb3 (s.take (Z2 s))+Zc3 (s.take (Z2 s))):=by simp only[Zak,if_pos h0]
   rw[eR];rw[if_pos h0]at hr;clear eR;simp only;generalize fz 0=Z at *
   generalize Zb3 (s.take (Z2 s))+Zc3 (s.take (Z2 s))=W at *
   simp -implicitDefEqProofs[hi,hr,c0,q1,q2,q3,hle]
  ·rw[if_neg h0]at hr;have hrl:=zjj h0;obtain⟨c,hg,hcc⟩:=zn3 s hc;obtain⟨_,hgE⟩:=Ye.1 hg;have hd:s.getD (Z2 s) 0=c:=by rw[Ya7,hg];rfl
   have eR:Zak s=Zfi (Za0 (s.take (Z2 s))) (decide (s.head? = some 45)) s c (Z2 s+1):=by simp only[Zak,if_neg h0,if_pos hc,hd]
   rw[eR];have w1:IntKind.wrap .i64 ((Z2 s:Int)+1)=((Z2 s+1:Nat):Int):=zac _ (by omega);have q4:(Z2 s:Int)<s.length:=by omega
   have px:=zpj (T:=T) s;rcases hcc with rfl | rfl
   ·have ho:=zvs (T:=T) (decide (Za0 (s.take (Z2 s))<0)) (ofN (Za0 (s.take (Z2 s))).natAbs) s (Z2 s+1) (by omega) (by omega) (by omega);rw[zji]at ho;have ho2:Za T 254 [ez (Za0 (s.take (Z2 s))),.s s,.i .i64 ((Z2 s+1:Nat):Int)]=some (.tup [efz (fz (Zfi (Za0 (s.take (Z2 s))) (decide (s.head? = some 45)) s 47 (Z2 s+1)).1),
      flt (Zfi (Za0 (s.take (Z2 s))) (decide (s.head? = some 45)) s 47 (Z2 s+1)).2.1 (Zfi (Za0 (s.take (Z2 s))) (decide (s.head? = some 45)) s 47 (Z2 s+1)).2.2]):=by
     rw[ho];simp only[Zfi,if_true];split
     ·rfl
     ·split<;>rfl
    clear ho eR hd;generalize Zfi (Za0 (s.take (Z2 s))) (decide (s.head? = some 45)) s 47 (Z2 s+1)=R at *
    generalize fz R.1=Z at *
    have ec:((Z2 s+1:Nat):Int)=(Z2 s:Int)+1:=by omega
    rw[ec]at ho2 w1;clear hrl h0 c0 ht;generalize Za0 (s.take (Z2 s))=RZ at *
    simp -implicitDefEqProofs[hi,hr,q1,q2,q3,q4,hle,hc,hg,hgE,w1,ho2]
   ·have ho:=zpk (T:=T) ht (decide (Za0 (s.take (Z2 s))<0)) (decide (s.head? = some 45)) (ofN (Za0 (s.take (Z2 s))).natAbs) s (Z2 s+1) (by omega) (by omega) (by omega);rw[zag]at ho;have ho2:Za T 255 [ez (Za0 (s.take (Z2 s))),.b (decide (s.head? = some 45)),.s s,.i .i64 ((Z2 s+1:Nat):Int)]=some (.tup [efz (fz (Zfi (Za0 (s.take (Z2 s))) (decide (s.head? = some 45)) s 46 (Z2 s+1)).1),
      flt (Zfi (Za0 (s.take (Z2 s))) (decide (s.head? = some 45)) s 46 (Z2 s+1)).2.1 (Zfi (Za0 (s.take (Z2 s))) (decide (s.head? = some 45)) s 46 (Z2 s+1)).2.2]):=by
     rw[ho];simp only[Zfi,show ¬ ((46:UInt8)=47) by decide,if_false];split<;>rfl
    clear ho eR hd;generalize Zfi (Za0 (s.take (Z2 s))) (decide (s.head? = some 45)) s 46 (Z2 s+1)=R at *
    generalize fz R.1=Z at *
    have ec:((Z2 s+1:Nat):Int)=(Z2 s:Int)+1:=by omega
    rw[ec]at ho2 w1;clear hrl h0 c0 ht;generalize Za0 (s.take (Z2 s))=RZ at *
    generalize decide (s.head? = some 45)=hd45 at *
    simp -implicitDefEqProofs[hi,hr,q1,q2,q3,q4,hle,hc,hg,hgE,w1,px,ho2]
 ·rw[if_neg hc]at hi;have hcl:Z2 s=s.length:=by omega
  have htk:s.take (Z2 s)=s:=by rw[hcl];exact Yc0
  rw[htk]at hr;by_cases h0:0≤Zb3 s
  ·have eR:Zak s=(0,1,Zb3 s+Zc3 s):=by simp only[Zak,htk,if_pos h0]
   rw[eR];rw[if_pos h0]at hr;clear eR;simp only;generalize fz 0=Z at *
   generalize Zb3 s+Zc3 s=W at *
   simp -implicitDefEqProofs[hi,hr,c0]
  ·have eR:Zak s=(mkRat (Za0 s) 1,0,0):=by simp only[Zak,htk,if_neg h0,if_neg hc]
   rw[eR];rw[if_neg h0]at hr;have hrl:=zjj h0;have h1:=zd4 (T:=T) 1 (by decide);have h2:=zi2 (T:=T) (decide (Za0 s<0)) (ofN (Za0 s).natAbs) (ofN 1) (by omega) (by rw[zfn];decide);rw[zag,if_neg (by decide),zji]at h2;clear hrl h0 c0 ht eR;simp only;generalize fz (mkRat (Za0 s) 1)=Z at *
   generalize Za0 s=RZ at *
   generalize ofN 1=O at *
   simp -implicitDefEqProofs[hi,hr,h1,h2]
end
def Za5:List (List UInt8)→Nat→List Rat→List Rat×Int×Int
 | [],_,acc=>(acc,0,0)
 | w::ws,k,acc=>if (Zak w).2.1=0 then Za5 ws (k+w.length+1) (acc++[(Zak w).1]) else ([],(Zak w).2.1,(Zak w).2.2+k)
def Zco(s:List UInt8):List Rat×Int×Int:=if s=[] then ([],0,0) else Za5 (Zz 44 s) 0 []
theorem zfe(w:List UInt8):((Zak w).2.1=0∧(Zak w).2.2=0)∨(((Zak w).2.1=1∨(Zak w).2.1=2)∧0≤(Zak w).2.2∧(Zak w).2.2≤w.length+62):=by
 have hle:=zi1 w;obtain⟨z1,z2,z3,z4⟩:=zsg (w.take (Z2 w));unfold Zak;simp only;split
 ·next h=>refine .inr ⟨.inl rfl,?_,?_⟩<;>simp only<;>omega
 ·split
  ·next h h2=>
   unfold Zfi;simp only;split
   ·next h3=>
    have:Z0 (w.drop (Z2 w+1))≤60:=by
     unfold Z0;split
     ·omega
     ·exact zhg 0 _ (by decide)
    refine .inr ⟨.inl rfl,?_,?_⟩<;>simp only<;>omega
   ·split
    ·split
     ·refine .inr ⟨.inr rfl,?_,?_⟩<;>simp only<;>omega
     ·left;simp
    ·left;simp
  ·left;simp
section
variable{T:Tbl}[Zy T][Zn T][Zs T][Zw T][Zq T][Zk T][Zx T][Zaz T][Ze T][Zf T][Zr T][Za9 T][Zcn T][Zaj T][Zbj T][Zcl T][Zab T][Zbn T][Zcg T]
theorem zvu(n:Nat)(hn:n≤60):Za T 252 [.i .i64 n]=some (.sl (Zb (ofN (10^n))) .an):=by
 have c1:=zd4 (T:=T) 10 (by decide);have hb:Z5 10=4:=by decide +kernel
 have c2:=zwo (T:=T) (ofN 10) n (by
  have:=zae (n:=10) (k:=1) (by decide);omega) (by rw[zag,hb];decide) (by rw[zag,hb];omega)
 rw[zag]at c2;rw[zab Zcl.h252 rfl,b252];generalize ofN (10^n)=R at *
 generalize ofN 10=N at *
 simp -implicitDefEqProofs[c1,c2]
theorem zkv(s:List UInt8)(hs:s.length≤100000):Za T 256 [.s s]=some (.tup [efz (fz (Zak s).1),flt (Zak s).2.1 (Zak s).2.2]):=
 zvt (T:=T) zvu s hs
def Zjg(ws:List (List UInt8))(y:Nat×Nat×List Rat):St:=
 ⟨[(3,.ptr (.loc 3) 1 4 0 0),(4,.bs (.loc 4) 2 3 0 y.2.2.length),(5,.i .i64 y.2.1),(14,.sl (Z4 ws) .an),(15,.i .i64 ws.length),(16,.i .i64 y.1)],
  [(.loc 3,⟨1,.str,4,[[.i .i64 0,.i .i64 0,.i .i64 0,.i .i64 0]]⟩),(.loc 4,⟨2,.own,3,Zc (fzs y.2.2)⟩)],4⟩
def Zie(r:List Rat×Int×Int):Option (Ex×St):=
 if r.2.1=0 then some (.n,⟨[(3,.ptr (.loc 3) 1 4 0 0),(4,.bs (.loc 4) 2 3 0 r.1.length)],[(.loc 3,⟨1,.str,4,[[.i .i64 0,.i .i64 0,.i .i64 0,.i .i64 0]]⟩),(.loc 4,⟨2,.own,3,Zc (fzs r.1)⟩)],4⟩)
 else some (.r,⟨[(2,.sl [] .an),(3,.ptr (.loc 3) 1 4 0 0)],[(.loc 3,⟨1,.str,4,[[.i .i64 r.2.1,.i .i64 0,.i .i64 0,.i .i64 r.2.2]]⟩)],3⟩)
theorem zzg(ws:List (List UInt8))(hl:ws.length≤1000000)(hw:∀w∈ws,w.length≤100000):∀y:Nat×Nat×List Rat,(y.1≤ws.length∧y.2.1≤y.1*100001∧y.2.2.length=y.1) →
  Zv T 0 0 (.norm false [3,4]) l275_0 (Zjg ws y)=Zie (Za5 (ws.drop y.1) y.2.1 y.2.2):=by
 refine za1 (Zjg ws) (fun y=>y.1≤ws.length∧y.2.1≤y.1*100001∧y.2.2.length=y.1) (fun y=>ws.length-y.1) (fun y=>Zie (Za5 (ws.drop y.1) y.2.1 y.2.2)) ?_
 rintro⟨i,k,acc⟩ ⟨hi,hk,ha⟩
 simp only at hi hk ha ⊢;by_cases h0:i<ws.length
 ·have hm:=Yp h0;have hwl:=hw _ hm;have hg:(Z4 ws)[i]? = some [.s (ws[i]'h0)]:=by simp[Z4,h0]
  have hil:i<(Z4 ws).length:=by simpa using h0
  have hil':(i:Int)<ws.length:=by omega
  obtain⟨_,hgE⟩:=Ye.1 hg;have hwR:=ze5 ws;have c:=zkv (T:=T) (ws[i]'h0) hwl;have hf:=zfe (ws[i]'h0);have hdr:ws.drop i=ws[i]'h0::ws.drop (i+1):=Yq h0;have hws:=zb8 h0 (by omega);generalize ws[i]'h0=w at *
  have hml:(fzs acc).length=i:=by rw[zar,ha]
  have hb4:i≤4294967295:=by omega
  rcases hf with ⟨f1,f2⟩ | ⟨f1,f2,f3⟩
  ·left;have hp:=zdl hml (fz (Zak w).1);have ef:fzs (acc++[(Zak w).1])=fzs acc++[fz (Zak w).1]:=by simp[fzs]
   have w1:IntKind.wrap .i64 ((w.length:Int)+1)=(w.length:Int)+1:=zac _ (by omega);have w2:IntKind.wrap .i64 ((k:Int)+((w.length:Int)+1))=((k+w.length+1:Nat):Int):=by
    have:((k+w.length+1:Nat):Int)=(k:Int)+((w.length:Int)+1):=by omega
    rw[this];exact zac _ (by omega)
   refine⟨(i+1,k+w.length+1,acc++[(Zak w).1]),⟨by omega,by simp only;omega,by simp[ha]⟩,by simp only;omega,?_,?_⟩
   ·unfold Zjg;simp only[Y0,Yk,Yak,ha];rw[ef];rw[f1,f2]at c;clear hdr ef hw f1 f2;generalize fz (Zak w).1=X at *
    generalize fzs acc=M at *
    generalize Z4 ws=R at *
    simp -implicitDefEqProofs[l275_0,h0,hil,hil',hg,hgE,c,hws,w1,w2,hml,hb4,hp,hwR]
   ·simp only;rw[hdr,Za5,if_pos f1]
  ·right;have hne:¬ (Zak w).2.1=0:=by omega
   have er:Za5 (ws.drop i) k acc=([],(Zak w).2.1,(Zak w).2.2+k):=by rw[hdr,Za5,if_neg hne]
   rw[er];unfold Zie Zjg;simp only[ha];rw[if_neg hne];have w1:IntKind.wrap .i64 ((Zak w).2.2+(k:Int))=(Zak w).2.2+(k:Int):=zac _ (by omega);clear hdr er hw;generalize fz (Zak w).1=X at *
   generalize (Zak w).2.1=K at *
   generalize (Zak w).2.2=A at *
   generalize fzs acc=M at *
   generalize Z4 ws=R at *
   rcases f1 with rfl | rfl<;>(constructor<;>simp -implicitDefEqProofs[l275_0,h0,hil,hil',hg,hgE,c,w1])
 ·right;have hi2:i=ws.length:=by omega
  subst hi2;rw[Yag,Za5];unfold Zie Zjg;simp only[if_true,ha];have hn:¬ ws.length<(Z4 ws).length:=by simp
  generalize fzs acc=M at *
  generalize Z4 ws=R at *
  generalize ws.length=n at *
  constructor<;>simp -implicitDefEqProofs[l275_0]
theorem zkw:∀(ws:List (List UInt8)) (k:Nat) (acc:List Rat),(Za5 ws k acc).2.1≠0→(Za5 ws k acc).1=[]
 | [],_,_,h=>by simp[Za5]at h
 | w::ws,k,acc,h=>by
  unfold Za5 at h ⊢;split at h
  ·next h1=>rw[if_pos h1];exact zkw ws _ _ h
  ·next h1=>rw[if_neg h1]
theorem zn4:∀(ws:List (List UInt8)) (k:Nat) (acc:List Rat),(Za5 ws k acc).2.1=0→(Za5 ws k acc).2.2=0
 | [],_,_,h=>rfl
 | w::ws,k,acc,h=>by
  unfold Za5 at h ⊢;split at h
  ·next h1=>rw[if_pos h1];exact zn4 ws _ _ h
  ·next h1=>exact absurd h h1
theorem zn5(s:List UInt8)(hs:s.length≤100000) :
  Za T 275 [.s s]=some (.tup [.sl (Zc (fzs (Zco s).1)) .an,flt (Zco s).2.1 (Zco s).2.2]):=by
 rw[zab Zcg.h275 rfl,b275];unfold Zco;by_cases h0:s=[]
 ·subst h0;have e0:fzs []=[]:=rfl;simp only[if_true,e0,zdz];simp -implicitDefEqProofs
 ·rw[if_neg h0];have hpl:∀(l:List UInt8) (w:List UInt8),w∈Zz 44 l→w.length≤l.length:=by
   intro l
   induction l with
   | nil=>intro w hw;simp[Zz]at hw;simp[hw]
   | cons b l ih=>
    intro w hw;unfold Zz at hw;split at hw
    ·rcases Yy.1 hw with rfl | hw
     ·simp
     ·have:=ih w hw;simp;omega
    ·cases hsp:Zz 44 l with
     | nil=>rw[hsp]at hw;simp at hw;simp[hw]
     | cons p r=>
      rw[hsp]at hw ih;rcases Yy.1 hw with rfl | hw
      ·have:=ih p Y2;simp;omega
      ·have:=ih w (Ym _ hw);simp;omega
  have hcl:(Zz 44 s).length≤s.length+1:=by
   rw[zbx];have:s.count 44≤s.length:=List.count_le_length;omega
  have c:=zt0 (T:=T) s 44 (by omega);have h:=zzg (T:=T) (Zz 44 s) (by omega) (fun w hw=>by have:=hpl s w hw;omega) (0,0,[]) ⟨Yu _,Yu _,rfl⟩;have hnil:=zkw (Zz 44 s) 0 [];have hat:=zn4 (Zz 44 s) 0 [];simp only[Yaz]at h;unfold Zjg at h;have e0:fzs []=[]:=rfl;simp only[e0,zdz,Y3,Yak]at h;generalize Za5 (Zz 44 s) 0 []=r at *
  unfold Zie at h;have hsl:=zcr (Zz 44 s);have hwR:=ze5 (Zz 44 s);generalize Z4 (Zz 44 s)=R at *
  generalize (Zz 44 s).length=n at *
  by_cases hr:r.2.1=0
  ·rw[if_pos hr]at h;have ha:=hat hr;rw[hr,ha];have hml:(fzs r.1).length=r.1.length:=zar r.1;generalize fzs r.1=M at *
   generalize r.1.length=m at *
   have ht:List.take m M=M:=Yb (by omega);simp -implicitDefEqProofs[h0,c,hsl,h,ht,hml,hwR]
  ·rw[if_neg hr]at h;rw[hnil hr];simp only[e0,zdz];simp -implicitDefEqProofs[h0,c,hsl,h,hwR]
end
def Dig(l:List UInt8):Prop:=∀c∈l,48≤c.toNat∧c.toNat≤57
def Zqp(l:List UInt8):Prop:=∀c∈l,Zgy c=false
def Zli(c:Fz)(r:List Fz):List UInt8:=Zlq (fv c)++[124]++List.intercalate [44] (Zji r)
def Zmf(s:Sm):List (List UInt8):=
 [s.nm]++(s.c.zip s.a).map (fun p=>Zli p.1 p.2)++[[98,32]++List.intercalate [44] (Zji s.b)]++(if s.e=[] then [] else [[101,32]++List.intercalate [44] (Zji s.e)])
def textS(s:Sm):List UInt8:=List.intercalate [10] (Zmf s)
structure Rd where
 rest:List UInt8
 at_:Nat
 over:Bool
def hdC(c:UInt8)(l:List UInt8):List UInt8:=l.takeWhile (· != c)
def tlC(c:UInt8)(l:List UInt8):List UInt8:=(l.dropWhile (· != c)).drop 1
def Zl(r:Rd):List UInt8:=if r.over then [] else hdC 10 r.rest
def Z3(r:Rd):Rd:=if r.over then r else ⟨tlC 10 r.rest,r.at_+(hdC 10 r.rest).length+(if r.rest.contains 10 then 1 else 0),!r.rest.contains 10⟩
def shF(f:Int×Int)(b:Int):Int×Int:=if f=(0,0) then f else (f.1,f.2+b)
def Zcb(l:List UInt8)(from_:Int):Rat×List Rat×Int×Int:=
 if (Zak (hdC 124 l)).2≠(0,0) then ((Zak (hdC 124 l)).1,[],shF (Zak (hdC 124 l)).2 from_)
 else ((Zak (hdC 124 l)).1,(Zco (tlC 124 l)).1,shF (Zco (tlC 124 l)).2 (from_+(hdC 124 l).length+1))
def Zd7(c:UInt8)(r:Rd):List Rat×Int×Int:=
 if (Zl r).take 2=[c,32] then ((Zco ((Zl r).drop 2)).1,shF (Zco ((Zl r).drop 2)).2 (r.at_+2)) else ([],1,r.at_)
class Zml (T:Tbl):Prop where
theorem ztv(l:List Fz)(x:Fz):sumF (l++[x])=sumF l+fv x:=by simp[sumF]
theorem zlk(l:List Fz){i:Nat}(h:i<l.length):sumF (l.take (i+1))=sumF (l.take i)+fv (l[i]'h):=by
 rw[Yah h,ztv]
theorem zjc{l:List Fz}{B:Nat}(hw:∀x∈l,fsz x≤B)(hB:1≤B):∀i,i≤l.length→sz (sumF (l.take i))≤i*(B+1)+1
 | 0,_=>by
  grind[sumF,zfo]
 | i+1,hi=>by
  have ih:=zjc hw hB i (by omega);rw[zlk l hi];have h1:=zls (sumF (l.take i)) (fv (l[i]'hi));have h3:=zee (hw _ (Yp hi)) hB
  grind
theorem ztw{x:Fz}(h:Zdl x=true):fsz x≤6:=by
 unfold Zdl at h;simp only[Yj,decide_eq_true_eq]at h;obtain⟨h1,h2⟩:=h;unfold Zct at h1;have e:x=fz (fv x):=by grind
 rw[e]at h2 ⊢;have:=z0b (q:=fv x) (b:=190) h2;rw[zav];omega
section
variable{T:Tbl}[Zy T][Zn T][Zs T][Zw T][Zq T][Zk T][Ze T][Zf T][Zr T][Zaa T][Zae T][Zbj T][Zbq T][Zay T][Zb1 T][Zdg T][Zdf T][Z1 T]
def Zkp(l:List Fz)(i:Nat):St:=⟨[(2,.ptr (.loc 2) 1 3 0 0),(3,.ptr (.loc 3) 2 3 0 0),(7,.sl (Zc l) .an),(8,.i .i64 l.length),(9,.i .i64 i)],
 [(.loc 2,⟨1,.str,3,[Zdz]⟩),(.loc 3,⟨2,.str,3,[Zbk (fz (sumF (l.take i)))]⟩)],4⟩
theorem zww(l:List Fz){B:Nat}(hw:∀x∈l,fsz x≤B)(hB:1≤B)(hS:l.length*(B+1)+1≤1000) :
  Zv T 0 0 (.norm false [2,3]) l562_0 (Zkp l 0)=some (.n,⟨[(2,.ptr (.loc 2) 1 3 0 0),(3,.ptr (.loc 3) 2 3 0 0)],[(.loc 2,⟨1,.str,3,[Zdz]⟩),(.loc 3,⟨2,.str,3,[Zbk (fz (sumF l))]⟩)],4⟩):=by
 refine zau (Zkp l) l.length _ (fun i hi=>?_) ?_
 ·have hlen:l.length*1≤1000:=Yc (Yan _ (show 1≤B+1 by omega)) (by omega);have hBB:B+1≤1000:=Yc (Nat.le_mul_of_pos_left _ (show 0<l.length by omega)) (by omega);have hws:=zb8 hi (by omega);have ha1:=hw _ (Yp hi);have s1:=zjc hw hB i (by omega);have s2:i*(B+1)≤l.length*(B+1):=Yr _ (by omega);have c2:=zn6 (T:=T) (fz (sumF (l.take i))) (l[i]'hi) (by rw[zav];omega) (by omega);rw[zby,←zlk l hi]at c2;unfold Zkp;simp -implicitDefEqProofs[l562_0,hi,hws,c2]
 ·unfold Zkp;constructor<;>simp -implicitDefEqProofs[l562_0]
theorem zfk(l:List Fz){B:Nat}(hw:∀x∈l,fsz x≤B)(hB:1≤B)(hS:l.length*(B+1)+1≤1000) :
  Za T 562 [.sl (Zc l) .an]=some (efz (fz (sumF l))):=by
 have h0:=zco (T:=T);have h:=zww (T:=T) l hw hB hS;unfold Zkp at h;have e0:sumF (l.take 0)=0:=rfl;rw[e0]at h;simp only[Y3]at h;rw[zab Z1.h562 rfl,b562];simp -implicitDefEqProofs[h0,h]
def Zg5(m:List (List Fz))(r:List Fz)(j i:Nat):St:=⟨[(7,.sl (Zp m) .an),(8,.i .i64 m.length),(9,.i .i64 j),(13,.sl (Zc r) .an),(14,.i .i64 r.length),(15,.i .i64 i)],[],2⟩
theorem ztx(m:List (List Fz))(r:List Fz)(j:Nat)(hl:r.length≤1000)(hw:∀x∈r,fsz x≤1000) :
  Zv T 0 2 (.norm false [7,8,9]) l560_0 (Zg5 m r j 0)=if (r.drop 0).all Zdl=true then some (.n,⟨[(7,.sl (Zp m) .an),(8,.i .i64 m.length),(9,.i .i64 j)],[],2⟩) else some (.r,⟨[(2,.b false)],[],2⟩):=by
 refine za3 (Zg5 m r j) r.length (fun i=>if (r.drop i).all Zdl=true then some (.n,⟨[(7,.sl (Zp m) .an),(8,.i .i64 m.length),(9,.i .i64 j)],[],2⟩) else some (.r,⟨[(2,.b false)],[],2⟩)) (fun i hi=>?_) ?_
 ·have hws:=zb8 hi (by omega);have hx:=hw _ (Yp hi);have c1:=zpn (T:=T) (r[i]'hi) (by omega);have c2:=zpo (T:=T) (r[i]'hi) (by omega);have key:(r.drop i).all Zdl=(Zdl (r[i]'hi)&&(r.drop (i+1)).all Zdl):=by rw[Yq hi,Ybx]
  have hn:Zdl (r[i]'hi)=(Zct (r[i]'hi)&&decide (Zeg (r[i]'hi)≤190)):=rfl;by_cases h1:Zct (r[i]'hi)=true
  ·by_cases h2:Zeg (r[i]'hi)≤190
   ·left;refine⟨?_,by grind⟩;have h3:¬ (190:Int)<Zeg (r[i]'hi):=by omega
    unfold Zg5;simp -implicitDefEqProofs[l560_0,hi,hws,c1,c2,h1,h3]
   ·right;have h3:(190:Int)<Zeg (r[i]'hi):=by omega
    rw[if_neg (by grind)];unfold Zg5;constructor<;>simp -implicitDefEqProofs[l560_0,hi,c1,c2,h1,h3]
  ·right;have h1':Zct (r[i]'hi)=false:=by grind
   rw[if_neg (by grind)];unfold Zg5;constructor<;>simp -implicitDefEqProofs[l560_0,hi,c1,h1']
 ·simp only[Yag,Ydq,if_true];unfold Zg5;constructor<;>simp -implicitDefEqProofs[l560_0]
def Zhp(m:List (List Fz))(i:Nat):St:=⟨[(7,.sl (Zp m) .an),(8,.i .i64 m.length),(9,.i .i64 i)],[],2⟩
theorem zty(m:List (List Fz))(hl:m.length≤1000)(hw:∀r∈m,r.length≤1000∧∀x∈r,fsz x≤1000) :
  Zv T 0 0 (.norm false []) l560_1 (Zhp m 0)=if Zdc (m.drop 0)=true then some (.n,⟨[],[],2⟩) else some (.r,⟨[(2,.b false)],[],2⟩):=by
 refine za3 (Zhp m) m.length (fun i=>if Zdc (m.drop i)=true then some (.n,⟨[],[],2⟩) else some (.r,⟨[(2,.b false)],[],2⟩)) (fun i hi=>?_) ?_
 ·have hws:=zb8 hi (by omega);obtain⟨h1,h2⟩:=hw _ (Yp hi);have h:=ztx (T:=T) m (m[i]'hi) i h1 h2;have key:Zdc (m.drop i)=((m[i]'hi).all Zdl&&Zdc (m.drop (i+1))):=by grind[Zdc,List.drop_eq_getElem_cons]
  unfold Zg5 at h;rw[Yaz]at h;simp only[Y3]at h;by_cases hr:(m[i]'hi).all Zdl=true
  ·left;rw[if_pos hr]at h;refine⟨?_,by grind⟩;unfold Zhp;simp -implicitDefEqProofs[l560_1,hi,hws,h]
  ·right;rw[if_neg hr]at h;rw[if_neg (by grind)];unfold Zhp;constructor<;>simp -implicitDefEqProofs[l560_1,hi,h]
 ·have e:Zdc []=true:=rfl;simp only[Yag,e,if_true];unfold Zhp;constructor<;>simp -implicitDefEqProofs[l560_1]
theorem zd5(m:List (List Fz))(hl:m.length≤1000)(hw:∀r∈m,r.length≤1000∧∀x∈r,fsz x≤1000):Za T 560 [.sl (Zp m) .an]=some (.b (Zdc m)):=by
 have h:=zty (T:=T) m hl hw;unfold Zhp at h;rw[Yaz]at h;simp only[Y3]at h;rw[zab Z1.h560 rfl,b560];cases hn:Zdc m with
 | true=>rw[hn]at h;simp at h;simp -implicitDefEqProofs[h]
 | false=>rw[hn]at h;simp at h;simp -implicitDefEqProofs[h]
def Zhq(a:List (List Fz))(i:Nat):St:=⟨[(43,.sl (Zp a) .an),(44,.i .i64 a.length),(45,.i .i64 i)],[],2⟩
theorem zp8(a:List (List Fz))(hl:a.length≤1000) :
  Zv T 0 0 (.norm false []) l559_0 (Zhq a 0)=if Zb4 (a.drop 0) 0=true then some (.n,⟨[],[],2⟩) else some (.r,⟨[(2,.b false)],[],2⟩):=by
 refine za3 (Zhq a) a.length (fun i=>if Zb4 (a.drop i) i=true then some (.n,⟨[],[],2⟩) else some (.r,⟨[(2,.b false)],[],2⟩)) (fun i hi=>?_) ?_
 ·have hws:=zb8 hi (by omega);have key:Zb4 (a.drop i) i=(decide ((a[i]'hi).length=i)&&Zb4 (a.drop (i+1)) (i+1)):=by rw[Yq hi,Zb4]
  by_cases hr:(a[i]'hi).length=i
  ·left;refine⟨?_,by grind⟩;unfold Zhq;simp -implicitDefEqProofs[l559_0,hi,hws,hr]
  ·right;have hr':¬ ((a[i]'hi).length:Int)=i:=by omega
   rw[if_neg (by grind)];unfold Zhq;constructor<;>simp -implicitDefEqProofs[l559_0,hi,hr']
 ·have e:Zb4 [] a.length=true:=rfl;simp only[Yag,e,if_true];unfold Zhq;constructor<;>simp -implicitDefEqProofs[l559_0]
theorem zll(s:Sm)(hs:SmS s):Za T 559 [esm s]=some (.b (Zei s)):=by
 have h:=zp8 (T:=T) s.a hs.al;unfold Zhq at h;rw[Yaz]at h;have l4:=hs.el;rw[zab Z1.h559 rfl,b559];unfold Zei;obtain⟨nm,c,a,b,e⟩:=s;by_cases p1:b.length<1
 ·have q2:b=[]:=Ycv.1 (by omega);subst q2;simp -implicitDefEqProofs[]
 have p1':1≤b.length:=by omega
 have m2:¬ (b.length:Int)<1:=by omega
 by_cases p2:8<b.length
 ·have q2:¬ b.length≤8:=by omega
  have m3:(8:Int)<b.length:=by omega
  simp -implicitDefEqProofs[p1',q2,m2,m3]
 have p2':b.length≤8:=by omega
 have m3:¬ (8:Int)<b.length:=by omega
 by_cases p3:c.length=b.length
 rotate_left
 ·have q3:¬ (c.length:Int)=b.length:=by omega
  simp -implicitDefEqProofs[p1',p2',m2,m3,p3,q3]
 by_cases p4:a.length=b.length
 rotate_left
 ·have q4:¬ (a.length:Int)=b.length:=by omega
  simp -implicitDefEqProofs[p1',p2',m2,m3,p3,p4,q4]
 rw[p4]at h;by_cases p5:e.length=b.length
 ·cases hsh:Zb4 a 0<;>rw[hsh]at h<;>simp at h<;>simp -implicitDefEqProofs[p1',p2',m2,m3,p3,p4,p5,h]
 have q5:¬ (e.length:Int)=b.length:=by omega
 by_cases p6:e.length=0
 ·have e0:e=[]:=Ycv.1 p6;have q7:¬ (0:Int)=b.length:=by omega
  have q8:¬ 0=b.length:=by omega
  subst e0;cases hsh:Zb4 a 0<;>rw[hsh]at h<;>simp at h<;>simp -implicitDefEqProofs[p1',p2',m2,m3,p3,p4,q7,q8,h]
 ·have q7:¬ e=[]:=fun h=>p6 (by grind);simp -implicitDefEqProofs[p1',p2',m2,m3,p3,p4,p5,q5,p6]
def bxS(s:Sm):Box:=⟨1,.str,5,[[.s s.nm,.sl (Zc s.c) .an,.sl (Zp s.a) .an,.sl (Zc s.b) .an,.sl (Zc s.e) .an]]⟩
def Zjk(s:Sm)(i:Nat):St:=⟨[(1,.ptr (.loc 1) 1 5 0 0),(6,.sl (Zp s.a) .an),(7,.i .i64 s.a.length),(8,.i .i64 i)],[(.loc 1,bxS s)],3⟩
theorem ztz(s:Sm)(hl:s.a.length≤8)(hc:s.c.length=s.a.length)(h1:∀r∈s.a,r.length≤8∧∀x∈r,fsz x≤6)(h2:∀x∈s.c,fsz x≤6) :
  Zv T 0 0 (.norm false []) l561_0 (Zjk s 0)=if Zcz (s.a.drop 0) (s.c.drop 0)=true then some (.n,⟨[],[],2⟩) else some (.r,⟨[(2,.b false)],[],2⟩):=by
 refine za3 (Zjk s) s.a.length (fun i=>if Zcz (s.a.drop i) (s.c.drop i)=true then some (.n,⟨[],[],2⟩) else some (.r,⟨[(2,.b false)],[],2⟩)) (fun i hi=>?_) ?_
 ·have hic:i<s.c.length:=by omega
  have hws:=zb8 hi (by omega);obtain⟨g1,g2⟩:=h1 _ (Yp hi);have g3:=h2 _ (Yp hic);have c1:=zfk (T:=T) (s.a[i]'hi) g2 (by decide) (by omega);have z1:=zjc g2 (by decide) (s.a[i]'hi).length (Yg _);rw[Yb (Yg _)]at z1;have c2:=zg1 (T:=T) (fz (sumF (s.a[i]'hi))) (s.c[i]'hic) (by rw[zav];omega) (by omega);rw[zby]at c2;have key:Zcz (s.a.drop i) (s.c.drop i)=(decide (sumF (s.a[i]'hi)=fv (s.c[i]'hic))&&Zcz (s.a.drop (i+1)) (s.c.drop (i+1))):=by
   grind[Zcz,List.drop_eq_getElem_cons,List.zip_cons_cons]
  have hic':(i:Int)<s.c.length:=by omega
  generalize fz (sumF (s.a[i]'hi))=z at *
  by_cases he:sumF (s.a[i]'hi)=fv (s.c[i]'hic)
  ·left;refine⟨?_,by grind⟩;unfold Zjk bxS;simp -implicitDefEqProofs[l561_0,hi,hws,c1,c2,he,hic,hic']
  ·right;rw[if_neg (by grind)];unfold Zjk bxS;constructor<;>simp -implicitDefEqProofs[l561_0,hi,c1,c2,he,hic,hic']
 ·have e:Zcz [] (s.c.drop s.a.length)=true:=rfl;simp only[Yag,e,if_true];unfold Zjk bxS;constructor<;>simp -implicitDefEqProofs[l561_0]
theorem zm4(s:Sm)(hl:s.a.length≤8)(hc:s.c.length=s.a.length)(h1:∀r∈s.a,r.length≤8∧∀x∈r,fsz x≤6)(h2:∀x∈s.c,fsz x≤6):Za T 561 [esm s]=some (.b (Zcz s.a s.c)):=by
 have h:=ztz (T:=T) s hl hc h1 h2;unfold Zjk bxS at h;rw[Yaz,Yaz]at h;rw[zab Z1.h561 rfl,b561];obtain⟨nm,c,a,b,e⟩:=s;cases hr:Zcz a c<;>rw[hr]at h<;>simp at h<;>simp -implicitDefEqProofs[h]
theorem zfl:∀(a:List (List Fz)) (i:Nat),Zb4 a i=true→∀r∈a,r.length≤i+a.length
 | [],_,_,r,hr=>by grind
 | x::a,i,h,r,hr=>by
  simp only[Zb4,Yj,decide_eq_true_eq]at h;rcases Yy.1 hr with rfl | hr
  ·omega
  ·have:=zfl a (i+1) h.2 r hr
   grind
theorem zif{s:Sm}(h:Zei s=true):1≤s.b.length∧s.b.length≤8∧s.c.length=s.b.length∧s.a.length=s.b.length∧(s.e.length=s.b.length∨s.e.length=0)∧Zb4 s.a 0=true:=by
 grind[Zei]
theorem zjd{m:List (List Fz)}(h:Zdc m=true):∀r∈m,∀x∈r,fsz x≤6:=by
 grind[Zdc,ztw]
theorem zoj{l:List Fz}(hl:l.length≤8)(hw:∀x∈l,fsz x≤6):sz (sumF l)≤57:=by
 have:=zjc hw (by decide) l.length (Yg _)
 grind
end
section
variable{T:Tbl}[Zy T][Zn T][Zs T][Zw T][Zq T][Zk T][Ze T][Zf T][Zr T][Zaa T][Zae T][Zbj T][Zbq T][Zay T][Zb1 T][Zdg T][Zdf T][Zab T][Zbe T][Z1 T]
theorem zfu(s:Sm)(hs:SmS s):Za T 551 [esm s]=some (.i .i64 (Zcs s)):=by
 have o1:=zf4 (T:=T);have c1:=zk2 (T:=T) 2 0 s.nm (Yc hs.nm (by decide));have c2:=zll (T:=T) s hs;have c3:=zd5 (T:=T) s.a hs.al (fun r hr=>⟨(hs.a r hr).1,fun x hx=>Yc ((hs.a r hr).2 x hx) (by decide)⟩);have c4:=zd5 (T:=T) [s.b,s.c,s.e] (by simp) (fun r hr=>by
  simp only[Yy,Yc1,or_false]at hr;rcases hr with rfl | rfl | rfl
  ·exact⟨hs.bl,fun x hx=>Yc (hs.b x hx) (by decide)⟩
  ·exact⟨hs.cl,fun x hx=>Yc (hs.c x hx) (by decide)⟩
  ·exact⟨hs.el,fun x hx=>Yc (hs.e x hx) (by decide)⟩)
 replace c4:Za T 560 [.sl [[.sl (Zc s.b) .an],[.sl (Zc s.c) .an],[.sl (Zc s.e) .an]] .an]=some (.b (Zdc [s.b,s.c,s.e])):=c4;have k5:=zm4 (T:=T) s;have k6:=fun(hl:s.b.length≤8) (h:∀x∈s.b,fsz x≤6)=>zfk (T:=T) s.b h (by decide) (by omega);have k7:=fun(hl:s.e.length≤8) (h:∀x∈s.e,fsz x≤6)=>zfk (T:=T) s.e h (by decide) (by omega);rw[zab Z1.h551 rfl,b551];unfold Zcs;cases g1:Zbo 2 s.nm with
 | false=>
  rw[g1]at c1;obtain⟨nm,c,a,b,e⟩:=s;generalize fz 1=z1 at *
  dsimp only at *
  simp -implicitDefEqProofs[o1,c1]
 | true=>
 rw[g1]at c1;cases g2:Zei s with
 | false=>
  rw[g2]at c2;obtain⟨nm,c,a,b,e⟩:=s;generalize fz 1=z1 at *
  dsimp only at *
  simp -implicitDefEqProofs[o1,c1,c2]
 | true=>
 rw[g2]at c2;obtain⟨s1,s2,s3,s4,s5,s6⟩:=zif g2;cases g3:Zdc s.a with
 | false=>
  rw[g3]at c3;obtain⟨nm,c,a,b,e⟩:=s;simp -implicitDefEqProofs[o1,c1,c2,c3]
 | true=>
 rw[g3]at c3;cases g4:Zdc [s.b,s.c,s.e]with
 | false=>
  rw[g4]at c4;obtain⟨nm,c,a,b,e⟩:=s;simp -implicitDefEqProofs[o1,c1,c2,c3,c4]
 | true=>
 rw[g4]at c4;have n1:=zjd g3;have n2:=zjd g4;have nb:=n2 s.b (by simp);have nc:=n2 s.c (by simp);have ne:=n2 s.e (by simp);have c5:=k5 (by omega) (by omega) (fun r hr=>⟨by have:=zfl _ _ s6 r hr;omega,n1 r hr⟩) nc;have c6:=k6 (by omega) nb;have c7:=k7 (by omega) ne;have z6:=zoj (l:=s.b) (by omega) nb;have z7:=zoj (l:=s.e) (by omega) ne;have d6:=zg1 (T:=T) (fz (sumF s.b)) (fz 1) (by rw[zav];omega) (by rw[zav,zij];omega);have d7:=zg1 (T:=T) (fz (sumF s.e)) (fz 1) (by rw[zav];omega) (by rw[zav,zij];omega);rw[zby,zby]at d6 d7;cases g5:Zcz s.a s.c with
 | false=>
  rw[g5]at c5;obtain⟨nm,c,a,b,e⟩:=s;simp -implicitDefEqProofs[o1,c1,c2,c3,c4,c5]
 | true=>
 rw[g5]at c5;obtain⟨nm,c,a,b,e⟩:=s;generalize fz (sumF b)=zb at *
 generalize fz (sumF e)=ze at *
 by_cases g6:sumF b=1
 ·by_cases g7:e=[]
  ·subst g7;replace c2:Za T 559 [.agg [.s nm,.sl (Zc c) .an,.sl (Zp a) .an,.sl (Zc b) .an,.sl [] .an]]=_:=c2;replace c4:Za T 560 [.sl [[.sl (Zc b) .an],[.sl (Zc c) .an],[.sl [] .an]] .an]=_:=c4;replace c5:Za T 561 [.agg [.s nm,.sl (Zc c) .an,.sl (Zp a) .an,.sl (Zc b) .an,.sl [] .an]]=_:=c5;simp -implicitDefEqProofs[o1,c1,c2,c3,c4,c5,c6,d6,g6]
  ·have l7:0<e.length:=Ybz.2 g7;by_cases g8:sumF e=1
   ·simp -implicitDefEqProofs[o1,c1,c2,c3,c4,c5,c6,d6,g6,c7,d7,g7,g8,l7]
   ·simp -implicitDefEqProofs[o1,c1,c2,c3,c4,c5,c6,d6,g6,c7,d7,g7,g8,l7]
 ·simp -implicitDefEqProofs[o1,c1,c2,c3,c4,c5,c6,d6,g6]
theorem zfv(s:Sm)(hs:SmS s):Za T 536 [esm s]=some (.b (okS s)):=by
 have h:=zfu (T:=T) s hs;rw[zab Z1.h536 rfl,b536];unfold okS;generalize Zcs s=w at *
 by_cases hw:w=0
 ·subst hw;simp -implicitDefEqProofs[h]
 ·simp -implicitDefEqProofs[h,hw]
end
structure PbS (q:Pb):Prop where
 t:TpS q.t
 s:SmS q.s
 p:∀x∈q.p,fsz x≤1000
 pl:q.p.length≤1000
def Zot(p:Pb)(t:Fz)(y:List Fz):List Rat×Nat×Nat:=Zl4 (Zom p.bits) p.t ⟨fv t,y.map fv,p.p.map fv⟩
def bxR(g:Nat)(r:Rd):Box:=⟨g,.str,3,[[.s r.rest,.i .i64 r.at_,.b r.over]]⟩
theorem zts(c:UInt8):∀l:List UInt8,decide (0≤Lib.indexByte l c)=l.contains c:=by
 intro l;have h:=Lib.indexByte;rcases zcp c l with ⟨h1,h2,_⟩ | ⟨m,h1,h2,h3⟩
 ·rw[h2];have:c∉l:=fun hc=>by have:=List.count_pos_iff.2 hc;omega
  simp[this]
 ·rw[h2];have:c∈l:=by
   have hc:l.count c≠0:=by
    intro h0;rcases zcp c l with ⟨_,k,_⟩ | ⟨k,_,_,h4⟩
    ·rw[k]at h2;omega
    ·have:=zbx c l;rw[h3,Yk,zbx,h0]at this;omega
   exact List.count_pos_iff.1 (by omega)
  simp[this]
section
variable{T:Tbl}[Zx T][Zab T][Zbe T][Zcn T][Zaj T][Zao T]
theorem zp6(l:List UInt8)(c:UInt8)(hl:l.length≤1000000):Za T 64 [.s l,.s [c,32]]=some (.tup [.s (if l.take 2=[c,32] then l.drop 2 else l),.b (decide (l.take 2=[c,32]))]):=by
 have h1:Za T 123 [.s l,.s [c,32]]=some (.b (decide (l.take 2=[c,32]))):=by
  rw[zab Zx.h123 rfl,b123]
  match l with
  | []=>simp -implicitDefEqProofs
  | [a]=>simp -implicitDefEqProofs
  | a::b::r=>
   have h2:(2:Int)≤(r.length:Int)+1+1:=by omega
   have h3:2≤r.length+1+1:=by omega
   by_cases ha:a=c
   ·by_cases hb:b=32
    ·simp -implicitDefEqProofs[h2,h3,ha,hb]
    ·simp -implicitDefEqProofs[h2,h3,ha,hb]
   ·simp -implicitDefEqProofs[h2,h3,ha]
 have h3:Za T 98 [.s l,.s [c,32]]=some (.tup [.s (if l.take 2=[c,32] then l.drop 2 else l),.b (decide (l.take 2=[c,32]))]):=by
  rw[zab Zx.h98 rfl,b98];by_cases h:l.take 2=[c,32]
  ·have hlen:2≤l.length:=by
    have:=congrArg List.length h;rw[Yad]at this;simp at this;omega
   have hlen':(2:Int)≤l.length:=by omega
   rw[decide_eq_true h]at h1;rw[if_pos h,decide_eq_true h];clear h;simp -implicitDefEqProofs[h1,hlen,hlen']
  ·rw[decide_eq_false h]at h1;rw[if_neg h,decide_eq_false h];clear h;simp -implicitDefEqProofs[h1]
 rw[zab Zx.h64 rfl,b64];generalize decide (l.take 2=[c,32])=B at *
 generalize (if l.take 2=[c,32] then l.drop 2 else l)=M at *
 simp -implicitDefEqProofs[h3]
theorem zm0(l:List UInt8)(c:UInt8):Za T 618 [.s l,.s [c]]=some (.b (l.contains c)):=by
 have h:=zlm (T:=T) l c;have e:=zts c l;rw[zab Zao.h618 rfl,b618,←e];generalize Lib.indexByte l c=n at *
 simp -implicitDefEqProofs[h]
theorem zfi(r:Rd)(hr:r.rest.length≤1000000)(ha:r.at_≤1000000) :
  Zcf T 614 [.ptr (.bor 0) 0 3 0 0] [(.bor 0,bxR 0 r)]=some (.tup [.s (Zl r),.i .i64 r.at_,.b (!r.over)],[(.bor 0,bxR 0 (Z3 r))]):=by
 have c:=zst (T:=T) r.rest hr;unfold bxR Zl Z3;obtain⟨l,a,o⟩:=r;dsimp only at *
 have e1:l.takeWhile (· != 10)=hdC 10 l:=rfl;have e2:(l.dropWhile (· != 10)).drop 1=tlC 10 l:=rfl;have hle:(hdC 10 l).length≤l.length:=(Yay _).length_le;rw[e1,e2]at c;rw[zbn Zao.h614 rfl,b614];cases o with
 | true=>simp -implicitDefEqProofs[]
 | false=>
  generalize hdC 10 l=H at *
  generalize tlC 10 l=Tl at *
  have w1:IntKind.wrap .i64 ((a:Int)+H.length)=((a+H.length:Nat):Int):=by rw[zac _ (by omega)];omega
  have w2:IntKind.wrap .i64 ((a:Int)+H.length+1)=(a:Int)+H.length+1:=zac _ (by omega);cases hc:l.contains 10 with
  | true=>
   rw[hc]at c;simp -implicitDefEqProofs[c,w1,w2]
  | false=>
   rw[hc]at c;simp -implicitDefEqProofs[c,w1,w2]
theorem z0e(r:Rd)(t:List UInt8)(n:Nat)(hn:n≤t.length)(ht:t.length≤1000000) :
  Zcf T 619 [.ptr (.bor 0) 0 3 0 0,.s t,.i .i64 n] [(.bor 0,bxR 0 r)]=some (.tup [],[(.bor 0,bxR 0 ⟨t.drop n,n,false⟩)]):=by
 unfold bxR;obtain⟨l,a,o⟩:=r;dsimp only at *
 have hn':(n:Int)≤t.length:=by omega
 rw[zbn Zao.h619 rfl,b619];simp -implicitDefEqProofs[hn,hn']
theorem zhb(k a b:Int)(h1:-1000000≤a∧a≤1000000)(h2:-2000000≤b∧b≤2000000):Za T 621 [flt k a,.i .i64 b]=some (flt (shF (k,a) b).1 (shF (k,a) b).2):=by
 have w:IntKind.wrap .i64 (a+b)=a+b:=zac _ (by omega);unfold shF;rw[zab Zao.h621 rfl,b621];by_cases hk:k=0
 ·by_cases ha:a=0
  ·subst hk ha;simp -implicitDefEqProofs[]
  ·simp -implicitDefEqProofs[hk,ha,w]
 ·simp -implicitDefEqProofs[hk,w]
end
theorem zfj(c:UInt8):∀l:List UInt8,((Zz c l).map fun w=>w.length+1).sum=l.length+1
 | []=>rfl
 | b::l=>by
  have ih:=zfj c l;by_cases h:b=c
  ·subst h;simp[Zz,ih];omega
  ·cases hs:Zz c l with
   | nil=>rw[hs]at ih;simp at ih
   | cons p r=>
    rw[hs]at ih;simp only[Yv,Yci]at ih;simp[Zz,h,hs];omega
theorem zhc:∀(ws:List (List UInt8)) (k:Nat) (acc:List Rat),((Za5 ws k acc).2.1=0∧(Za5 ws k acc).2.2=0) ∨
  (((Za5 ws k acc).2.1=1∨(Za5 ws k acc).2.1=2)∧0≤(Za5 ws k acc).2.2∧(Za5 ws k acc).2.2≤k+((ws.map fun w=>w.length+1).sum:Nat)+62)
 | [],_,_=>.inl ⟨rfl,rfl⟩
 | w::ws,k,acc=>by
  unfold Za5;by_cases h1:(Zak w).2.1=0
  ·rw[if_pos h1];rcases zhc ws (k+w.length+1) (acc++[(Zak w).1]) with h | ⟨h2,h3,h4⟩
   ·exact .inl h
   ·refine .inr ⟨h2,h3,?_⟩;simp only[Yv,Yci];omega
  ·rw[if_neg h1];rcases zfe w with h | ⟨h2,h3,h4⟩
   ·exact absurd h.1 h1
   ·refine .inr ⟨h2,?_,?_⟩
    ·show 0≤(Zak w).2.2+(k:Int);omega
    ·show (Zak w).2.2+(k:Int)≤_;simp only[Yv,Yci];omega
theorem zie(s:List UInt8):((Zco s).2.1=0∧(Zco s).2.2=0)∨(((Zco s).2.1=1∨(Zco s).2.1=2)∧0≤(Zco s).2.2∧(Zco s).2.2≤s.length+63):=by
 unfold Zco;by_cases h:s=[]
 ·rw[if_pos h];exact .inl ⟨rfl,rfl⟩
 ·rw[if_neg h];rcases zhc (Zz 44 s) 0 []with h | ⟨h2,h3,h4⟩
  ·exact .inl h
  ·refine .inr ⟨h2,h3,?_⟩;rw[zfj]at h4;omega
theorem zwt{f:Int×Int}(h:(f.1=0∧f.2=0)∨((f.1=1∨f.1=2)∧0≤f.2)):f=(0,0)↔f.1=0:=by
 obtain⟨a,b⟩:=f;simp only[Prod.mk.injEq];omega
section
variable{T:Tbl}[Zy T][Zn T][Zs T][Zw T][Zq T][Zk T][Zx T][Zaz T][Ze T][Zf T][Zr T][Za9 T][Zcn T][Zaj T][Zbj T][Zcl T][Zab T][Zbn T][Zcg T][Zbe T][Zao T]
theorem zlj(hcut:∀l:List UInt8,l.length≤1000000→Za T 184 [.s l,.s [124]]=some (.tup [.s (hdC 124 l),.s (tlC 124 l),.b (l.contains 124)]))
  (l:List UInt8) (n:Nat) (hl:l.length≤100000) (hn:n≤500000) :
  Za T 620 [.s l,.i .i64 n]=some (.tup [efz (fz (Zcb l n).1),.sl (Zc (fzs (Zcb l n).2.1)) .an,flt (Zcb l n).2.2.1 (Zcb l n).2.2.2]):=by
 have c:=hcut l (by omega);have h1:(hdC 124 l).length≤l.length:=(Yay _).length_le;have h2:(tlC 124 l).length≤l.length:=by
  unfold tlC;rw[Yao];have:=(Ydo (fun x:UInt8=>x != 124) (l:=l)).length_le;omega
 have c1:=zkv (T:=T) (hdC 124 l) (by omega);have c2:=zn5 (T:=T) (tlC 124 l) (by omega);have f1:=zfe (hdC 124 l);have f2:=zie (tlC 124 l);have w1:IntKind.wrap .i64 ((n:Int)+(hdC 124 l).length)=(n:Int)+(hdC 124 l).length:=zac _ (by omega);have w2:IntKind.wrap .i64 ((n:Int)+(hdC 124 l).length+1)=(n:Int)+(hdC 124 l).length+1:=zac _ (by omega);have s1:=zhb (T:=T) (Zak (hdC 124 l)).2.1 (Zak (hdC 124 l)).2.2 n (by omega) (by omega);have s2:=zhb (T:=T) (Zco (tlC 124 l)).2.1 (Zco (tlC 124 l)).2.2 ((n:Int)+(hdC 124 l).length+1) (by omega) (by omega);have z1:=zwt (f:=(Zak (hdC 124 l)).2) (by omega);unfold Zcb;rw[zab Zao.h620 rfl,b620];generalize hF:Zak (hdC 124 l)=F at *
 generalize Zco (tlC 124 l)=R at *
 obtain⟨q,k,a⟩:=F;obtain⟨L,k2,a2⟩:=R;dsimp only at *
 by_cases hk:k=0
 ·have ha:a=0:=by omega
  subst hk ha;rw[if_neg (by simp)];generalize shF (k2,a2) ((n:Int)+(hdC 124 l).length+1)=S at *
  generalize fz q=Z at *
  generalize fzs L=M at *
  generalize hdC 124 l=H at *
  generalize tlC 124 l=K at *
  obtain⟨g1,g2⟩:=S;obtain⟨y1,y2,y3⟩:=Z;dsimp only at *
  simp -implicitDefEqProofs[c,c1,c2,w1,w2,s2,zy1]
 ·rw[if_pos (fun h=>hk (congrArg Prod.fst h))];generalize shF (k,a) (n:Int)=S at *
  generalize fz q=Z at *
  generalize hdC 124 l=H at *
  generalize tlC 124 l=K at *
  have e0:fzs []=[]:=rfl;obtain⟨g1,g2⟩:=S;obtain⟨y1,y2,y3⟩:=Z;dsimp only at *
  rw[e0];simp -implicitDefEqProofs[c,c1,s1,hk]
theorem zhd(r:Rd)(c:UInt8)(hr:r.rest.length≤100000)(ha:r.at_≤500000) :
  Zcf T 616 [.ptr (.bor 0) 0 3 0 0,.s [c]] [(.bor 0,bxR 0 r)]=some (.tup [.sl (Zc (fzs (Zd7 c r).1)) .an,flt (Zd7 c r).2.1 (Zd7 c r).2.2],[(.bor 0,bxR 0 (Z3 r))]):=by
 have c1:=zfi (T:=T) r (by omega) (by omega);have hlen:(Zl r).length≤r.rest.length:=by
  unfold Zl;split
  ·simp
  ·exact(Yay _).length_le
 have c2:=zp6 (T:=T) (Zl r) c (by omega);have c3:=zn5 (T:=T) ((Zl r).drop 2) (by rw[Yao];omega);have f2:=zie ((Zl r).drop 2);rw[Yao]at f2;have w1:IntKind.wrap .i64 ((r.at_:Int)+1)=(r.at_:Int)+1:=zac _ (by omega);have w2:IntKind.wrap .i64 ((r.at_:Int)+1+1)=(r.at_:Int)+2:=by rw[zac _ (by omega)];omega
 have s2:=zhb (T:=T) (Zco ((Zl r).drop 2)).2.1 (Zco ((Zl r).drop 2)).2.2 ((r.at_:Int)+2) (by omega) (by omega);unfold Zd7;unfold bxR at *
 generalize Z3 r=r' at *
 rw[zbn Zao.h616 rfl,b616];by_cases h:(Zl r).take 2=[c,32]
 ·rw[if_pos h,decide_eq_true h]at c2;rw[if_pos h];clear f2 h;generalize (Zl r).drop 2=D at *
  generalize Zl r=L at *
  generalize Zco D=R at *
  obtain⟨M,k2,a2⟩:=R;dsimp only at *
  generalize shF (k2,a2) ((r.at_:Int)+2)=S at *
  obtain⟨g1,g2⟩:=S;generalize fzs M=N at *
  obtain⟨rest,a,o⟩:=r;obtain⟨rest',a',o'⟩:=r';dsimp only at *
  simp -implicitDefEqProofs[c1,c2,c3,w1,w2,s2]
 ·rw[if_neg h,decide_eq_false h]at c2;rw[if_neg h];have e0:fzs []=[]:=rfl;clear f2 h c3 s2;generalize Zl r=L at *
  obtain⟨rest,a,o⟩:=r;obtain⟨rest',a',o'⟩:=r';dsimp only at *
  rw[e0];simp -implicitDefEqProofs[c1,c2]
end
structure Sg where
 nm:List UInt8
 c:List Fz
 a:List (List Fz)
def hpG(r:Rd)(s:Sg):Heap:=[(.bor 0,bxR 0 r),(.bor 1,⟨1,.str,5,[[.s s.nm,.bs (.fld (.bor 1) 1) 5 3 0 s.c.length,.bs (.fld (.bor 1) 2) 6 1 0 s.a.length,.sl [] .nl,.sl [] .nl]]⟩),
 (.fld (.bor 1) 1,⟨5,.own,3,Zc s.c⟩),(.fld (.bor 1) 2,⟨6,.own,1,Zp s.a⟩)]
def stG(t:List UInt8)(r:Rd)(s:Sg):St:=⟨[(0,.ptr (.bor 0) 0 3 0 0),(1,.s t),(2,.ptr (.bor 1) 1 5 0 0),(6,.ptr (.loc 6) 7 4 0 0)],
 hpG r s++[(.loc 6,⟨7,.str,4,[[.i .i64 0,.i .i64 0,.i .i64 0,.i .i64 0]]⟩)],9⟩
def Zfy(r:Rd)(s:Sg)(k a:Int):Ex×St:=(.r,⟨[(6,.ptr (.loc 6) 7 4 0 0)],hpG r s++[(.loc 6,⟨7,.str,4,[[.i .i64 k,.i .i64 0,.i .i64 0,.i .i64 a]]⟩)],9⟩)
section
variable{T:Tbl}[Zy T][Zn T][Zs T][Zw T][Zq T][Zk T][Zx T][Zaz T][Ze T][Zf T][Zr T][Za9 T][Zcn T][Zaj T][Zbj T][Zcl T][Zab T][Zbn T][Zcg T][Zbe T][Zao T]
theorem z5e(t:List UInt8)(r:Rd)(s:Sg)(ho:r.over=true)(hr:r.rest.length≤1000000)(ha:r.at_≤1000000) :
  evX (orc T) T 2 l615_0 (stG t r s)=some (Zfy r s 0 0):=by
 have c1:=zfi (T:=T) r hr ha;have e1:Zl r=[]:=by unfold Zl;rw[ho];rfl
 have e2:Z3 r=r:=by unfold Z3;rw[ho];rfl
 rw[e1,e2,ho]at c1;unfold bxR at c1;unfold stG Zfy hpG bxR;obtain⟨rest,a,o⟩:=r;obtain⟨nm,C,A⟩:=s;dsimp only at *
 simp -implicitDefEqProofs[l615_0,c1]
theorem z5f(t:List UInt8)(r:Rd)(s:Sg)(ho:r.over=false)(hb:(Zl r).contains 124=false)(hr:r.rest.length≤1000000)(ha:r.at_≤t.length)(ht:t.length≤1000000) :
  evX (orc T) T 2 l615_0 (stG t r s)=some (Zfy ⟨t.drop r.at_,r.at_,false⟩ s 0 0):=by
 have c1:=zfi (T:=T) r hr (by omega);have c2:=zm0 (T:=T) (Zl r) 124;have c3:=z0e (T:=T) (Z3 r) t r.at_ ha ht;rw[ho]at c1;rw[hb]at c2;unfold bxR at c1 c3;unfold stG Zfy hpG bxR;generalize Z3 r=r' at *
 generalize Zl r=L at *
 obtain⟨rest,a,o⟩:=r;obtain⟨rest',a',o'⟩:=r';obtain⟨nm,C,A⟩:=s;dsimp only at *
 simp -implicitDefEqProofs[l615_0,c1,c2,c3]
theorem zadu(hcut:∀l:List UInt8,l.length≤1000000→Za T 184 [.s l,.s [124]]=some (.tup [.s (hdC 124 l),.s (tlC 124 l),.b (l.contains 124)]))
  (t:List UInt8) (r:Rd) (s:Sg) (ho:r.over=false) (hb:(Zl r).contains 124=true) (hr:r.rest.length≤100000) (ha:r.at_≤100000) (hf:(Zcb (Zl r) r.at_).2.2≠(0,0)) :
  evX (orc T) T 2 l615_0 (stG t r s)=some (Zfy (Z3 r) s (Zcb (Zl r) r.at_).2.2.1 (Zcb (Zl r) r.at_).2.2.2):=by
 have c1:=zfi (T:=T) r (by omega) (by omega);have c2:=zm0 (T:=T) (Zl r) 124;have hlen:(Zl r).length≤r.rest.length:=by
  unfold Zl;split
  ·simp
  ·exact(Yay _).length_le
 have c3:=zlj (T:=T) hcut (Zl r) r.at_ (by omega) (by omega);rw[ho]at c1;rw[hb]at c2;unfold bxR at c1;unfold stG Zfy hpG bxR;generalize Z3 r=r' at *
 generalize Zl r=L at *
 generalize Zcb L (r.at_:Int)=S at *
 obtain⟨q,M,k,b⟩:=S;generalize fz q=z at *
 generalize fzs M=N at *
 obtain⟨rest,a,o⟩:=r;obtain⟨rest',a',o'⟩:=r';obtain⟨nm,C,A⟩:=s;obtain⟨z1,z2,z3⟩:=z;dsimp only at *
 by_cases hk:k=0
 ·have hb0:¬ b=0:=fun h=>hf (by rw[hk,h]);simp -implicitDefEqProofs[l615_0,c1,c2,c3,hk,hb0]
 ·simp -implicitDefEqProofs[l615_0,c1,c2,c3,hk]
theorem z0f(hcut:∀l:List UInt8,l.length≤1000000→Za T 184 [.s l,.s [124]]=some (.tup [.s (hdC 124 l),.s (tlC 124 l),.b (l.contains 124)]))
  (t:List UInt8) (r:Rd) (s:Sg) (ho:r.over=false) (hb:(Zl r).contains 124=true) (hr:r.rest.length≤100000) (ha:r.at_≤100000) (hc:s.c.length≤1000000) (hA:s.a.length≤1000000) (hf:(Zcb (Zl r) r.at_).2.2=(0,0)) :
  evX (orc T) T 2 l615_0 (stG t r s)=some (.n,stG t (Z3 r) ⟨s.nm,s.c++[fz (Zcb (Zl r) r.at_).1],s.a++[fzs (Zcb (Zl r) r.at_).2.1]⟩):=by
 have c1:=zfi (T:=T) r (by omega) (by omega);have c2:=zm0 (T:=T) (Zl r) 124;have hlen:(Zl r).length≤r.rest.length:=by
  unfold Zl;split
  ·simp
  ·exact(Yay _).length_le
 have c3:=zlj (T:=T) hcut (Zl r) r.at_ (by omega) (by omega);rw[ho]at c1;rw[hb]at c2;unfold bxR at c1;unfold stG hpG bxR;generalize Z3 r=r' at *
 generalize Zl r=L at *
 generalize Zcb L (r.at_:Int)=S at *
 obtain⟨q,M,k,b⟩:=S;generalize fz q=z at *
 generalize fzs M=N at *
 obtain⟨rest,a,o⟩:=r;obtain⟨rest',a',o'⟩:=r';obtain⟨nm,C,A⟩:=s;dsimp only at *
 obtain⟨rfl,rfl⟩:=Prod.mk.inj hf;have p1:=zhj C z;have p2:Zp A++[[.sl (Zc N) .an]]=Zp (A++[N]):=by simp[Zp]
 have t1:List.take C.length C=C:=Yc0;have t2:List.take A.length A=A:=Yc0;have h1:C.length+1≤4294967296:=by omega
 have h2:A.length+1≤4294967296:=by omega
 obtain⟨z1,z2,z3⟩:=z;rw[Y0,Y0];simp -implicitDefEqProofs[l615_0,c1,c2,c3,p1,p2,t1,t2,h1,h2]
end
def Zap(t:List UInt8):Nat→Rd→Sg→Rd×Sg×Int×Int
 | 0,r,s=>(r,s,0,0)
 | n+1,r,s=>
  if r.over=true then (r,s,0,0)
  else if (Zl r).contains 124=false then (⟨t.drop r.at_,r.at_,false⟩,s,0,0)
  else if (Zcb (Zl r) r.at_).2.2≠(0,0) then (Z3 r,s,(Zcb (Zl r) r.at_).2.2)
  else Zap t n (Z3 r) ⟨s.nm,s.c++[fz (Zcb (Zl r) r.at_).1],s.a++[fzs (Zcb (Zl r) r.at_).2.1]⟩
def muR(r:Rd):Nat:=if r.over then 0 else r.rest.length+1
theorem zm1:∀(l:List UInt8) (c:UInt8) (_:l.contains c=true),(hdC c l).length+1+(tlC c l).length=l.length
 | [],c,h=>by simp at h
 | b::l,c,h=>by
  by_cases hb:b=c
  ·subst hb;simp[hdC,tlC];omega
  ·have h2:l.contains c=true:=by
    rw[Yca]at h ⊢;rcases Yy.1 h with h | h
    ·exact absurd h.symm hb
    ·exact h
   have ih:=zm1 l c h2;unfold hdC tlC at *
   simp only[List.takeWhile_cons,List.dropWhile_cons,bne_iff_ne,ne_eq,hb,not_false_eq_true,if_true,Yk];omega
theorem zwu(c:UInt8)(l:List UInt8):(hdC c l).length≤l.length:=(Yay _).length_le
structure RdOk (t:List UInt8) (r:Rd):Prop where
 a:r.at_≤t.length
 l:r.rest.length≤t.length
 s:r.over=false→r.at_+r.rest.length=t.length
theorem z5g(c:UInt8)(l:List UInt8):(tlC c l).length≤l.length:=by
 unfold tlC;rw[Yao];have:=(Ydo (fun x:UInt8=>x != c) (l:=l)).length_le;omega
theorem zm2{t:List UInt8}{r:Rd}(h:RdOk t r)(ho:r.over=false):RdOk t (Z3 r)∧muR (Z3 r)<muR r:=by
 have e:Z3 r=⟨tlC 10 r.rest,r.at_+(hdC 10 r.rest).length+(if r.rest.contains 10 then 1 else 0),!r.rest.contains 10⟩:=by unfold Z3;rw[ho];rfl
 have h1:=h.s ho;have h2:=zwu 10 r.rest;have h3:=z5g 10 r.rest;have h4:=h.l;rw[e];unfold muR;rw[ho];cases hc:r.rest.contains 10 with
 | true=>
  have h5:=zm1 r.rest 10 hc;refine⟨⟨?_,?_,fun _=>?_⟩,?_⟩
  ·simp;omega
  ·simp;omega
  ·simp;omega
  ·simp;omega
 | false=>
  refine⟨⟨?_,?_,fun h=>?_⟩,?_⟩
  ·simp;omega
  ·simp;omega
  ·cases h
  ·simp
section
variable{T:Tbl}[Zy T][Zn T][Zs T][Zw T][Zq T][Zk T][Zx T][Zaz T][Ze T][Zf T][Zr T][Za9 T][Zcn T][Zaj T][Zbj T][Zcl T][Zab T][Zbn T][Zcg T][Zbe T][Zao T]
theorem ztt(r:Rd)(s:Sg)(k a:Int):Ze5 (some (Zfy r s k a))=true∧Ze4 2 0 (.norm true [6]) (some (Zfy r s k a))=some (Zfy r s k a):=by
 unfold Zfy hpG bxR;constructor<;>simp -implicitDefEqProofs
theorem z5h(hcut:∀l:List UInt8,l.length≤1000000→Za T 184 [.s l,.s [124]]=some (.tup [.s (hdC 124 l),.s (tlC 124 l),.b (l.contains 124)]))
  (t:List UInt8) (ht:t.length≤100000) (n:Nat) (r:Rd) (s:Sg) (hr:RdOk t r) (hn:muR r<n) (hc:s.c.length+n≤1000000) (ha:s.a.length+n≤1000000) :
  Zv T 2 0 (.norm true [6]) l615_0 (stG t r s)=some (Zfy (Zap t n r s).1 (Zap t n r s).2.1 (Zap t n r s).2.2.1 (Zap t n r s).2.2.2):=by
 refine za1 (T:=T) (k:=2) (id:=0) (g2:=.norm true [6]) (c:=l615_0) (fun x:Nat×Rd×Sg=>stG t x.2.1 x.2.2)
  (fun x=>RdOk t x.2.1∧muR x.2.1<x.1∧x.2.2.c.length+x.1≤1000000∧x.2.2.a.length+x.1≤1000000) (fun x=>x.1)
  (fun x=>some (Zfy (Zap t x.1 x.2.1 x.2.2).1 (Zap t x.1 x.2.1 x.2.2).2.1 (Zap t x.1 x.2.1 x.2.2).2.2.1 (Zap t x.1 x.2.1 x.2.2).2.2.2)) ?_ (n,r,s) ⟨hr,hn,hc,ha⟩
 rintro⟨n,r,s⟩ ⟨hr,hn,hc,ha⟩
 dsimp only at *
 obtain⟨m,rfl⟩:∃m,n=m+1:=⟨n-1,by omega⟩;have b1:=hr.a;have b2:=hr.l;cases ho:r.over with
 | true=>
  right;have e:Zap t (m+1) r s=(r,s,0,0):=by rw[Zap,if_pos ho]
  rw[e,z5e (T:=T) t r s ho (by omega) (by omega)];exact ztt r s 0 0
 | false=>
 cases hb:(Zl r).contains 124 with
 | false=>
  right;have e:Zap t (m+1) r s=(⟨t.drop r.at_,r.at_,false⟩,s,0,0):=by rw[Zap,if_neg (by rw[ho];decide),if_pos hb]
  rw[e,z5f (T:=T) t r s ho hb (by omega) b1 (by omega)];exact ztt _ s 0 0
 | true=>
 by_cases hf:(Zcb (Zl r) r.at_).2.2=(0,0)
 ·left;have e:Zap t (m+1) r s=Zap t m (Z3 r) ⟨s.nm,s.c++[fz (Zcb (Zl r) r.at_).1],s.a++[fzs (Zcb (Zl r) r.at_).2.1]⟩:=by
   rw[Zap,if_neg (by rw[ho];decide),if_neg (by rw[hb];decide),if_neg (by simpa using hf)]
  obtain⟨k1,k2⟩:=zm2 hr ho;have e2:=z0f (T:=T) hcut t r s ho hb (by omega) (by omega) (by omega) (by omega) hf;refine⟨(m,Z3 r,⟨s.nm,s.c++[fz (Zcb (Zl r) r.at_).1],s.a++[fzs (Zcb (Zl r) r.at_).2.1]⟩),⟨k1,show muR (Z3 r)<m by omega,?_,?_⟩,by show m<m+1;omega,e2,by rw[e]⟩
  ·simp only[Y0,Yk,Yak];omega
  ·simp only[Y0,Yk,Yak];omega
 ·right;have e:Zap t (m+1) r s=(Z3 r,s,(Zcb (Zl r) r.at_).2.2):=by
   rw[Zap,if_neg (by rw[ho];decide),if_neg (by rw[hb];decide),if_pos hf]
  rw[e,zadu (T:=T) hcut t r s ho hb (by omega) (by omega) hf];exact ztt _ s _ _
def Zko(nm:List UInt8):Box:=⟨1,.str,5,[[.s nm,.sl [] .nl,.sl [] .nl,.sl [] .nl,.sl [] .nl]]⟩
theorem zp7(hcut:∀l:List UInt8,l.length≤1000000→Za T 184 [.s l,.s [124]]=some (.tup [.s (hdC 124 l),.s (tlC 124 l),.b (l.contains 124)]))
  (t nm:List UInt8) (ht:t.length≤100000) (n:Nat) (r:Rd) (hr:RdOk t r) (hn:muR r<n) (hc:n≤1000000) :
  Zcf T 615 [.ptr (.bor 0) 0 3 0 0,.s t,.ptr (.bor 1) 1 5 0 0] [(.bor 0,bxR 0 r),(.bor 1,Zko nm)] =
   some (flt (Zap t n r ⟨nm,[],[]⟩).2.2.1 (Zap t n r ⟨nm,[],[]⟩).2.2.2,hpG (Zap t n r ⟨nm,[],[]⟩).1 (Zap t n r ⟨nm,[],[]⟩).2.1):=by
 have hl:=z5h (T:=T) hcut t ht n r ⟨nm,[],[]⟩ hr hn (by simpa using hc) (by simpa using hc);generalize Zap t n r ⟨nm,[],[]⟩=S at *
 obtain⟨r',s',k,a⟩:=S;unfold stG Zfy hpG bxR at hl;unfold hpG bxR Zko;obtain⟨rest,at_,o⟩:=r;obtain⟨rest',at',o'⟩:=r';obtain⟨nm',C,A⟩:=s';dsimp only at *
 simp only[Yak,zdz,zop,Ybl,Ybc]at hl;rw[zbn Zao.h615 rfl,b615];simp -implicitDefEqProofs[hl]
end
end Go.Ab