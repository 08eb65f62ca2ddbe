/-
  A calculus of values, boxes and code, and what functions of the program compute, proved in it.
  Conditions: none beyond those that the theorems state. (Part 12.)
-/
import Derived.Test.YtpkknnhpfhpbdaaGreatPart11
import Derived.Test.YtpkknnhpfhpbdaaGreatProg
import Derived.KernelRfl
import Derived.ProofKit
import Derived.OpenShut
import Derived.Shelf.Strings.Builder1
import Derived.Shelf.Strings.Builder2
import Derived.Shelf.Strings.OnBuilder
import Derived.WalkKit
import Derived.Deep.LoopGhost
import Derived.Deep.DeepCutAuto
import Derived.Deep.DeepFit
import Derived.Deep.CutBlock
import Derived.Lib.OthersKept

set_option linter.unusedSectionVars false
set_option linter.unusedVariables false
set_option linter.unusedSimpArgs false
set_option linter.unnecessarySimpa false
set_option linter.defProp false
set_option maxRecDepth 100000

section
namespace Go.Proofs.YtpkknnhpfhpbdaaGreat
open Go Go.Ab
set_option maxRecDepth 100000
def nus:List (Nat×Nat):=[(23,84),(24,103),(25,178),(27,118),(36,143),(37,75),(38,127),(39,141),(40,206),(41,79),(43,68),(52,110),(54,114),(55,119),(56,128),(57,129),(58,134),(59,142),(60,86),(61,102),(62,166),(63,113),(70,115),(71,131),(72,80),(73,193),(84,146),(85,167),(86,120),(87,168),(88,169),(89,130),(90,195),(91,196),(93,198),(94,199),(95,147),(96,148),(97,111),(106,171),(115,200),(116,201),(117,170),(118,215),(119,216),(120,217),(121,218),(122,179),(168,132),(172,152),(173,89),(177,184),(178,185),(179,186),(180,172),(181,173),(182,174),(185,207),(186,208),(187,209),(188,210),(189,202),(190,203),(198,194),(199,164),(200,165),(201,126),(202,83),(203,74),(205,51),(207,61),(208,181),(209,46),(210,85),(211,108),(212,67),(213,247),(215,53),(216,250),(217,78),(218,249),(219,251),(220,248),(223,187),(224,144),(225,145),(226,109),(227,112),(228,70),(229,69),(230,71),(231,41),(232,92),(233,72),(235,175),(236,47),(237,177),(239,59),(240,140),(241,139),(242,205),(244,204),(245,133),(247,32),(248,25),(249,73),(267,160),(268,162),(269,50),(271,163),(276,100),(278,42),(279,44),(286,23),(287,26),(288,45),(289,13),(308,43),(309,14),(353,135),(356,211),(379,30),(382,54),(384,188),(389,157),(405,212),(406,81),(407,213),(409,189),(411,191),(413,161),(420,219),(421,76),(422,220),(426,214),(430,116),(431,221),(433,149),(434,150),(435,151),(437,180),(438,182),(439,183),(441,239),(442,240),(443,241),(444,242),(445,243),(446,244),(447,245),(448,246),(465,93),(475,176),(476,137),(494,3),(496,5),(497,6),(498,7),(499,8),(500,9),(501,10),(502,11),(503,12),(504,15),(505,16),(506,17),(507,18),(508,19),(509,20),(510,21),(513,27),(514,28),(515,31),(516,33),(517,34),(518,35),(519,36),(520,37),(521,38),(522,39),(523,40),(524,48),(525,49),(526,52),(527,55),(528,56),(529,57),(530,58),(532,63),(533,64),(534,65),(535,66),(536,77),(537,82),(538,87),(539,88),(540,90),(541,91),(542,94),(543,95),(544,96),(545,97),(546,98),(547,99),(548,101),(549,106),(550,107),(551,117),(552,121),(553,122),(554,123),(555,124),(556,125),(557,136),(558,138),(559,153),(560,154),(561,155),(562,156),(563,158),(564,159),(2043,68),(2071,131),(2092,197),(2097,111),(2106,171),(2263,192),(2266,190)]
def nu(u:Nat):FuncId:=(nus.lookup u).getD 0
def row1000001:AFx:=⟨282,0,meths1,.bad,none,false⟩
def Ze5(P:Program)(ν:Nat->FuncId)(τ:Nat->Nat)(u:Nat)(af:AFx):Prop:=
 match af.body.isPrim with
 | some f=>∀xs r,f xs=some r->Zb4 P (ν u) xs (·=r)
 | none=>if af.body.isBad=true then (∀m∈Zhc af,Zep P af.np m.1=some (ν m.2))/\(af.res.isEmpty=true->af.np=ν af.nt) else Zf4 P (ν u)=some (erF ν τ af)
def ok_pr{P:Program}{ν:Nat->FuncId}{τ:Nat->Nat}{u:Nat}{af:AFx}{f:List AV->Option AV}(h0:af.body.isPrim=some f)(h:∀xs r,f xs=some r->Zb4 P (ν u) xs (·=r)):Ze5 P ν τ u af:=by unfold Ze5;rw[h0];exact h
def ok_fn{P:Program}{ν:Nat->FuncId}{τ:Nat->Nat}{u:Nat}{af:AFx}(h0:af.body.isPrim=none)(h1:af.body.isBad=false)(h:Zf4 P (ν u)=some (erF ν τ af)):Ze5 P ν τ u af:=by unfold Ze5;rw[h0];simp only[h1];exact h
def ok_ty{P:Program}{ν:Nat->FuncId}{τ:Nat->Nat}{u:Nat}{af:AFx}(h0:af.body.isPrim=none)(h1:af.body.isBad=true)(h:((Zhc af).all fun m=>Zep P af.np m.1 == some (ν m.2))=true)(h2:(!af.res.isEmpty || af.np == ν af.nt)=true):Ze5 P ν τ u af:=by unfold Ze5;rw[h0];simp only[h1,if_true];exact⟨fun m hm=>eq_of_beq (List.all_eq_true.1 h m hm),fun he=>by rw[he]at h2;exact eq_of_beq (by simpa using h2)⟩
def ok_cons{P:Program}{ν:Nat->FuncId}{τ:Nat->Nat}{u:Nat}{af:AFx}{l:List (Nat×AFx)}(h:Ze5 P ν τ u af)(hl:∀p∈l,Ze5 P ν τ p.1 p.2) :
  ∀p∈(u,af)::l,Ze5 P ν τ p.1 p.2:=by
 intro p hp;rcases List.mem_cons.1 hp with rfl | hp
 ·exact h
 ·exact hl p hp
def ok_lookup{P:Program}{ν:Nat->FuncId}{l:List (Nat×AFx)}(hl:∀p∈l,Ze5 P ν (Zf fun u=>l.lookup u) p.1 p.2):TOk P ν (fun u=>l.lookup u):=fun _ _ h=>hl _ (zeo h)
def pT(i:Nat):List (Nat×AFx):=match i with
 | 0=>[(115,row115),(116,row116),(117,row117),(118,row118),(91,row91),(86,row86),(106,row106),(71,row71),(72,row72),(73,row73),(70,row70),(87,row87),(85,row85),(56,row56),(88,row88),(57,row57),(2106,row2106),(89,row89),(60,row60),(94,row94),(90,row90),(119,row119),(120,row120),(121,row121),(93,row93)]
 | 1=>[(2071,row2071),(2092,row2092),(62,row62),(55,row55),(38,row38),(40,row40),(23,row23),(25,row25),(27,row27),(37,row37),(41,row41),(36,row36),(198,row198),(199,row199),(200,row200),(201,row201),(202,row202),(203,row203),(205,row205),(207,row207),(209,row209),(210,row210),(211,row211),(212,row212),(213,row213)]
 | 2=>[(215,row215),(216,row216),(217,row217),(218,row218),(208,row208),(219,row219),(220,row220),(223,row223),(356,row356),(421,row421),(430,row430),(433,row433),(434,row434),(435,row435),(437,row437),(438,row438),(439,row439),(406,row406),(411,row411),(426,row426),(413,row413),(405,row405),(420,row420),(384,row384),(389,row389)]
 | 3=>[(407,row407),(409,row409),(422,row422),(431,row431),(441,row441),(442,row442),(443,row443),(444,row444),(445,row445),(446,row446),(447,row447),(448,row448),(267,row267),(269,row269),(271,row271),(2263,row2263),(2266,row2266),(268,row268),(185,row185),(186,row186),(177,row177),(188,row188),(179,row179),(178,row178),(172,row172)]
 | 4=>[(536,row536),(551,row551),(559,row559),(560,row560),(561,row561),(562,row562),(555,row555),(524,row524),(563,row563),(526,row526),(537,row537),(552,row552),(553,row553),(554,row554),(556,row556),(564,row564),(499,row499),(504,row504),(506,row506),(514,row514),(517,row517),(518,row518),(525,row525),(534,row534),(535,row535)]
 | 5=>[(550,row550),(513,row513),(532,row532),(533,row533),(549,row549),(519,row519),(496,row496),(497,row497),(515,row515),(516,row516),(500,row500),(507,row507),(527,row527),(498,row498),(503,row503),(510,row510),(43,row43),(84,row84),(52,row52),(54,row54),(58,row58),(59,row59),(61,row61),(122,row122),(95,row95)]
 | 6=>[(96,row96),(97,row97),(63,row63),(224,row224),(225,row225),(226,row226),(227,row227),(228,row228),(229,row229),(230,row230),(2097,row2097),(2043,row2043),(39,row39),(24,row24),(231,row231),(232,row232),(233,row233),(235,row235),(236,row236),(237,row237),(239,row239),(240,row240),(241,row241),(242,row242),(247,row247)]
 | 7=>[(353,row353),(276,row276),(278,row278),(279,row279),(286,row286),(248,row248),(249,row249),(287,row287),(288,row288),(289,row289),(308,row308),(309,row309),(379,row379),(382,row382),(245,row245),(244,row244),(465,row465),(475,row475),(476,row476),(544,row544),(547,row547),(558,row558),(189,row189),(190,row190),(181,row181)]
 | 8=>[(180,row180),(182,row182),(168,row168),(173,row173),(528,row528),(538,row538),(539,row539),(529,row529),(540,row540),(541,row541),(508,row508),(545,row545),(530,row530),(542,row542),(543,row543),(546,row546),(548,row548),(557,row557),(522,row522),(502,row502),(521,row521),(501,row501),(505,row505),(509,row509),(520,row520)]
 | 9=>[(523,row523)]
 | _=>[]
def Zsf:List (Nat×AFx):=[(1000001,row1000001),(187,row187),(494,row494)]
def lTab:List (Nat×AFx):=pT 0++pT 1++pT 2++pT 3++pT 4++pT 5++pT 6++pT 7++pT 8++pT 9++Zsf
def gTab:List (Nat×AFx):=lTab++[(92,row92),(263,row263),(266,row266)]
def tab:Tbl:=fun u=>gTab.lookup u
def Zej:Nat->Nat:=Zf fun u=>lTab.lookup u
def resl_1000001:((Zhc row1000001).all fun m=>Zep Tryz.prog row1000001.np m.1 == some (nu m.2))=true:=by kernel_rfl
noncomputable def sqL:Code->Code
 | .seq a _=>a
 | c=>c
noncomputable def sqR:Code->Code
 | .seq _ b=>b
 | c=>c
noncomputable def sxL:AX->AX
 | .seq a _=>a
 | c=>c
noncomputable def sxR:AX->AX
 | .seq _ b=>b
 | c=>c
def res_seq{P:Program}{nt:Nat}{a b:Code}{x y:AC}(h1:Zk P nt a=some x)(h2:Zk P nt b=some y):Zk P nt (.seq a b)=some (.seq x y):=by
 simp only[Zk,h1,h2,Option.bind_some,Option.map_some]
def res_fn{P:Program}{f:FuncId}{fn:Func}{c:Code}{a:AC}{rs:List RV}(h1:P.funcs[f]? = some fn)(h2:fn.body=some c)(h3:Zk P fn.ntmps c=some a)(h4:Zem P fn.results.toList=some rs)
  (h5:fn.params.size+fn.nfree<=fn.ntmps/\(fn.name == "runtime.NumGoroutine")=false):Zf4 P f=some ⟨fn.params.size+fn.nfree,fn.ntmps,rs,a⟩:=by
 simp only[Zf4,h1,h2,h3,h4,Option.bind_some,if_pos h5]
def is_494:(Tryz.prog.funcs[nu 494]?).isSome=true:=by kernel_rfl
noncomputable def Zc7:Func:=(Tryz.prog.funcs[nu 494]?).get is_494
def ib_494:Zc7.body.isSome=true:=by kernel_rfl
noncomputable def Zfh:Code:=Zc7.body.get ib_494
def p0_494:Zk Tryz.prog Zc7.ntmps (sqL Zfh)=some (er nu Zej (sxL b494)):=by kernel_rfl
def p1_494:Zk Tryz.prog Zc7.ntmps (sqL (sqR Zfh))=some (er nu Zej (sxL (sxR b494))):=by kernel_rfl
def p2_494:Zk Tryz.prog Zc7.ntmps (sqL (sqR (sqR Zfh)))=some (er nu Zej (sxL (sxR (sxR b494)))):=by kernel_rfl
def p3_494:Zk Tryz.prog Zc7.ntmps (sqR (sqR (sqR Zfh)))=some (er nu Zej (sxR (sxR (sxR b494)))):=by kernel_rfl
def e1_494:Zfh=.seq (sqL Zfh) (.seq (sqL (sqR Zfh)) (.seq (sqL (sqR (sqR Zfh))) (sqR (sqR (sqR Zfh))))):=by kernel_rfl
def e2_494:AC.seq (er nu Zej (sxL b494)) (.seq (er nu Zej (sxL (sxR b494))) (.seq (er nu Zej (sxL (sxR (sxR b494)))) (er nu Zej (sxR (sxR (sxR b494))))))=er nu Zej b494:=by kernel_rfl
def c_494:Zk Tryz.prog Zc7.ntmps Zfh=some (er nu Zej b494):=
 (congrArg (Zk Tryz.prog Zc7.ntmps) e1_494).trans ((res_seq p0_494 (res_seq p1_494 (res_seq p2_494 p3_494))).trans (congrArg some e2_494))
def r_494:Zem Tryz.prog Zc7.results.toList=some row494.res:=by kernel_rfl
def n_494:decide (Zc7.params.size+Zc7.nfree<=Zc7.ntmps/\(Zc7.name == "runtime.NumGoroutine")=false)=true:=by kernel_rfl
def q_494:(Zc7.params.size+Zc7.nfree,Zc7.ntmps)=(row494.np,row494.nt):=by kernel_rfl
def resl_494:Zf4 Tryz.prog (nu 494)=some (erF nu Zej row494):=by
 refine(res_fn (Option.some_get is_494).symm (Option.some_get ib_494).symm c_494 r_494 (of_decide_eq_true n_494)).trans ?_;have h:=Prod.mk.inj q_494;have h1:∀{a b c d:Nat} {rs:List RV} {x:AC},a=c->b=d->(⟨a,b,rs,x⟩:AF)=⟨c,d,rs,x⟩:=by rintro _ _ _ _ _ _ rfl rfl;rfl
 exact congrArg some (h1 h.1 h.2)
def Zb2(l:List (Nat×AFx)):Prop:=(l.map fun p=>Zf4 Tryz.prog (nu p.1))=l.map fun p=>some (erF nu Zej p.2)
def res_mem{l:List (Nat×AFx)}(h:Zb2 l)(h2:(l.all fun p=>p.2.body.isPrim.isNone&&!p.2.body.isBad)=true):∀p∈l,Ze5 Tryz.prog nu Zej p.1 p.2:=by
 intro p hp;have h3:=List.all_eq_true.1 h2 p hp;simp only[Bool.and_eq_true,Option.isNone_iff_eq_none,Bool.not_eq_true']at h3;exact ok_fn h3.1 h3.2 (List.map_inj_left.1 h p hp)
def ok_app{l r:List (Nat×AFx)}(h1:∀p∈l,Ze5 Tryz.prog nu Zej p.1 p.2)(h2:∀p∈r,Ze5 Tryz.prog nu Zej p.1 p.2):∀p∈l++r,Ze5 Tryz.prog nu Zej p.1 p.2:=fun p hp=>(List.mem_append.1 hp).elim (h1 p) (h2 p)
def res0:Zb2 (pT 0):=by unfold Zb2;kernel_rfl
def res1:Zb2 (pT 1):=by unfold Zb2;kernel_rfl
def res2:Zb2 (pT 2):=by unfold Zb2;kernel_rfl
def res3:Zb2 (pT 3):=by unfold Zb2;kernel_rfl
def res4:Zb2 (pT 4):=by unfold Zb2;kernel_rfl
def res5:Zb2 (pT 5):=by unfold Zb2;kernel_rfl
def res6:Zb2 (pT 6):=by unfold Zb2;kernel_rfl
def res7:Zb2 (pT 7):=by unfold Zb2;kernel_rfl
def res8:Zb2 (pT 8):=by unfold Zb2;kernel_rfl
def res9:Zb2 (pT 9):=by unfold Zb2;kernel_rfl
def lTab_ok(hp187:∀xs r,prim187 xs=some r->Zb4 Tryz.prog (nu 187) xs (·=r)):TOk Tryz.prog nu (fun u=>lTab.lookup u):=ok_lookup (ok_app (ok_app (ok_app (ok_app (ok_app (ok_app (ok_app (ok_app (ok_app (ok_app (res_mem res0 (by kernel_rfl)) (res_mem res1 (by kernel_rfl))) (res_mem res2 (by kernel_rfl))) (res_mem res3 (by kernel_rfl))) (res_mem res4 (by kernel_rfl))) (res_mem res5 (by kernel_rfl))) (res_mem res6 (by kernel_rfl))) (res_mem res7 (by kernel_rfl))) (res_mem res8 (by kernel_rfl))) (res_mem res9 (by kernel_rfl))) (ok_cons (ok_ty rfl rfl resl_1000001 rfl) (ok_cons (ok_pr rfl hp187) (ok_cons (ok_fn rfl rfl resl_494) (fun p hp=>by cases hp)))))
def Zod:List Nat->Bool
 | []=>true
 | a::l=>!l.contains a&&Zod l
def sub_app{l r:List (Nat×AFx)}(h:Zod (l.map (·.1))=true):∀p∈l,(l++r).lookup p.1=some p.2:=by
 induction l with
 | nil=>intro p hp;cases hp
 | cons a l ih=>
  intro p hp;obtain⟨k,v⟩:=a;simp only[List.map_cons,Zod,Bool.and_eq_true,Bool.not_eq_true']at h;rcases List.mem_cons.1 hp with rfl | hq
  ·simp
  ·have hne:(p.1 == k)=false:=by
    cases hb:p.1 == k with
    | false=>rfl
    | true=>
     have:=eq_of_beq hb;subst this;have h5:(l.map (·.1)).contains p.1=true:=List.contains_iff_mem.2 (List.mem_map.2 ⟨p,hq,rfl⟩);rw[h5]at h;cases h.1
   rw[List.cons_append,List.lookup_cons,hne];exact ih h.2 p hq
def lTab_part:Part gTab lTab:=⟨sub_app (by kernel_rfl),by kernel_rfl⟩
instance:Z2 tab:=⟨by kernel_rfl,by kernel_rfl,by kernel_rfl,by kernel_rfl,by kernel_rfl⟩
instance:Zu tab where
 h115:=by kernel_rfl
 h116:=by kernel_rfl
 h117:=by kernel_rfl
 h118:=by kernel_rfl
 h91:=by kernel_rfl
 h86:=by kernel_rfl
 h106:=by kernel_rfl
 h71:=by kernel_rfl
 h72:=by kernel_rfl
 h73:=by kernel_rfl
 h70:=by kernel_rfl
 h87:=by kernel_rfl
 h85:=by kernel_rfl
 h56:=by kernel_rfl
 h88:=by kernel_rfl
 h57:=by kernel_rfl
 h2106:=by kernel_rfl
instance:Zy tab where
 h115:=by kernel_rfl
 h116:=by kernel_rfl
 h117:=by kernel_rfl
 h118:=by kernel_rfl
 h91:=by kernel_rfl
 h86:=by kernel_rfl
 h106:=by kernel_rfl
 h71:=by kernel_rfl
 h72:=by kernel_rfl
 h73:=by kernel_rfl
 h70:=by kernel_rfl
 h87:=by kernel_rfl
 h85:=by kernel_rfl
 h56:=by kernel_rfl
 h88:=by kernel_rfl
 h57:=by kernel_rfl
 h2106:=by kernel_rfl
 h89:=by kernel_rfl
 h60:=by kernel_rfl
instance:Z0 tab:=⟨by kernel_rfl,by kernel_rfl⟩
instance:Zt tab:=⟨by kernel_rfl,by kernel_rfl,by kernel_rfl,by kernel_rfl,by kernel_rfl⟩
instance:Zp tab:=⟨by kernel_rfl,by kernel_rfl,by kernel_rfl⟩
instance:Za9 tab where
instance:Zbd tab where
instance:Zi tab:=⟨by kernel_rfl,by kernel_rfl,by kernel_rfl,by kernel_rfl,by kernel_rfl,by kernel_rfl,by kernel_rfl,by kernel_rfl,by kernel_rfl⟩
instance:Zl tab:=⟨by kernel_rfl,by kernel_rfl,by kernel_rfl,by kernel_rfl⟩
instance:Zs tab:=⟨by kernel_rfl,by kernel_rfl,by kernel_rfl,by kernel_rfl,by kernel_rfl,by kernel_rfl,by kernel_rfl,by kernel_rfl,by kernel_rfl,by kernel_rfl,by kernel_rfl,by kernel_rfl,by kernel_rfl⟩
instance:Zet tab where
instance:Zad tab:=⟨by kernel_rfl,by kernel_rfl,by kernel_rfl⟩
instance:Zap tab:=⟨by kernel_rfl⟩
instance:Zc5 tab:=⟨by kernel_rfl⟩
instance:Zah tab:=⟨by kernel_rfl,by kernel_rfl,by kernel_rfl,by kernel_rfl,by kernel_rfl,by kernel_rfl,by kernel_rfl,by kernel_rfl⟩
instance:Zaf tab:=⟨by kernel_rfl,by kernel_rfl,by kernel_rfl,by kernel_rfl⟩
instance:Zbl tab:=⟨by kernel_rfl,by kernel_rfl⟩
instance:Zas tab:=⟨by kernel_rfl,by kernel_rfl,by kernel_rfl,by kernel_rfl,by kernel_rfl,by kernel_rfl,by kernel_rfl,by kernel_rfl,by kernel_rfl,by kernel_rfl,by kernel_rfl,by kernel_rfl,by kernel_rfl,by kernel_rfl⟩
instance:Zd7 tab where
 h1:=⟨282,by kernel_rfl⟩
instance:Zba tab where
instance:Zbt tab:=⟨by kernel_rfl,by kernel_rfl,by kernel_rfl,by kernel_rfl,by kernel_rfl,by kernel_rfl,by kernel_rfl⟩
instance:Zgo tab:=⟨by kernel_rfl⟩
instance:Zde tab:=⟨by kernel_rfl,by kernel_rfl,by kernel_rfl,by kernel_rfl,by kernel_rfl,by kernel_rfl,by kernel_rfl,by kernel_rfl⟩
instance:Zal tab:=⟨by kernel_rfl,by kernel_rfl,by kernel_rfl,by kernel_rfl,by kernel_rfl,by kernel_rfl⟩
instance:Zgp tab:=⟨by kernel_rfl⟩
instance:Zeu tab:=⟨by kernel_rfl,by kernel_rfl⟩
instance:Zai tab:=⟨by kernel_rfl,by kernel_rfl,by kernel_rfl,by kernel_rfl,by kernel_rfl,by kernel_rfl,by kernel_rfl⟩
instance:Zar tab:=⟨by kernel_rfl,by kernel_rfl,by kernel_rfl,by kernel_rfl,by kernel_rfl,by kernel_rfl,by kernel_rfl,by kernel_rfl,by kernel_rfl,by kernel_rfl⟩
instance:Ze1 tab:=⟨by kernel_rfl,by kernel_rfl,by kernel_rfl,by kernel_rfl⟩
instance:Zhf tab:=⟨by kernel_rfl⟩
instance:Zby tab:=⟨by kernel_rfl,by kernel_rfl,by kernel_rfl,by kernel_rfl⟩
instance:Ze2 tab:=⟨by kernel_rfl,by kernel_rfl,by kernel_rfl⟩
instance:Zgl tab:=⟨by kernel_rfl⟩
instance:Zcp tab:=⟨by kernel_rfl,by kernel_rfl,by kernel_rfl⟩
instance:Zz tab:=⟨by kernel_rfl,by kernel_rfl,by kernel_rfl,by kernel_rfl,by kernel_rfl,by kernel_rfl⟩
instance:Z8 tab where
 h43:=by kernel_rfl
 h84:=by kernel_rfl
 h52:=by kernel_rfl
 h54:=by kernel_rfl
 h58:=by kernel_rfl
 h59:=by kernel_rfl
 h61:=by kernel_rfl
instance:Zx tab where
 h43:=by kernel_rfl
 h84:=by kernel_rfl
 h52:=by kernel_rfl
 h54:=by kernel_rfl
 h58:=by kernel_rfl
 h59:=by kernel_rfl
 h61:=by kernel_rfl
 h122:=by kernel_rfl
 h95:=by kernel_rfl
 h96:=by kernel_rfl
 h97:=by kernel_rfl
 h63:=by kernel_rfl
instance:Zw tab:=⟨by kernel_rfl,by kernel_rfl,by kernel_rfl,by kernel_rfl,by kernel_rfl,by kernel_rfl,by kernel_rfl,by kernel_rfl⟩
instance:Zae tab where
 h43:=by kernel_rfl
 h84:=by kernel_rfl
 h52:=by kernel_rfl
 h54:=by kernel_rfl
 h58:=by kernel_rfl
 h59:=by kernel_rfl
 h61:=by kernel_rfl
 h122:=by kernel_rfl
 h95:=by kernel_rfl
 h96:=by kernel_rfl
 h97:=by kernel_rfl
 h63:=by kernel_rfl
 h2043:=by kernel_rfl
instance:Zag tab where
 h43:=by kernel_rfl
 h84:=by kernel_rfl
 h52:=by kernel_rfl
 h54:=by kernel_rfl
 h58:=by kernel_rfl
 h59:=by kernel_rfl
 h61:=by kernel_rfl
 h122:=by kernel_rfl
 h95:=by kernel_rfl
 h96:=by kernel_rfl
 h97:=by kernel_rfl
 h63:=by kernel_rfl
 h2043:=by kernel_rfl
 h39:=by kernel_rfl
 h24:=by kernel_rfl
instance:Zq tab:=⟨by kernel_rfl,by kernel_rfl,by kernel_rfl,by kernel_rfl,by kernel_rfl,by kernel_rfl,by kernel_rfl,by kernel_rfl,by kernel_rfl,by kernel_rfl,by kernel_rfl,by kernel_rfl⟩
instance:Z9 tab:=⟨by kernel_rfl,by kernel_rfl,by kernel_rfl,by kernel_rfl⟩
instance:Zgm tab where
instance:Zij tab where
instance:Zdd tab:=⟨by kernel_rfl,by kernel_rfl⟩
instance:Zcx tab:=⟨by kernel_rfl,by kernel_rfl,by kernel_rfl⟩
instance:Zdz tab:=⟨by kernel_rfl,by kernel_rfl⟩
instance:Ze9 tab:=⟨by kernel_rfl,by kernel_rfl⟩
instance:Zc3 tab:=⟨by kernel_rfl⟩
instance:Zdo tab:=⟨by kernel_rfl⟩
instance:Zcy tab:=⟨by kernel_rfl,by kernel_rfl,by kernel_rfl⟩
instance:Zbb tab:=⟨by kernel_rfl,by kernel_rfl,by kernel_rfl⟩
instance:Za7 tab:=⟨by kernel_rfl,by kernel_rfl,by kernel_rfl,by kernel_rfl,by kernel_rfl,by kernel_rfl,by kernel_rfl⟩
instance:Zcg tab:=⟨by kernel_rfl,by kernel_rfl,by kernel_rfl⟩
instance:Zc6 tab:=⟨by kernel_rfl,by kernel_rfl,by kernel_rfl⟩
instance:Zdf tab:=⟨by kernel_rfl,by kernel_rfl⟩
instance:Z1 tab:=⟨by kernel_rfl,by kernel_rfl,by kernel_rfl,by kernel_rfl,by kernel_rfl,by kernel_rfl⟩
instance:Zgn tab:=⟨by kernel_rfl⟩
instance:Zdn tab:=⟨by kernel_rfl,by kernel_rfl⟩
instance:Zaz tab:=⟨by kernel_rfl,by kernel_rfl,by kernel_rfl,by kernel_rfl,by kernel_rfl⟩
end Go.Proofs.YtpkknnhpfhpbdaaGreat
end
namespace Go.Ab
section
open Go.ChangeShapes Go.WideShapes Go.ChangeAt Go.RowKit
def zmr{H:Type}{enc:TypeId×Value->H}{P:Program}{f:Func}{s:ChangeSpec}{apart fresh handsOn again:Bool}{W W':World}{args:Array Value}{v:Value}{ds gs:List (DataW H)}{before pa pv:List MemPlace}
  (hW:DataW.Whole enc P f.params.toList s.vars apart W args.toList ds gs before)
  (hres:∀(b:Nat) (sp:Nat->Bool) (hd:Bool),DataW.TrodAll enc P W' b sp hd f.resultTypes.toList (v.resultList f.resultTypes.size) (s.fn H (ds++gs)).results [])
  (hargs:∀sp:Nat->Bool,(∀p∈before,sp p.block=true)->DataW.TrodAll enc P W' 0 sp true f.params.toList args.toList (s.fn H (ds++gs)).args pa)
  (hvars:∀sp:Nat->Bool,(∀p∈before,sp p.block=true)->DataW.TrodVars enc P W' sp s.vars (s.fn H (ds++gs)).vars pv)
  (hps:before=pa++pv) (hw:Below W.heap.size W W')
  (hok:∀(j:Nat) (t:TypeId) (r:Value),f.resultTypes[j]? = some t->(v.resultList f.resultTypes.size)[j]? = some r->Value.okWide P W' .any 0 t r) :
  s.post enc P f apart fresh handsOn again W args v W':=by
 have hold:∀p∈before,(fun b=>decide (b<W.heap.size)) p.block=true:=fun p hp=>by simpa using hW.lt p hp
 have hlt:∀p∈before,p.block<W.heap.size:=fun p hp=>hW.lt p hp;refine⟨ds,gs,before,[],pa,pv,hW,hres _ _ _,hargs _ hold,hvars _ hold,World.keptBut_mono (fun p hp=>⟨hp,?_⟩) (hw.frame (·∈before)),fun _=>?_⟩
 ·grind
 ·obtain⟨_,_,_,_,_,hz,hn⟩:=hW;refine⟨hok,_,_,([]++pa)++pv,⟨[]++pa,pv,trodAll_append (hargs _ (fun _ _=>rfl)) (hres _ _ _),hvars _ (fun _ _=>rfl),rfl,?_,?_⟩,?_⟩
  ·intro b off hp;have hp':MemPlace.cell b off∈before:=by grind
   rw[hw.frozen (p:=⟨b,off,none⟩) (hlt _ hp')];exact hz b off hp'
  all_goals grind
end
section
open Go.ChangeShapes Go.WideShapes Go.ChangeAt Go.RowKit
inductive Ty where
 | int (k:IntKind)
 | bool
 | str
 | sl (r:Ty)
 | nil
 | cons (a:Ty) (r:Ty)
def Ty.z:Ty->Nat
 | .nil=>0
 | .cons a r=>a.z+r.z
 | _=>1
def Ok:Ty->List AV->Prop
 | .int k,cs=>∃n,cs=[.i k n]/\(Lit.int k n).wf=true
 | .bool,cs=>∃b,cs=[.b b]
 | .str,cs=>∃l,cs=[.s l]/\l.length<=maxLen
 | .sl r,cs=>∃els f,cs=[.sl els f]/\els.length<=maxLen/\(f=.nl/\els=[]\/f=.so)/\∀row∈els,Ok r row
 | .nil,cs=>cs=[]
 | .cons a r,cs=>∃c1 c2,cs=c1++c2/\Ok a c1/\Ok r c2
theorem Ok.len:∀{ty:Ty} {cs:List AV},Ok ty cs->cs.length=ty.z
 | .int _,_,⟨_,h,_⟩=>by rw[h];rfl
 | .bool,_,⟨_,h⟩=>by rw[h];rfl
 | .str,_,⟨_,h,_⟩=>by rw[h];rfl
 | .sl _,_,⟨_,_,h,_⟩=>by rw[h];rfl
 | .nil,_,h=>by rw[show _=[] from h];rfl
 | .cons _ _,_,⟨_,_,h,h1,h2⟩=>by rw[h,Yam,h1.len,h2.len];rfl
def Zex(w:World)(S:Nat->Nat->Prop)(cs:List Value)(xs:List AV):Prop:=
 xs.length=cs.length/\∀(j:Nat) (v:Value) (c:AV),cs[j]? = some v->xs[j]? = some c->CP w S v c/\v.oneCell'=true
section
variable{H:Type}{enc:TypeId×Value->H}{P:Program}{w:World}{base:Nat}{held:Bool}{S:Nat->Nat->Prop}
def Zex.nil:Zex w S [] []:=⟨rfl,fun j v c h=>by grind⟩
def Zex.one{v:Value}{c:AV}(h:CP w S v c)(h1:v.oneCell'=true):Zex w S [v] [c]:=by
 refine⟨rfl,fun j v' c' hv hc=>?_⟩
 grind
def Zex.append{cs cs':List Value}{xs xs':List AV}(h:Zex w S cs xs)(h':Zex w S cs' xs'):Zex w S (cs++cs') (xs++xs'):=by
 refine⟨by rw[Yam,Yam,h.1,h'.1],fun j v c hv hc=>?_⟩;by_cases hj:j<cs.length
 ·rw[Yt hj]at hv;rw[Yt (by rw[h.1];omega)]at hc;exact h.2 j v c hv hc
 ·rw[Ym (by omega)]at hv;rw[Ym (by rw[h.1];omega),h.1]at hc;exact h'.2 _ v c hv hc
def Zho(P:Program)(g:TypeId->Option Ty)(tot:Nat):Nat->List Field->Option Ty
 | off,[]=>if off=tot then some .nil else none
 | off,f::fs=>(g f.type).bind fun a=>if f.offset=off/\a.z=P.cellsOf f.type then (Zho P g tot (off+a.z) fs).map (.cons a) else none
def Zj8:Nat->Ty->Ty
 | 0,_=>.nil
 | n+1,a=>.cons a (Zj8 n a)
def Zin(P:Program):Nat->TypeId->Option Ty
 | 0,_=>none
 | n+1,t=>
  match P.underlying t with
  | some .bool=>some .bool
  | some (.int k)=>some (.int k)
  | some .string=>some .str
  | some (.slice e)=>(Zin P n e).bind fun r=>if r.z=P.cellsOf e/\0<r.z then some (.sl r) else none
  | some (.struct fs)=>Zho P (Zin P n) (P.cellsOf t) 0 fs.toList
  | some (.array k e)=>(Zin P n e).bind fun a=>if a.z=P.cellsOf e/\k*a.z=P.cellsOf t then some (Zj8 k a) else none
  | _=>none
theorem zw8{α:Type}{Q:Nat->α->Prop}:∀(n:Nat),(∀i,i<n->∃x,Q i x)->∃l:List α,l.length=n/\∀i x,l[i]? = some x->Q i x
 | 0,_=>⟨[],rfl,fun i x h=>by grind⟩
 | n+1,h=>by
  obtain⟨l,hl,hq⟩:=zw8 n fun i hi=>h i (by omega);obtain⟨x,hx⟩:=h n (by omega);refine⟨l++[x],by grind,fun i y hy=>?_⟩
  grind
def Zhb(S:Nat->Nat->Prop)(ps:List MemPlace):Prop:=∀k o,MemPlace.cell k o∈ps->S k o
def zsm{a:Addr}{m z:Nat}{cs:List Value}(h:w.cells? base (a.add m) z=some cs)(j:Nat)(hj:j<z):w.cell? ((a.add m).add j)=cs[j]? := (World.cells?_some h).2.2 j hj
theorem zw9{a:Addr}{v:Value}(h:w.cell? a=some v):a.spot=none:=by
 unfold World.cell? at h;split at h
 all_goals simp_all
end
end
section
open Go.ChangeShapes Go.WideShapes Go.ChangeAt Go.RowKit
def isAgg(P:Program)(t:TypeId):Bool:=match P.underlying t with | some (.struct _)=>true | some (.array _ _)=>true | _=>false
def Zm2(P:Program)(m:Nat):List TypeId->Option (List (Bool×Ty))
 | []=>some []
 | t::ts=>(Zin P m t).bind fun a=>(Zm2 P m ts).map fun r=>(isAgg P t,a)::r
def Zk4:Bool×Ty->AV->Prop
 | (true,ty),x=>∃cs,x=.agg cs/\Ok ty cs
 | (false,ty),x=>Ok ty [x]
def Zpe:List (Bool×Ty)->List AV->Prop
 | [],xs=>xs=[]
 | a::r,xs=>∃x ys,xs=x::ys/\Zk4 a x/\Zpe r ys
section
variable{H:Type}{enc:TypeId×Value->H}{P:Program}{w:World}{S:Nat->Nat->Prop}
theorem zsn(hl:laidOutB P=true){W W':World}(hb:Below W.heap.size W W'){sp:Nat->Bool}:∀(ts:List TypeId) (vs:List Value) (ds:List (DataW H)) (p:List MemPlace),
  (ts.all fun t=>P.readableRec t&&decide (t<P.types.size))=true->DataW.TrodAll enc P W 0 (fun _=>true) true ts vs ds p->(∀x∈p,x.block<W.heap.size)->(∀x∈p,sp x.block=true)->DataW.TrodAll enc P W' 0 sp true ts vs ds p
 | [],_,_,_,_,hA,_,_=>by
  obtain⟨rfl,rfl,rfl⟩:=trodAll_nil hA;exact rfl
 | t::ts,vs,ds,p,hr,hA,hlt,hsp=>by
  obtain⟨v,vs1,d,ds1,a,b,rfl,rfl,rfl,h1,h2⟩:=trodAll_cons hA;rw[Ybj,Yh,Yh,decide_eq_true_eq]at hr;exact⟨a,b,WideElems.Trod_stays hl hr.1.1 hr.1.2 h1 (fun x hx=>hb.same (hlt x (Y5 _ hx))) (fun x hx=>hsp x (Y5 _ hx)),
   zsn hl hb ts vs1 ds1 b hr.2 h2 (fun x hx=>hlt x (Y2 _ hx)) (fun x hx=>hsp x (Y2 _ hx)),rfl⟩
theorem zxa:∀(ts:List TypeId) (vs:List Value) (ds:List (DataW H)) (p:List MemPlace),DataW.TrodAll enc P w 0 (fun _=>true) true ts vs ds p->ds.length=ts.length
 | [],_,_,_,hA=>by
  obtain⟨rfl,rfl,rfl⟩:=trodAll_nil hA
  rfl
 | t::ts,vs,ds,p,hA=>by
  obtain⟨v,vs1,d,ds1,a,b,rfl,rfl,rfl,h1,h2⟩:=trodAll_cons hA;simp[zxa ts vs1 ds1 b h2]
end
end
theorem zg1:∀(els:List (List AV)),(∀row∈els,Ok (.int .u32) row)->∃l:List UInt32,els=Zc l
 | [],_=>⟨[],rfl⟩
 | r::els,h=>by
  obtain⟨l,rfl⟩:=zg1 els fun row hr=>h row (Yn _ hr);obtain⟨n,rfl,hw⟩:=h r Yu;have h1:0<=n/\n<4294967296:=by
   simp[Lit.wf,IntKind.min,IntKind.max,IntKind.signed,IntKind.bits]at hw;omega
  refine⟨w32 n.toNat::l,?_⟩;have:(w32 n.toNat).toNat=n.toNat:=zah (by omega);simp only[Zc,Yak,this,u32];rw[Int.toNat_of_nonneg h1.1]
def z2z{P:Program}{ν:Nat->FuncId}{T:Tbl}(hT:TOk P ν T)(hm:P.follows .mixedOrders=true){u:Nat}{af:AFx}{xs ys:List AV}{r:AV}(hu:T u=some af)(hl:af.lent=none)(h:Za T u ys=some r)(hx:xs.map wkA=ys):Zb4 P (ν u) xs (·=r):=by
 subst hx;have h1:=zq7 hT hm hu hl h;exact Zb4.wk (ex:=false) h1
abbrev Fz:=Bool×List UInt32×List UInt32
abbrev Zau(x:Fz):List AV:=[.b x.1,.sl (Zc x.2.1) .an,.sl (Zc x.2.2) .an]
abbrev efz(x:Fz):AV:=.agg (Zau x)
def fv(x:Fz):Rat:=mkRat (wv x.1 x.2.1) (val x.2.2)
def fz(q:Rat):Fz:=(decide (q.num<0),ofN q.num.natAbs,ofN q.den)
@[simp] theorem zb6(q:Rat):fv (fz q)=q:=by
 unfold fv fz;rw[zkr,zad,Rat.mkRat_self]
def fsz(x:Fz):Nat:=max x.2.1.length x.2.2.length
def zda(x:Fz):x.2.1.length<=fsz x:=Ye9 ..
def zdh(x:Fz):x.2.2.length<=fsz x:=Yex ..
def sz(q:Rat):Nat:=max (ofN q.num.natAbs).length (ofN q.den).length
def zku(q:Rat):(ofN q.num.natAbs).length<=sz q:=Ye9 ..
def zkv(q:Rat):(ofN q.den).length<=sz q:=Yex ..
def zkw{n:Nat}(h:n≠0):1<=(ofN n).length:=by
 have:ofN n≠[]:=fun e=>h (zau.1 e);exact Ybp.2 this
def z6f(q:Rat):1<=sz q:=Yd (zkw q.den_nz) (zkv q)
def z6g{z:Int}{d:Nat}(h:d≠0):(mkRat z d).num.natAbs=z.natAbs/Nat.gcd z.natAbs d:=by
 rw[Rat.num_mkRat,if_neg h,Int.natAbs_ediv_of_dvd (Int.ofNat_dvd_left.2 (Nat.gcd_dvd_right ..)),Int.natAbs_natCast,Yce]
def z6h{z:Int}{d:Nat}(h:d≠0):(mkRat z d).den=d/Nat.gcd z.natAbs d:=by
 rw[Rat.den_mkRat,if_neg h,Yce]
def z6i{z:Int}{d:Nat}(h:d≠0):sgI (mkRat z d).num=sgI z:=by
 rw[Rat.num_mkRat,if_neg h];have hg:0<Nat.gcd d z.natAbs:=Nat.gcd_pos_of_pos_left _ (Ybi h);obtain⟨k,hk⟩:((Nat.gcd d z.natAbs:Nat):Int) ∣ z:=Int.ofNat_dvd_left.2 (Nat.gcd_dvd_right ..);generalize Nat.gcd d z.natAbs=g at *
 have hg':(0:Int)<g:=by omega
 subst hk;rw[Int.mul_ediv_cancel_left _ (by omega)];unfold sgI;rcases Int.lt_trichotomy k 0 with h1 | h1 | h1
 ·have:=Int.mul_neg_of_pos_of_neg hg' h1;rw[if_pos h1,if_pos this]
 ·subst h1;simp
 ·have:=Int.mul_pos hg' h1;rw[if_neg (by omega),if_neg (by omega),if_neg (by omega),if_neg (by omega)]
def z1w(z:Int):decide (z<0)=decide (sgI z<0):=by
 unfold sgI;split
 ·simp[*]
 ·split<;>simp[*]
def zaf2{z:Int}{d:Nat}(h:d≠0):decide ((mkRat z d).num<0)=decide (z<0):=by
 rw[z1w,z1w z,z6i h]
def zaf3(n:Bool)(x:Nat){d:Nat}(h:d≠0):fz (mkRat (sg n x) d)=(n&&decide (x≠0),ofN (x/Nat.gcd x d),ofN (d/Nat.gcd x d)):=by
 unfold fz;rw[zaf2 h,z6g h,z6h h,ztm,ztn]
def zfh:ofN 1=[1]:=by
 rw[zh2 (by decide),show 1/4294967296=0 from rfl,znl]
 rfl
def znn:fz 0=(false,[],[1]):=by
 unfold fz;rw[Rat.zero_num,Rat.zero_den,zfh];simp
theorem zh4:sz 0=1:=by
 unfold sz;rw[Rat.zero_num,Rat.zero_den,zfh];simp
def z6j:sz 1=1:=by
 unfold sz;rw[Rat.one_num,Rat.one_den,show (1:Int).natAbs=1 from rfl,zfh]
 rfl
theorem zax(q:Rat):fsz (fz q)=sz q:=rfl
def z9z{z:Int}{d L:Nat}(hz:(ofN z.natAbs).length<=L)(hd:(ofN d).length<=L)(h1:1<=L):sz (mkRat z d)<=L:=by
 unfold sz;by_cases h:d=0
 ·subst h;rw[Yfc,Rat.zero_num,Rat.zero_den,zfh];simp;omega
 ·rw[z6g h,z6h h];exact Yfl.2 ⟨Yd (zav (Yb9 _ _)) hz,Yd (zav (Yb9 _ _)) hd⟩
theorem za2{x:Fz}{L:Nat}(h:fsz x<=L)(h1:1<=L):sz (fv x)<=L:=
 z9z (Yd (zb7 _ _) (Yd (zda x) h)) (Yd (zac _) (Yd (zdh x) h)) h1
def za0{x y L M:Nat}(hx:(ofN x).length<=L)(hy:(ofN y).length<=M):(ofN (x*y)).length<=L+M:=by
 have:=za5 (x:=(x:Int)) (y:=(y:Int)) (L:=L) (M:=M) (by simpa using hx) (by simpa using hy);simpa[Yfe]using this
theorem zez(p q:Rat):sz (p+q)<=sz p+sz q+1:=by
 rw[Rat.add_def'];have h1:=zku p;have h2:=zkv p;have h3:=zku q;have h4:=zkv q;have h5:=z6f p;refine z9z ?_ (Yd (za0 h2 h4) (by omega)) (by omega);refine zcy ?_ ?_
 ·exact za5 h1 (by simpa using h4)
 ·rw[Yba];exact za5 h3 (by simpa using h2)
theorem zd8(p q:Rat):sz (p*q)<=sz p+sz q:=by
 rw[Rat.mul_def'];have h1:=zku p;have h2:=zkv p;have h3:=zku q;have h4:=zkv q;have h5:=z6f p;exact z9z (za5 h1 h3) (za0 h2 h4) (by omega)
def z1x(p:Rat):sz (-p)=sz p:=by
 unfold sz;rw[Rat.neg_num,Rat.neg_den,Int.natAbs_neg]
theorem zaf4(p q:Rat):sz (p-q)<=sz p+sz q+1:=by
 rw[Ydp];have:=zez p (-q)
 rwa [z1x]at this
def z1y(p:Rat):sz p⁻¹<=sz p:=by
 unfold sz;rw[Rat.num_inv,Rat.den_inv];by_cases h:p.num=0
 ·simp[h,zfh];have:=zkw p.den_nz;omega
 ·rw[if_neg h,Yfe,Int.natAbs_sign_of_ne_zero h,Yds,Int.natAbs_natCast,Nat.max_comm];exact Ye _
theorem zaf5(p q:Rat):sz (p/q)<=sz p+sz q:=by
 rw[Yd6];exact Yd (zd8 _ _) (Nat.add_le_add_left (z1y q) _)
def sgQ(q:Rat):Int:=sgI q.num
def z6k{z:Int}{d:Nat}(h:d≠0):sgQ (mkRat z d)=sgI z:=z6i h
def zno{z:Int}:sgI z=0↔z=0:=by
 unfold sgI;split
 ·constructor<;>intro h<;>omega
 ·split<;>constructor<;>intro h<;>omega
def z1z{z:Int}:0<sgI z↔0<z:=by
 unfold sgI;split
 ·constructor<;>intro h<;>omega
 ·split<;>constructor<;>intro h<;>omega
def z90{z:Int}:sgI z<0↔z<0:=by
 unfold sgI;split
 ·constructor<;>intro h<;>omega
 ·split<;>constructor<;>intro h<;>omega
theorem zd9{q:Rat}:sgQ q=0↔q=0:=by
 unfold sgQ;rw[zno,Rat.num_eq_zero]
def z10{q:Rat}:0<sgQ q↔0<q:=by
 unfold sgQ;rw[z1z,Rat.lt_iff];simp
def Zb(l:List Fz):List (List AV):=l.map Zau
@[simp] def zex(l:List Fz):(Zb l).length=l.length:=by simp[Zb]
@[simp] theorem zey(l:List Fz):wkL (Zb l)=Zb l:=by rw[zb8];simp[Zb,wkR,wkA]
@[simp] def zajn(l:List Fz)(i:Nat)(h:i<(Zb l).length):(Zb l)[i]=Zau (l[i]'(by simpa using h)):=by simp[Zb]
theorem zd3(l:List Fz)(x:Fz):Zb l++[Zau x]=Zb (l++[x]):=by simp[Zb]
def ztp(l:List Fz)(i:Nat)(x:Fz):(Zb l).set i (Zau x)=Zb (l.set i x):=by simp[Zb,Yed]
@[simp] def zaf6(l:List Fz)(n:Nat):(Zb l).take n=Zb (l.take n):=by simp[Zb]
@[simp] def zaf7(l:List Fz)(n:Nat):(Zb l).drop n=Zb (l.drop n):=by simp[Zb]
@[simp] def zay:Zb []=[]:=rfl
def Zd(m:List (List Fz)):List (List AV):=m.map fun r=>[.sl (Zb r) .an]
@[simp] def zbr(l:List (List Fz)):(Zd l).length=l.length:=by simp[Zd]
@[simp] def zai(l:List (List Fz)):wkL (Zd l)=Zd l:=by rw[zb8];simp[Zd,wkR,wkA]
@[simp] def zajo(l:List (List Fz))(i:Nat)(h:i<(Zd l).length):(Zd l)[i]=[.sl (Zb (l[i]'(by simpa using h))) .an]:=by simp[Zd]
def zfi(l:List (List Fz))(r:List Fz):Zd l++[[.sl (Zb r) .an]]=Zd (l++[r]):=by simp[Zd]
@[simp] def zaf8(l:List (List Fz))(n:Nat):(Zd l).take n=Zd (l.take n):=by simp[Zd]
@[simp] def znp:Zd []=[]:=rfl
abbrev tyF:Ty:=.cons .bool (.cons (.sl (.int .u32)) (.cons (.sl (.int .u32)) .nil))
def zjy{cs:List AV}(h:Ok tyF cs):∃x:Fz,wkR cs=Zau x:=by
 obtain⟨c1,c2,rfl,⟨b,rfl⟩,c3,c4,rfl,⟨els,f,rfl,_,_,he⟩,c5,c6,rfl,⟨els2,f2,rfl,_,_,he2⟩,rfl⟩:=h;obtain⟨l,rfl⟩:=zg1 els he;obtain⟨l2,rfl⟩:=zg1 els2 he2;refine⟨(b,l,l2),?_⟩;simp[wkA,wkR]
theorem zo5:∀(els:List (List AV)),(∀r∈els,Ok tyF r)->∃l:List Fz,wkL els=Zb l
 | [],_=>⟨[],rfl⟩
 | r::els,h=>by
  obtain⟨l,hl⟩:=zo5 els fun r hr=>h r (Yn _ hr);obtain⟨x,hx⟩:=zjy (h r Yu);refine⟨x::l,?_⟩;simp only[wkL,hx,hl]
  rfl
def zdy{cs:List AV}(h:Ok (.sl tyF) cs):∃l:List Fz,wkR cs=[.sl (Zb l) .an]:=by
 obtain⟨els,f,rfl,_,_,he⟩:=h;obtain⟨l,hl⟩:=zo5 els he;exact⟨l,by simp[wkR,wkA,hl]⟩
theorem zo6:∀(els:List (List AV)),(∀r∈els,Ok (.sl tyF) r)->∃m:List (List Fz),wkL els=Zd m
 | [],_=>⟨[],rfl⟩
 | r::els,h=>by
  obtain⟨m,hm⟩:=zo6 els fun r hr=>h r (Yn _ hr);obtain⟨l,hl⟩:=zdy (h r Yu);refine⟨l::m,?_⟩;simp only[wkL,hl,hm]
  rfl
def zus{P:Program}{ν:Nat->FuncId}{l l':List (Nat×AFx)}(hT:TOk P ν fun u=>l'.lookup u)(hp:Part l l')(hm:P.follows .mixedOrders=true){u:Nat}{af:AFx}{xs ys:List AV}{r:AV}
  (hu:l'.lookup u=some af) (hl:af.lent=none) (h:Za (fun u=>l.lookup u) u ys=some r) (hx:xs.map wkA=ys):Zb4 P (ν u) xs (·=r):=
 z2z hT hm hu hl (hp.call (by rw[hu];rfl) h) hx
end Go.Ab
section
set_option linter.unusedVariables false
namespace Go.Proofs
open Go.Shelf Go.RowKit
variable{P:Program}{ρ:Ren}
structure JL (P:Program) (ρ:Ren):Prop extends Lays.n169 P ρ,Lays.n241 P ρ,Builder.Extra P ρ where
 f156:P.funcs[ρ.f 156]? = some (Body.n156 ρ)
 f165:P.funcs[ρ.f 165]? = some (Body.n165 ρ)
 f166:P.funcs[ρ.f 166]? = some (Body.n166 ρ)
 t4:P.underlying (ρ.t 4)=some (TypeDesc.bool)
 a4:∀w,(isAgg (ρ.t 4)).run P w=.ok false w
 z4:∀w,(Go.sizeOf (ρ.t 4)).run P w=.ok 1 w
 v4:∀w,(zeroValue (ρ.t 4)).run P w=.ok (Value.bool false) w
 t20:P.underlying (ρ.t 20)=some (TypeDesc.interface #[])
 a20:∀w,(isAgg (ρ.t 20)).run P w=.ok false w
 z20:∀w,(Go.sizeOf (ρ.t 20)).run P w=.ok 1 w
 v20:∀w,(zeroValue (ρ.t 20)).run P w=.ok (Value.nilIface) w
 t31:P.underlying (ρ.t 31)=some (TypeDesc.slice (ρ.t 9))
 a31:∀w,(isAgg (ρ.t 31)).run P w=.ok false w
 z31:∀w,(Go.sizeOf (ρ.t 31)).run P w=.ok 1 w
 v31:∀w,(zeroValue (ρ.t 31)).run P w=.ok (Value.slice none 0 0) w
 t75:P.underlying (ρ.t 75)=some (TypeDesc.interface #[("Error",ρ.t 80)])
 a75:∀w,(isAgg (ρ.t 75)).run P w=.ok false w
 z75:∀w,(Go.sizeOf (ρ.t 75)).run P w=.ok 1 w
 v75:∀w,(zeroValue (ρ.t 75)).run P w=.ok (Value.nilIface) w
 t76:P.underlying (ρ.t 76)=some (TypeDesc.tuple #[ρ.t 3,ρ.t 75])
 a76:∀w,(isAgg (ρ.t 76)).run P w=.ok false w
 z76:∀w,(Go.sizeOf (ρ.t 76)).run P w=.ok 1 w
 v76:∀w,(zeroValue (ρ.t 76)).run P w=.ok (Value.tuple #[Value.int IntKind.i64 0,Value.nilIface]) w
 t164:P.underlying (ρ.t 164)=some (TypeDesc.unsafePointer)
 a164:∀w,(isAgg (ρ.t 164)).run P w=.ok false w
 z164:∀w,(Go.sizeOf (ρ.t 164)).run P w=.ok 1 w
 v164:∀w,(zeroValue (ρ.t 164)).run P w=.ok (Value.pointer none) w
 e240:∀args w,(callFunc (ρ.f 240) args).run P w=.ok (.enter (ρ.f 240) args) w
 c240:∀(B b:Nat) (bs:List Value) (w:World),Lib.IsBuilder (ρ.t 72) (ρ.t 5) B b bs w ->
  Calls P (ρ.f 240) #[.pointer (some ⟨b,0,none⟩)] w fun e w'=>e=.returned (.tuple #[])/\(Lib.BuilderAt (ρ.t 72) (ρ.t 5) B b (.pointer (some ⟨b,0,none⟩)) bs w'/\Below B w w')
 c240f:∀(b:Nat) (w:World),w.cell? ⟨b,0,none⟩=some (.pointer none)->w.shape? b=some ((ρ.t 72),2)->w.frozen? ⟨b,0,none⟩=false ->
  Calls P (ρ.f 240) #[.pointer (some ⟨b,0,none⟩)] w fun e w'=>e=.returned (.tuple #[])/\w'=w.setCell ⟨b,0,none⟩ (.pointer (some ⟨b,0,none⟩))
def Jl.hid{p:Prop}(h:p):Hid p:=h
end Go.Proofs
end
section
namespace Go.Proofs
open Go.Shelf Go.RowKit Go.Ab
variable{P:Program}{ρ:Ren}
def one_arg{cargs:Array Value}(h:cargs.size=1):∃a,cargs=#[a]:=by
 obtain⟨l⟩:=cargs
 match l,h with
 | [a],_=>exact⟨a,rfl⟩
end Go.Proofs
end
section
namespace Go.Proofs.YtpkknnhpfhpbdaaGreat
open Go Go.Ab Go.RowKit
def Zds:ByteArray:=⟨#[43,45,42,47,94,40,41,91,93,44,59,61]⟩
def signS_lt:∀(p:Nat) (h:p<Zds.size),(Zds[p]'h).toNat<128:=by decide
def sign_at(c:Nat)(hc:c<256):Zjw.contains (UInt8.ofNat c)=decide (∃p,∃h:p<Zds.size,(Zds[p]'h).toNat=c):=by
 rw[Yb8,decide_eq_true_iff];have:∀c,c<256->(Zjw.contains (UInt8.ofNat c)=true↔∃p,∃h:p<Zds.size,(Zds[p]'h).toNat=c):=by decide +kernel
 exact this c hc
set_option maxHeartbeats 1000000 in
set_option maxRecDepth 100000 in
def sign_calls(c:Nat)(hc:c<256)(w:World):Calls Tryz.prog 209 #[.int .u8 (c:Int)] w fun e w'=>e=.returned (.bool (Zjw.contains (UInt8.ofNat c)))/\Below w.heap.size w w':=by
 rw[sign_at c hc]
 go_enter Tryz.func209,Tryz.ntmps209
 go_wp2
 go_loopw [] (fun wr=>∃pos:Nat,wr.heap[w.heap.size]? = some (.stringIter Zds pos)/\Below w.heap.size w wr/\∀j,j<pos->∀h:j<Zds.size,(Zds[j]'h).toNat≠c) (fun wr=>Zds.size-wr.iterPos w.heap.size)
 case atStart=>
  refine⟨0,World.iter_heap w Zds 0,?_,fun j hj=>absurd hj (Nat.not_lt_zero _)⟩;exact(Below.refl _ w).alloc (Ye _) _
 case round=>
  obtain⟨pos,hit,hbw,hne⟩:=hrel;by_cases hp:pos<Zds.size
  ·have hnx:∀ty,(Instr.next (.pointer (some ⟨w.heap.size,0,none⟩)) true ty).run Tryz.prog wr=_:=fun ty=>Lib.run_next_ascii_at wr w.heap.size Zds pos ty hit hp (signS_lt pos hp);have hit2:=Lib.iterAt_heap wr w.heap.size Zds pos (pos+1) hit;have hbw2:=Lib.below_iterAt hbw (k:=w.heap.size) (Ye _) Zds (pos+1);obtain⟨x,hx⟩:∃x:Nat,(Zds[pos]'hp).toNat=x:=⟨_,rfl⟩;have hx1:=signS_lt pos hp;rw[hx]at hnx hx1;have hwr:IntKind.u8.wrap (x:Int)=(x:Int):=by rw[IntKind.wrap_u8];omega
   by_cases hxc:x=c
   ·subst hxc
    go_wp2
    go_ret
    exact⟨by rw[decide_eq_true ⟨pos,hp,hx⟩];rfl,hbw2⟩
   ·have hxc':¬ (x:Int)=(c:Int):=by omega
    go_wp2
    go_roundw
    case rel=>
     refine⟨pos+1,hit2,hbw2,fun j hj h=>?_⟩;rcases Yy j pos with h1 | h1
     ·exact hne j h1 h
     ·obtain rfl:j=pos:=by omega
      rw[hx];exact hxc
    case measure=>
     simp only[World.iterPos,hit2,hit];omega
  ·have hnx:∀ty,(Instr.next (.pointer (some ⟨w.heap.size,0,none⟩)) true ty).run Tryz.prog wr=_:=fun ty=>Lib.run_next_end_at wr w.heap.size Zds pos ty hit hp
   go_wp2
   go_ret
   have hno:¬ ∃p,∃h:p<Zds.size,(Zds[p]'h).toNat=c:=by
    rintro⟨p,h,hpc⟩
    exact hne p (by omega) h hpc
   exact⟨by rw[decide_eq_false hno];rfl,hbw⟩
def sign_ok:∀xs r,prim187 xs=some r->Zb4 Tryz.prog (nu 187) xs (·=r):=by
 have e:nu 187=209:=by kernel_rfl
 rw[e];intro xs r h;unfold prim187 at h;split at h
 ·rename_i n;split at h
  ·rename_i hn;cases h;refine⟨enters_of Tryz.func209 (by kernel_rfl) rfl,fun w S cargs hsz hC hS=>?_⟩;obtain⟨v0,rfl⟩:=one_arg hsz;have c0:v0=.int .u8 n:=by
    have:=hC 0 _ _ rfl rfl;cases this
    rfl
   subst c0;obtain⟨c,rfl⟩:∃c:Nat,n=c:=⟨n.toNat,by omega⟩;refine(sign_calls c (by omega) w).mono ?_
   rintro e w' ⟨rfl,hb⟩
   refine⟨_,_,rfl,?_,hb,.b _⟩;rw[Ybl]
   rfl
  ·cases h
 ·cases h
abbrev tyW:Ty:=.cons (.int .i64) (.cons .str (.cons (.int .i64) .nil))
end Go.Proofs.YtpkknnhpfhpbdaaGreat
end
namespace Go.Ab
class Zo2 (T:Tbl):Prop where
def cop2{X:Nat}(h:X%2=1)(k:Nat):Nat.Coprime (2^k) X:=by
 refine Nat.Coprime.pow_left k ?_;unfold Nat.Coprime;rw[Yff,h]
 rfl
def zkx{k m Y:Nat}(hY:Y%2=1):Nat.gcd (2^k*m) Y=Nat.gcd m Y:=Nat.Coprime.gcd_mul_left_cancel m (cop2 hY k)
def z91{m n X Y:Nat}(hX:X%2=1)(hY:Y%2=1):Nat.gcd (2^m*X) (2^n*Y)=2^(min m n)*Nat.gcd X Y:=by
 rcases Nat.le_total m n with h | h
 ·rw[Yb3 h,show n=m+(n-m) by omega,Ybu,Yal,Nat.gcd_mul_left,Yce X,zkx hX,Yce Y]
 ·rw[Nat.min_eq_right h,show m=n+(m-n) by omega,Ybu,Yal,Nat.gcd_mul_left,zkx hY]
theorem ztq{X Y k m:Nat}(hY:Y%2=1)(h:Y<=X)(e:X-Y=2^k*m):Nat.gcd m Y=Nat.gcd X Y:=by
 rw[<-zkx hY (k:=k),<-e,Nat.gcd_sub_self_left h]
def z5i{n:Nat}(h:n≠0):∃k m,n=2^k*m/\m%2=1:=by
 induction n using Nat.strongRecOn with
 | _ n ih=>
  by_cases h2:n%2=1
  ·exact⟨0,n,by simp,h2⟩
  ·obtain⟨k,m,e,hm⟩:=ih (n/2) (by omega) (by omega);refine⟨k+1,m,?_,hm⟩;rw[Yan,Yaw (2^k),Yal,<-e];omega
section
variable{T:Tbl}
def zk5(G:Nat):∀y:Nat×Nat,(y.1<18446744073709551616/\y.2<18446744073709551616/\Nat.gcd y.1 y.2=G) ->
  Ze T 0 0 (.norm false [0]) l198_0 ⟨[(0,u64 y.1),(1,u64 y.2)],[],2⟩=some (.n,⟨[(0,u64 G)],[],2⟩):=by
 refine za4 (fun y:Nat×Nat=>⟨[(0,u64 y.1),(1,u64 y.2)],[],2⟩) _ (fun y=>y.2) _ ?_
 rintro⟨x,y⟩ ⟨hx,hy,hG⟩
 simp only at hx hy hG ⊢;by_cases h:y=0
 ·right;subst h;rw[Yee]at hG;subst hG;constructor<;>simp -implicitDefEqProofs[l198_0]
 ·left;have hm:=Ya5 x (Ybi h);refine⟨(y,x%y),⟨hy,by simp only;omega,by simp only;rw[<-hG,Yce y,<-Yff,Yce]⟩,hm,?_,trivial⟩;simp -implicitDefEqProofs[l198_0,h]
end
section
variable{T:Tbl}[Zl T]
def zo7(x y:Nat)(hx:x<18446744073709551616)(hy:y<18446744073709551616):Za T 198 [u64 x,u64 y]=some (u64 (Nat.gcd x y)):=by
 have h:=zk5 (T:=T) (Nat.gcd x y) (x,y) ⟨hx,hy,rfl⟩;simp only at h;rw[zaa Zl.h198 rfl,b198];simp -implicitDefEqProofs[h]
def zut(a:List UInt32):Za T 200 [.sl (Zc (ofN (val a))) .an]=some (.b (decide (val a=1))):=by
 rw[zaa Zl.h200 rfl,b200];generalize val a=n;by_cases h0:n=0
 ·subst h0;simp -implicitDefEqProofs
 ·rw[zh2 h0];by_cases h1:n/4294967296=0
  ·have e:ofN (n/4294967296)=[]:=zau.2 h1;have e2:n%4294967296=n:=Yq (by omega);simp -implicitDefEqProofs[e,Zc,zcp,e2]
  ·have h2:¬ ofN (n/4294967296)=[]:=fun e=>h1 (zau.1 e);have h3:¬ n=1:=by rintro rfl;simp at h1
   have h4:¬ ((ofN (n/4294967296)).length:Int)+1=1:=by
    have:=Ybp.2 h2;omega
   simp -implicitDefEqProofs[Zc,h3,h4]
end
section
variable{T:Tbl}[Zu T][Zy T][Z0 T][Zt T][Zp T][Zl T]
def z26(G:Nat):∀y:List UInt32×List UInt32,(y.1.length<=90000/\y.2.length<=90000/\(∃n,y.1=ofN n)/\(∃n,y.2=ofN n)/\Nat.gcd (val y.1) (val y.2)=G) ->
  ∃r,(∃a b:List UInt32,r=(Ex.n,(⟨[(0,.sl (Zc a) .an),(1,.sl (Zc b) .an)],[],2⟩:St))/\a.length<=90000/\b.length<=2/\(∃n,a=ofN n)/\(∃n,b=ofN n)/\Nat.gcd (val a) (val b)=G) /\
   Ze T 0 0 (.norm false [0,1]) l199_0 ⟨[(0,.sl (Zc y.1) .an),(1,.sl (Zc y.2) .an)],[],2⟩=some r:=by
 refine zar (fun y:List UInt32×List UInt32=>⟨[(0,.sl (Zc y.1) .an),(1,.sl (Zc y.2) .an)],[],2⟩) _ (fun y=>val y.2) _ ?_
 rintro⟨a,b⟩ ⟨ha,hb,hk,hn,hG⟩
 simp only at ha hb hk hn hG ⊢;by_cases h:2<b.length
 ·left;have h':(2:Int)<b.length:=by omega
  have hv:val b≠0:=by
   obtain⟨n,rfl⟩:=hn;rw[zad]
   rintro rfl
   simp at h
  have hd:=zg8 (T:=T) a b ha hb;rw[if_neg hv]at hd;have hm:=Ya5 (val a) (Ybi hv);refine⟨(b,ofN (val a%val b)),⟨hb,?_,hn,⟨_,rfl⟩,?_⟩,?_,?_⟩
  ·have:=zav (Ydi hm);have:=zac b;simp only;omega
  ·simp only;rw[zad,<-hG,Yce (val b),<-Yff,Yce]
  ·simp only[zad];exact hm
  ·clear hG hm hn hv hk;simp -implicitDefEqProofs[l199_0,h',hd]
 ·right;have h':¬ (2:Int)<b.length:=by omega
  refine⟨_,⟨a,b,rfl,ha,by omega,hk,hn,hG⟩,?_,?_⟩<;>clear hG<;>simp -implicitDefEqProofs[l199_0,h']
def zq9(a b:List UInt32)(ha:a.length<=90000)(hb:b.length<=90000):Za T 199 [.sl (Zc a) .an,.sl (Zc b) .an]=some (.sl (Zc (ofN (Nat.gcd (val a) (val b)))) .an):=by
 have h1:=zb5 (T:=T) a (by omega);have h2:=zb5 (T:=T) b (by omega);have la:=zac a;have lb:=zac b;obtain⟨G,hG⟩:∃G,G=Nat.gcd (val a) (val b):=⟨_,rfl⟩;obtain⟨_,⟨x,y,rfl,hx,hy,⟨m,rfl⟩,⟨n,rfl⟩,hg⟩,hr⟩:=z26 (T:=T) G (ofN (val a),ofN (val b)) ⟨by simp only;omega,by simp only;omega,⟨_,rfl⟩,⟨_,rfl⟩,by simp only[zad];exact hG.symm⟩;simp only at hr;rw[zad,zad]at hg;rw[zaa Zl.h199 rfl,b199,<-hG];clear hG;by_cases h0:n=0
 ·subst h0;rw[Yee]at hg;subst hg;simp -implicitDefEqProofs[h1,h2,hr]
 ·have hv:val (ofN n)≠0:=by rw[zad];exact h0
  have hd:=zg8 (T:=T) (ofN m) (ofN n) hx (by omega);rw[if_neg hv,zad,zad]at hd;have hn64:n<18446744073709551616:=by
   have:=za3 (ofN n);rw[zad]at this;exact Y8 this (Y9 (by decide) hy)
  have hm:=Ya5 m (Ybi h0);have s1:=zpg (T:=T) (ofN n) (by omega);rw[zad,if_pos hn64]at s1;have s2:=zpg (T:=T) (ofN (m%n)) (by have:=zav (Ydi hm);omega);rw[zad,if_pos (by omega)]at s2;have s3:=zo7 (T:=T) n (m%n) hn64 (by omega);have e:Nat.gcd n (m%n)=G:=by rw[<-hg,Yce n,<-Yff,Yce]
  rw[e]at s3;have s4:=zj7 (T:=T) G (by
   rw[<-hg];exact Ydo (Nat.gcd_le_right _ (Ybi h0)) hn64)
  have hl:¬ ofN n=[]:=fun e=>h0 (zau.1 e);simp -implicitDefEqProofs[h1,h2,hr,hd,s1,s2,s3,s4,hl,h0]
def zk6(a b:List UInt32)(ha:a.length<=90000)(hb:b.length<=90000):Za T 201 [.sl (Zc a) .an,.sl (Zc b) .an] =
  some (.tup [.sl (Zc (ofN (val a/Nat.gcd (val a) (val b)))) .an,.sl (Zc (ofN (val b/Nat.gcd (val a) (val b)))) .an]):=by
 have hg:=zq9 (T:=T) a b ha hb;have ho:=zut (T:=T) (ofN (Nat.gcd (val a) (val b)));rw[zad]at ho;have ll:(ofN (Nat.gcd (val a) (val b))).length<=90000:=by
  by_cases h:val a=0
  ·rw[h,Nat.gcd_zero_left];have:=zac b;omega
  ·have:=zav (Nat.gcd_le_left (val b) (Ybi h));have:=zac a;omega
 have d1:=zg8 (T:=T) a (ofN (Nat.gcd (val a) (val b))) ha ll;have d2:=zg8 (T:=T) b (ofN (Nat.gcd (val a) (val b))) hb ll;have n1:=zb5 (T:=T) a (by omega);have n2:=zb5 (T:=T) b (by omega);rw[zad]at d1 d2;rw[zaa Zl.h201 rfl,b201];by_cases h0:Nat.gcd (val a) (val b)=0
 ·rw[h0]at hg ⊢;simp only[znl]at hg;simp -implicitDefEqProofs[hg]
 ·rw[if_neg h0]at d1 d2;have hl:¬ ofN (Nat.gcd (val a) (val b))=[]:=fun e=>h0 (zau.1 e);by_cases h1:Nat.gcd (val a) (val b)=1
  ·rw[h1]at hg ho hl ⊢;simp -implicitDefEqProofs[hg,ho,n1,n2,hl]
  ·generalize Nat.gcd (val a) (val b)=g at *
   simp -implicitDefEqProofs[hg,ho,d1,d2,hl,h0,h1]
end
section
variable{T:Tbl}[Zi T]
def zbn(n:Bool)(k:Nat):Za T 55 [.b n,.sl (Zc (ofN k)) .an]=some (ez (sg n k)):=by
 rw[zaa Zi.h55 rfl,b55,z1v];have h:(0<(ofN k).length)=(k≠0):=by
  rw[eq_iff_iff,Ybp];exact not_congr zau
 cases n<;>simp -implicitDefEqProofs[h]
end
section
variable{T:Tbl}[Zu T][Zi T]
def zh0(n:Bool)(a:List UInt32)(ha:a.length<=1000000):Za T 38 [wh n a]=some (ez (wv n a)):=by
 have h:=zb5 (T:=T) a (by omega);have hs:=zbn (T:=T) n (val a);rw[zaa Zi.h38 rfl,b38];simp -implicitDefEqProofs[h,hs,wv]
end
section
variable{T:Tbl}[Zu T][Zi T]
theorem zp3(n:Bool)(a:List UInt32)(ha:a.length<=1000000):Za T 40 [wh n a]=some (ez (-wv n a)):=by
 have h:=zb5 (T:=T) a (by omega);have hs:=zbn (T:=T) (!n) (val a);rw[z6d]at hs;rw[zaa Zi.h40 rfl,b40];simp -implicitDefEqProofs[h,hs,wv]
end
section
variable{T:Tbl}[Zu T][Zi T]
theorem zmh(n m:Bool)(a b:List UInt32)(ha:a.length<=90000)(hb:b.length<=90000):Za T 23 [wh n a,wh m b]=some (ez (wv n a+wv m b)):=by
 rw[zaa Zi.h23 rfl,b23];by_cases h:n=m
 ·subst h;have hn:=z35 (T:=T) [a,b] (by simp) (by simp;omega);have hs:=zbn (T:=T) n (val a+val b);rw[zks]at hs;have e:lls [a,b]=[[.sl (Zc a) .an],[.sl (Zc b) .an]]:=rfl;have e2:Zg0 [a,b]=val a+val b:=by simp[Zg0]
  rw[e,e2]at hn;simp -implicitDefEqProofs[hn,hs,wv]
 ·have hg:=z8u (T:=T) a b (by omega) (by omega);by_cases hlt:val a<val b
  ·have hs:=zbn (T:=T) m (val b-val a);rw[zp9 h hlt]at hs;simp -implicitDefEqProofs[h,hg,hlt,zd0,hs,wv]
  ·have hs:=zbn (T:=T) n (val a-val b);rw[zqa h hlt]at hs;simp -implicitDefEqProofs[h,hg,hlt,zd0,hs,wv]
end
section
variable{T:Tbl}[Zu T][Zi T]
theorem zmi(n m:Bool)(a b:List UInt32)(ha:a.length<=90000)(hb:b.length<=90000):Za T 25 [wh n a,wh m b]=some (ez (wv n a-wv m b)):=by
 obtain⟨z,hz⟩:∃z,z=-wv m b:=⟨_,rfl⟩;have h1:=zp3 (T:=T) m b (by omega);have hl:=zb7 m b;rw[<-zkt,<-hz]at hl;have h2:=zmh (T:=T) n (decide (z<0)) a (ofN z.natAbs) (by omega) (by omega);have e:wv n a-wv m b=wv n a+z:=by omega
 rw[zkr,<-e]at h2;rw[<-hz]at h1;rw[zaa Zi.h25 rfl,b25];simp -implicitDefEqProofs[h1,h2]
end
section
variable{T:Tbl}[Zy T][Zi T]
def zp4(n m:Bool)(a b:List UInt32)(ha:a.length<=100000)(hb:b.length<=100000):Za T 27 [wh n a,wh m b]=some (ez (wv n a*wv m b)):=by
 have h1:=zfw (T:=T) a b ha hb;have hs:=zbn (T:=T) (n != m) (val a*val b);rw[zto]at hs;rw[zaa Zi.h27 rfl,b27];simp -implicitDefEqProofs[h1,hs,wv]
end
section
variable{T:Tbl}[Zu T][Zi T]
def zh1(n:Bool)(a:List UInt32)(ha:a.length<=1000000):Za T 37 [wh n a]=some (.i .i64 (sgI (wv n a))):=by
 have h1:=zs9 (T:=T) a (by omega);rw[zaa Zi.h37 rfl,b37];unfold wv;rw[z6e];by_cases h:val a=0
 ·simp -implicitDefEqProofs[h1,h]
 ·cases n<;>simp -implicitDefEqProofs[h1,h]
end
section
variable{T:Tbl}[Zu T][Zi T]
theorem zwf(n m:Bool)(a b:List UInt32)(ha:a.length<=90000)(hb:b.length<=90000):Za T 36 [wh n a,wh m b]=some (.i .i64 (sgI (wv n a-wv m b))):=by
 have h1:=zmi (T:=T) n m a b ha hb;have hl:=zcy (x:=wv n a) (y:=-wv m b) (L:=90000) (by have:=zb7 n a;omega) (by rw[zkt];have:=zb7 m b;omega);rw[<-Int.sub_eq_add_neg]at hl;have h2:=zh1 (T:=T) (decide (wv n a-wv m b<0)) (ofN (wv n a-wv m b).natAbs) (show (ofN (wv n a-wv m b).natAbs).length<=1000000 by omega);rw[zkr]at h2;rw[zaa Zi.h36 rfl,b36];simp -implicitDefEqProofs[h1,h2]
end
section
variable{T:Tbl}[Zu T][Zi T]
def z5g(k:Int)(h1:-9223372036854775808<=k)(h2:k<9223372036854775808):Za T 41 [.i .i64 k]=some (ez k):=by
 rw[zaa Zi.h41 rfl,b41];by_cases h:k<0
 ·have hn:=zj7 (T:=T) k.natAbs (by omega);have hs:=zbn (T:=T) true k.natAbs;have e:sg true k.natAbs=k:=by simp[sg];omega
  have e2:Ze0 0 (k%18446744073709551616).toNat=k.natAbs:=by unfold Ze0;omega
  rw[e]at hs;simp -implicitDefEqProofs[h,e2,hn,hs]
 ·have hn:=zj7 (T:=T) k.natAbs (by omega);have hs:=zbn (T:=T) false k.natAbs;have e:sg false k.natAbs=k:=by simp[sg];omega
  have e2:(k%18446744073709551616).toNat=k.natAbs:=by omega
  rw[e]at hs;simp -implicitDefEqProofs[h,e2,hn,hs]
end
section
variable{T:Tbl}[Zu T][Zy T][Z0 T][Zt T][Zp T][Zi T][Zl T][Zs T]
def zra(p q:Int)(hp:(ofN p.natAbs).length<=90000)(hq:(ofN q.natAbs).length<=90000):Za T 23 [ez p,ez q]=some (ez (p+q)):=by
 grind[zmh,zkr]
def zrb(p q:Int)(hp:(ofN p.natAbs).length<=90000)(hq:(ofN q.natAbs).length<=90000):Za T 25 [ez p,ez q]=some (ez (p-q)):=by
 grind[zmi,zkr]
def zrc(p q:Int)(hp:(ofN p.natAbs).length<=90000)(hq:(ofN q.natAbs).length<=90000):Za T 36 [ez p,ez q]=some (.i .i64 (sgI (p-q))):=by
 grind[zwf,zkr]
def zuu(p:Int)(hp:(ofN p.natAbs).length<=1000000):Za T 40 [ez p]=some (ez (-p)):=by
 grind[zp3,zkr]
def zuv{x d:Nat}(h:d≠0):decide (x/Nat.gcd x d≠0)=decide (x≠0):=by
 obtain⟨k,hk⟩:=Nat.gcd_dvd_left x d
 grind[Nat.mul_div_cancel_left,Nat.mul_eq_zero]
def zc5(n:Bool)(a d:List UInt32)(ha:a.length<=90000)(hd:d.length<=90000)(h:val d≠0) :
  Za T 202 [wh n a,.sl (Zc d) .an]=some (efz (fz (mkRat (wv n a) (val d)))):=by
 have e:=zaf3 n (val a) h
 change fz (mkRat (wv n a) (val d))=_ at e
 have hc:=zk6 (T:=T) a d ha hd;have hl:(ofN (val a/Nat.gcd (val a) (val d))).length<=1000000:=by
  have:=zav (Yb9 (val a) (Nat.gcd (val a) (val d)));have:=zac a;omega
 have hn:=zh0 (T:=T) n _ hl;have e2:wv n (ofN (val a/Nat.gcd (val a) (val d)))=sg n (val a/Nat.gcd (val a) (val d)):=by unfold wv;rw[zad]
 rw[e2,z1v,zuv h]at hn;rw[e,zaa Zs.h202 rfl,b202];simp -implicitDefEqProofs[hc,hn]
def zbc(x:Fz)(hx:fsz x<=100000):∃y:Fz,val y.2.2≠0/\fv y=fv x/\fsz y<=max 1 (fsz x)/\Za T 203 [efz x]=some (.tup [wh y.1 y.2.1,.sl (Zc y.2.2) .an]):=by
 obtain⟨n,a,d⟩:=x;have h1:=zda (n,a,d);have h2:=zdh (n,a,d);simp only at h1 h2;have hz:=zs9 (T:=T) d (by omega);by_cases h:val d=0
 ·refine⟨(false,[],[1]),by simp,?_,?_,?_⟩
  ·unfold fv;simp only[h,Yfc]
   rfl
  ·show 1<=_;omega
  ·have ho:=zj7 (T:=T) 1 (by decide);rw[zfh]at ho;rw[zaa Zs.h203 rfl,b203];simp -implicitDefEqProofs[hz,h,ho]
 ·refine⟨(n,a,d),h,rfl,by omega,?_⟩;rw[zaa Zs.h203 rfl,b203];simp -implicitDefEqProofs[hz,h]
def zm0(k:Int)(h1:-9223372036854775808<=k)(h2:k<9223372036854775808):Za T 205 [.i .i64 k]=some (efz (fz (k:Rat))):=by
 have hw:=z5g (T:=T) k h1 h2;have ho:=zj7 (T:=T) 1 (by decide);have e:fz (k:Rat)=(decide (k<0),ofN k.natAbs,ofN 1):=rfl;rw[e,zaa Zs.h205 rfl,b205];simp -implicitDefEqProofs[hw,ho]
def zim:Za T 205 [.i .i64 0]=some (efz (fz 0)):=zm0 0 (by decide) (by decide)
def zs3:Za T 205 [.i .i64 1]=some (efz (fz 1)):=zm0 1 (by decide) (by decide)
def zlz(x:Fz)(hx:fsz x<=90000):Za T 207 [efz x]=some (efz (fz (fv x))):=by
 obtain⟨⟨n,a,d⟩,h1,h2,h3,hp⟩:=zbc (T:=T) x (by omega);have la:=zda (n,a,d);have ld:=zdh (n,a,d);simp only at la ld;have hc:=zc5 (T:=T) n a d (by omega) (by omega) h1;rw[<-h2]
 change _=some (efz (fz (mkRat (wv n a) (val d))))
 rw[zaa Zs.h207 rfl,b207];simp -implicitDefEqProofs[hp,hc]
def zc6(x:Fz)(hx:fsz x<=10000):Za T 207 [efz x]=some (efz (fz (fv x))):=zlz (T:=T) x (Yd hx (by decide))
def zuw(x:Fz)(hx:fsz x<=90000):Za T 209 [efz x]=some (.i .i64 (sgQ (fv x))):=by
 obtain⟨⟨n,a,d⟩,h1,h2,h3,hp⟩:=zbc (T:=T) x (by omega);have la:=zda (n,a,d);simp only at la;have hc:=zh1 (T:=T) n a (by omega);rw[<-h2];unfold fv;rw[z6k h1,zaa Zs.h209 rfl,b209];simp -implicitDefEqProofs[hp,hc]
def zjz(x:Fz)(hx:fsz x<=10000):Za T 209 [efz x]=some (.i .i64 (sgQ (fv x))):=zuw (T:=T) x (Yd hx (by decide))
def zcg(n:Bool)(a d:List UInt32)(ha:a.length<=90000)(hd:d.length<=90000):Za T 210 [wh n a,.sl (Zc d) .an]=some (ez (wv n a*(val d:Int))):=by
 have hm:=zp4 (T:=T) n false a d (by omega) (by omega);rw[show wv false d=(val d:Int) from rfl]at hm;rw[zaa Zs.h210 rfl,b210];simp -implicitDefEqProofs[hm]
def zyr(x x':Fz)(hx:fsz x<=30000)(hx':fsz x'<=30000):Za T 211 [efz x,efz x']=some (.i .i64 (sgQ (fv x-fv x'))):=by
 obtain⟨⟨n,a,d⟩,h1,h2,h3,hp⟩:=zbc (T:=T) x (by omega);obtain⟨⟨m,b,e⟩,h1',h2',h3',hp'⟩:=zbc (T:=T) x' (by omega);have la:=zda (n,a,d);have ld:=zdh (n,a,d);have lb:=zda (m,b,e);have le:=zdh (m,b,e);simp only at la ld lb le;have c1:=zcg (T:=T) n a e (by omega) (by omega);have c2:=zcg (T:=T) m b d (by omega) (by omega);have l1:(ofN (wv n a*(val e:Int)).natAbs).length<=60000:=by
  have:=za5 (x:=wv n a) (y:=(val e:Int)) (L:=30000) (M:=30000) (Yd (zb7 n a) (by omega)) (Yd (zb7 false e) (by omega));omega
 have l2:(ofN (wv m b*(val d:Int)).natAbs).length<=60000:=by
  have:=za5 (x:=wv m b) (y:=(val d:Int)) (L:=30000) (M:=30000) (Yd (zb7 m b) (by omega)) (Yd (zb7 false d) (by omega));omega
 have e1:sgQ (fv x-fv x')=sgI (wv n a*(val e:Int)-wv m b*(val d:Int)):=by
  rw[<-h2,<-h2',Ydp];unfold fv;rw[Rat.neg_mkRat,Ydf _ _ h1 h1',z6k (Ycy h1 h1'),Yfg]
  rfl
 generalize wv n a*(val e:Int)=z1 at *
 generalize wv m b*(val d:Int)=z2 at *
 have c3:=zrc (T:=T) z1 z2 (by omega) (by omega);rw[e1,zaa Zs.h211 rfl,b211];simp -implicitDefEqProofs[hp,hp',c1,c2,c3]
def zux(x x':Fz)(hx:fsz x<=30000)(hx':fsz x'<=30000):Za T 212 [efz x,efz x']=some (.b (decide (fv x=fv x'))):=by
 have hc:=zyr (T:=T) x x' hx hx';have e:(sgQ (fv x-fv x') == 0)=decide (fv x=fv x'):=by
  grind[zd9]
 rw[zaa Zs.h212 rfl,b212];simp -implicitDefEqProofs[hc,e]
def zj0(x x':Fz)(hx:fsz x<=1000)(hx':fsz x'<=1000):Za T 212 [efz x,efz x']=some (.b (decide (fv x=fv x'))):=zux (T:=T) x x' (Yd hx (by decide)) (Yd hx' (by decide))
def zys(x:Fz)(hx:fsz x<=90000):Za T 213 [efz x]=some (efz (fz (-fv x))):=by
 have h1:=zlz (T:=T) x hx;have hl:(ofN (fv x).num.natAbs).length<=1000000:=by
  have:=za2 (x:=x) (L:=90000) hx (by decide);have:=zku (fv x);omega
 have h2:Za T 40 [.agg [.b (decide ((fv x).num<0)),.sl (Zc (ofN (fv x).num.natAbs)) .an]]=some (.agg [.b (decide (-(fv x).num<0)),.sl (Zc (ofN (-(fv x).num).natAbs)) .an]):=zuu (T:=T) (fv x).num hl;generalize fv x=q at *
 have e:fz (-q)=(decide (-q.num<0),ofN (-q.num).natAbs,ofN q.den):=rfl;have e':fz q=(decide (q.num<0),ofN q.num.natAbs,ofN q.den):=rfl;rw[e,zaa Zs.h213 rfl,b213];rw[e']at h1;simp -implicitDefEqProofs[h1,h2]
def z27(x:Fz)(hx:fsz x<=10000):Za T 213 [efz x]=some (efz (fz (-fv x))):=zys (T:=T) x (Yd hx (by decide))
def zyt(x x':Fz)(hx:fsz x<=30000)(hx':fsz x'<=30000):Za T 215 [efz x,efz x']=some (efz (fz (fv x+fv x'))):=by
 obtain⟨⟨n,a,d⟩,h1,h2,h3,hp⟩:=zbc (T:=T) x (by omega);obtain⟨⟨m,b,e⟩,h1',h2',h3',hp'⟩:=zbc (T:=T) x' (by omega);have la:=zda (n,a,d);have ld:=zdh (n,a,d);have lb:=zda (m,b,e);have le:=zdh (m,b,e);simp only at la ld lb le;have c1:=zcg (T:=T) n a e (by omega) (by omega);have c2:=zcg (T:=T) m b d (by omega) (by omega);have c4:=zfw (T:=T) d e (by omega) (by omega);have l1:(ofN (wv n a*(val e:Int)).natAbs).length<=60000:=by
  have:=za5 (x:=wv n a) (y:=(val e:Int)) (L:=30000) (M:=30000) (Yd (zb7 n a) (by omega)) (Yd (zb7 false e) (by omega));omega
 have l2:(ofN (wv m b*(val d:Int)).natAbs).length<=60000:=by
  have:=za5 (x:=wv m b) (y:=(val d:Int)) (L:=30000) (M:=30000) (Yd (zb7 m b) (by omega)) (Yd (zb7 false d) (by omega));omega
 have l3:(ofN (val d*val e)).length<=60000:=by
  have:=za0 (x:=val d) (y:=val e) (L:=30000) (M:=30000) (Yd (zac d) (by omega)) (Yd (zac e) (by omega));omega
 have e1:fv x+fv x'=mkRat (wv n a*(val e:Int)+wv m b*(val d:Int)) (val d*val e):=by
  rw[<-h2,<-h2'];exact Ydf _ _ h1 h1'
 have hne:=Ycy h1 h1';generalize wv n a*(val e:Int)=z1 at *
 generalize wv m b*(val d:Int)=z2 at *
 generalize val d*val e=D at *
 have c3:=zra (T:=T) z1 z2 (by omega) (by omega);have c5:=zc5 (T:=T) (decide (z1+z2<0)) (ofN (z1+z2).natAbs) (ofN D) (by have:=zcy l1 l2;omega) (by omega) (by rw[zad];omega);rw[zkr,zad,<-e1]at c5;rw[zaa Zs.h215 rfl,b215];simp -implicitDefEqProofs[hp,hp',c1,c2,c3,c4,c5]
def zfu(x x':Fz)(hx:fsz x<=1000)(hx':fsz x'<=1000):Za T 215 [efz x,efz x']=some (efz (fz (fv x+fv x'))):=zyt (T:=T) x x' (Yd hx (by decide)) (Yd hx' (by decide))
def zyu(x x':Fz)(hx:fsz x<=30000)(hx':fsz x'<=30000):Za T 216 [efz x,efz x']=some (efz (fz (fv x-fv x'))):=by
 obtain⟨⟨n,a,d⟩,h1,h2,h3,hp⟩:=zbc (T:=T) x (by omega);obtain⟨⟨m,b,e⟩,h1',h2',h3',hp'⟩:=zbc (T:=T) x' (by omega);have la:=zda (n,a,d);have ld:=zdh (n,a,d);have lb:=zda (m,b,e);have le:=zdh (m,b,e);simp only at la ld lb le;have c1:=zcg (T:=T) n a e (by omega) (by omega);have c2:=zcg (T:=T) m b d (by omega) (by omega);have c4:=zfw (T:=T) d e (by omega) (by omega);have l1:(ofN (wv n a*(val e:Int)).natAbs).length<=60000:=by
  have:=za5 (x:=wv n a) (y:=(val e:Int)) (L:=30000) (M:=30000) (Yd (zb7 n a) (by omega)) (Yd (zb7 false e) (by omega));omega
 have l2:(ofN (wv m b*(val d:Int)).natAbs).length<=60000:=by
  have:=za5 (x:=wv m b) (y:=(val d:Int)) (L:=30000) (M:=30000) (Yd (zb7 m b) (by omega)) (Yd (zb7 false d) (by omega));omega
 have l3:(ofN (val d*val e)).length<=60000:=by
  have:=za0 (x:=val d) (y:=val e) (L:=30000) (M:=30000) (Yd (zac d) (by omega)) (Yd (zac e) (by omega));omega
 have e1:fv x-fv x'=mkRat (wv n a*(val e:Int)-wv m b*(val d:Int)) (val d*val e):=by
  rw[<-h2,<-h2',Ydp];unfold fv;rw[Rat.neg_mkRat,Ydf _ _ h1 h1',Yfg]
  rfl
 have hne:=Ycy h1 h1';generalize wv n a*(val e:Int)=z1 at *
 generalize wv m b*(val d:Int)=z2 at *
 generalize val d*val e=D at *
 have c3:=zrb (T:=T) z1 z2 (by omega) (by omega);have c5:=zc5 (T:=T) (decide (z1-z2<0)) (ofN (z1-z2).natAbs) (ofN D) (by
  have:=zcy (x:=z1) (y:=-z2) (L:=60000) l1 (by grind)
  grind) (by omega) (by rw[zad];omega)
 rw[zkr,zad,<-e1]at c5;rw[zaa Zs.h216 rfl,b216];simp -implicitDefEqProofs[hp,hp',c1,c2,c3,c4,c5]
def z28(x x':Fz)(hx:fsz x<=1000)(hx':fsz x'<=1000):Za T 216 [efz x,efz x']=some (efz (fz (fv x-fv x'))):=zyu (T:=T) x x' (Yd hx (by decide)) (Yd hx' (by decide))
def zyv(x x':Fz)(hx:fsz x<=30000)(hx':fsz x'<=30000):Za T 217 [efz x,efz x']=some (efz (fz (fv x*fv x'))):=by
 obtain⟨⟨n,a,d⟩,h1,h2,h3,hp⟩:=zbc (T:=T) x (by omega);obtain⟨⟨m,b,e⟩,h1',h2',h3',hp'⟩:=zbc (T:=T) x' (by omega);have la:=zda (n,a,d);have ld:=zdh (n,a,d);have lb:=zda (m,b,e);have le:=zdh (m,b,e);simp only at la ld lb le;have c3:=zp4 (T:=T) n m a b (by omega) (by omega);have c4:=zfw (T:=T) d e (by omega) (by omega);have l1:(ofN (wv n a*wv m b).natAbs).length<=60000:=by
  have:=za5 (x:=wv n a) (y:=wv m b) (L:=30000) (M:=30000) (Yd (zb7 n a) (by omega)) (Yd (zb7 m b) (by omega));omega
 have l3:(ofN (val d*val e)).length<=60000:=by
  have:=za0 (x:=val d) (y:=val e) (L:=30000) (M:=30000) (Yd (zac d) (by omega)) (Yd (zac e) (by omega));omega
 have e1:fv x*fv x'=mkRat (wv n a*wv m b) (val d*val e):=by
  rw[<-h2,<-h2'];exact Rat.mkRat_mul_mkRat _ _ _ _
 have hne:=Ycy h1 h1';generalize wv n a*wv m b=z at *
 generalize val d*val e=D at *
 have c5:=zc5 (T:=T) (decide (z<0)) (ofN z.natAbs) (ofN D) (by omega) (by omega) (by rw[zad];omega);rw[zkr,zad,<-e1]at c5;rw[zaa Zs.h217 rfl,b217];simp -implicitDefEqProofs[hp,hp',c3,c4,c5]
def zin(x x':Fz)(hx:fsz x<=1000)(hx':fsz x'<=1000):Za T 217 [efz x,efz x']=some (efz (fz (fv x*fv x'))):=zyv (T:=T) x x' (Yd hx (by decide)) (Yd hx' (by decide))
def z79{n m:Bool}{x y:Nat}{d e:Nat}(hy:y≠0) :
  mkRat (sg n x) d/mkRat (sg m y) e=mkRat (sg (decide (sg n x*(e:Int)<0) != m) (sg n x*(e:Int)).natAbs) (d*y):=by
 have h1:sg (decide (sg n x*(e:Int)<0) != m) (sg n x*(e:Int)).natAbs=sg n x*(e:Int)*sg m 1:=by
  grind[sg]
 rw[h1,Yd6,<-Ycp,<-Ycp,<-Ycp,Rat.inv_divInt,Rat.divInt_mul_divInt];cases m
 ·grind[sg]
 ·simp only[sg,if_true,Ye6,Int.mul_neg,Int.mul_one,Ydk];rw[<-Rat.neg_divInt_neg,Int.neg_neg]
def zyw(x x':Fz)(hx:fsz x<=30000)(hx':fsz x'<=30000):Za T 218 [efz x,efz x']=some (.tup [efz (fz (fv x/fv x')),.b (decide (fv x'≠0))]):=by
 obtain⟨⟨n,a,d⟩,h1,h2,h3,hp⟩:=zbc (T:=T) x (by omega);obtain⟨⟨m,b,e⟩,h1',h2',h3',hp'⟩:=zbc (T:=T) x' (by omega);have la:=zda (n,a,d);have ld:=zdh (n,a,d);have lb:=zda (m,b,e);have le:=zdh (m,b,e);simp only at la ld lb le;have cs:=zh1 (T:=T) m b (by omega);rw[show wv m b=sg m (val b) from rfl,z6e]at cs;by_cases hb:val b=0
 ·have e0:fv x'=0:=by
   rw[<-h2'];unfold fv;rw[Yek h1'];show sg m (val b)=0;rw[hb];cases m<;>rfl
  have ho:=zim (T:=T);rw[if_pos hb]at cs;rw[e0,Yd6,Rat.inv_zero,Rat.mul_zero,zaa Zs.h218 rfl,b218];clear h1 h2 h3 h1' h2' h3' e0;generalize fz 0=R at *
  simp -implicitDefEqProofs[hp,hp',cs,ho]
 ·rw[if_neg hb]at cs;have c1:=zcg (T:=T) n a e (by omega) (by omega);have c4:=zfw (T:=T) d b (by omega) (by omega);have l1:(ofN (wv n a*(val e:Int)).natAbs).length<=60000:=by
   have:=za5 (x:=wv n a) (y:=(val e:Int)) (L:=30000) (M:=30000) (Yd (zb7 n a) (by omega)) (Yd (zb7 false e) (by omega));omega
  have l3:(ofN (val d*val b)).length<=60000:=by
   have:=za0 (x:=val d) (y:=val b) (L:=30000) (M:=30000) (Yd (zac d) (by omega)) (Yd (zac b) (by omega));omega
  have hne0:fv x'≠0:=by
   rw[<-h2'];unfold fv;rw[Ne,Yek h1'];show ¬ sg m (val b)=0;cases m<;>simp[sg,hb]
  have e1:fv x/fv x'=mkRat (sg (decide (wv n a*(val e:Int)<0) != m) (wv n a*(val e:Int)).natAbs) (val d*val b):=by
   rw[<-h2,<-h2'];exact z79 hb
  have hne:=Ycy h1 hb;generalize wv n a*(val e:Int)=z at *
  generalize val d*val b=D at *
  have c5:=zc5 (T:=T) (decide (z<0) != m) (ofN z.natAbs) (ofN D) (by omega) (by omega) (by rw[zad];omega);rw[show wv (decide (z<0) != m) (ofN z.natAbs)=sg (decide (z<0) != m) z.natAbs by unfold wv;rw[zad],zad,<-e1]at c5;have hdec:decide (fv x'≠0)=true:=by grind
  have hs:((if m=true then (-1:Int) else 1) == 0)=false:=by grind
  rw[hdec];rw[zaa Zs.h218 rfl,b218];simp -implicitDefEqProofs[hp,hp',cs,c1,c4,c5,hs]
def z29(x x':Fz)(hx:fsz x<=1000)(hx':fsz x'<=1000):Za T 218 [efz x,efz x']=some (.tup [efz (fz (fv x/fv x')),.b (decide (fv x'≠0))]):=zyw (T:=T) x x' (Yd hx (by decide)) (Yd hx' (by decide))
end
def nrm(l:List Fz):List Fz:=l.map fun x=>fz (fv x)
def fzs(l:List Rat):List Fz:=l.map fz
def za6{m:List Fz}{n:Nat}(h:m.length=n)(x:Fz):wkL (Zb (List.take n m)++[Zau x])=Zb (m++[x]):=by
 rw[Ya (by omega),zd3,zey]
def zdg{α β:Type}(l:List α)(f:α->β){i:Nat}(h:i<l.length):(l.take (i+1)).map f=(l.take i).map f++[f (l[i]'h)]:=by
 grind[List.take_succ_eq_append_getElem]
def Zql(q:Rat):List UInt8:=if q.den=1 then Zo5 q.num else Zo5 q.num++47::Zkh q.den
@[simp] def zafo:Zlm []=[]:=rfl
section
variable{T:Tbl}[Zu T][Zy T][Z0 T][Zt T][Zp T][Zbd T][Zi T][Zl T][Zs T][Zba T][Zbt T]
def Znt(n i:Nat):St:=⟨[(3,.bs (.loc 9) 1 3 0 n),(10,.i .i64 n),(11,.i .i64 i)],[(.loc 9,⟨1,.own,3,Zb (List.replicate i (fz 0))++List.replicate (n-i) [.b false,.sl [] .an,.sl [] .an]⟩)],3⟩
def z0y(n:Nat)(hn:n<=300):Ze T 0 0 (.norm false [3]) l263_0 (Znt n 0)=some (.n,⟨[(3,.bs (.loc 9) 1 3 0 n)],[(.loc 9,⟨1,.own,3,Zb (List.replicate n (fz 0))⟩)],3⟩):=by
 refine zag (Znt n) n _ (fun i hi=>?_) ?_
 ·have h0:=zim (T:=T);have hw:=zaw hi (by omega);have e:(Zb (List.replicate i (fz 0))++List.replicate (n-i) [AV.b false,.sl [] .an,.sl [] .an]).set i (Zau (fz 0))=Zb (List.replicate (i+1) (fz 0))++List.replicate (n-(i+1)) [AV.b false,.sl [] .an,.sl [] .an]:=by
   rw[Yav _ _ (by simp),zex,Yz,Ybx,show n-i=(n-(i+1))+1 by omega,Ycn (n:=n-(i+1)),Yb4,Ydz (n:=i),<-zd3,Ybk]
   rfl
  have hl:(Zb (List.replicate i (fz 0))++List.replicate (n-i) [AV.b false,.sl [] .an,.sl [] .an]).length=n:=by simp;omega
  have hk:wkL ((Zb (List.replicate i (fz 0))++List.replicate (n-i) [AV.b false,.sl [] .an,.sl [] .an]).set i (Zau (fz 0)))=(Zb (List.replicate i (fz 0))++List.replicate (n-i) [AV.b false,.sl [] .an,.sl [] .an]).set i (Zau (fz 0)):=by
   rw[e,zb8,Yb2,<-zb8,zey]
   simp_all
  have hg:(Zb (List.replicate i (fz 0))++List.replicate (n-i) [AV.b false,.sl [] .an,.sl [] .an])[i]? = some [AV.b false,.sl [] .an,.sl [] .an]:=by
   grind
  unfold Znt;rw[<-e];generalize Zb (List.replicate i (fz 0))++List.replicate (n-i) [AV.b false,.sl [] .an,.sl [] .an]=B at *
  obtain⟨hb,hgE⟩:=Yc.1 hg;simp -implicitDefEqProofs[l263_0,hi,hw,h0,hl,hk,hgE]
 ·have e:Zb (List.replicate n (fz 0))++List.replicate (n-n) [AV.b false,.sl [] .an,.sl [] .an]=Zb (List.replicate n (fz 0)):=by simp
  unfold Znt;constructor<;>simp -implicitDefEqProofs[l263_0]
def zpz(n:Nat)(hn:n<=300):Z4 T 2263 [.i .i64 n] []=some (.bs (.loc 9) 1 3 0 n,[(.loc 9,⟨1,.own,3,Zb (List.replicate n (fz 0))⟩)]):=by
 have h:=z0y (T:=T) n hn;rw[show l263_0=l2263_0 from rfl]at h;unfold Znt at h;simp only[Ydg,zay,Yau,Ye8,Yp]at h;have m1:¬ (n:Int)<0:=by omega
 have m2:¬ (300:Int)<n:=by omega
 have m3:(n:Int)<=4294967296:=by omega
 have hz:wkL (List.replicate n [AV.b false,.sl [] .nl,.sl [] .nl])=List.replicate n [AV.b false,.sl [] .an,.sl [] .an]:=by rw[zb8,List.map_replicate];simp_all
 rw[zam Zbt.h2263 rfl,b2263];simp -implicitDefEqProofs[m1,m2,m3,h,mm2,hz]
def Znu(l:List Fz)(i:Nat):St:=⟨[(3,.bs (.loc 3) 1 3 0 i),(6,.sl (Zb l) .an),(7,.i .i64 l.length),(8,.i .i64 i)],[(.loc 3,⟨1,.own,3,Zb (nrm (l.take i))⟩)],3⟩
def z0z(l:List Fz)(hl:l.length<=1000)(hw:∀x∈l,fsz x<=1000) :
  Ze T 0 0 (.norm false [3]) l266_0 (Znu l 0)=some (.n,⟨[(3,.bs (.loc 3) 1 3 0 l.length)],[(.loc 3,⟨1,.own,3,Zb (nrm l)⟩)],3⟩):=by
 refine zag (Znu l) l.length _ (fun i hi=>?_) ?_
 ·have hws:=zaw hi (by omega);have hn:=zc6 (T:=T) (l[i]'hi) (Yd (hw _ (Yi hi)) (by decide));have e:nrm (l.take (i+1))=nrm (l.take i)++[fz (fv (l[i]'hi))]:=zdg l _ hi;have hp:=za6 (m:=nrm (l.take i)) (n:=i) (by simp[nrm];omega) (fz (fv (l[i]'hi)));have hml:(nrm (l.take i)).length=i:=by simp[nrm];omega
  unfold Znu;rw[e];have hb:i<=4294967295:=by omega
  simp -implicitDefEqProofs[l266_0,hi,hws,hn,hp,hml,hb]
 ·unfold Znu;rw[Ya (Ye _)];constructor<;>simp -implicitDefEqProofs[l266_0]
def zp0(l:List Fz)(hl:l.length<=1000)(hw:∀x∈l,fsz x<=1000):Z4 T 2266 [.sl (Zb l) .an] []=some (.bs (.loc 3) 1 3 0 l.length,[(.loc 3,⟨1,.own,3,Zb (nrm l)⟩)]):=by
 have h:=z0z (T:=T) l hl hw;rw[show l266_0=l2266_0 from rfl]at h;unfold Znu at h;simp[nrm]at h;rw[zam Zbt.h2266 rfl,b2266];simp -implicitDefEqProofs[h,nrm]
def scl(c:Rat)(l:List Fz):List Fz:=l.map fun x=>fz (c*fv x)
def Znv(c:Fz)(l:List Fz)(i:Nat):St:=⟨[(2,.ptr (.loc 2) 1 3 0 0),(5,.bs (.loc 5) 2 3 0 i),(8,.sl (Zb l) .an),(9,.i .i64 l.length),(10,.i .i64 i)],[(.loc 2,⟨1,.str,3,[Zau c]⟩),(.loc 5,⟨2,.own,3,Zb (scl (fv c) (l.take i))⟩)],4⟩
def zv7(c:Fz)(hc:fsz c<=1000)(l:List Fz)(hl:l.length<=1000)(hw:∀x∈l,fsz x<=1000) :
  Ze T 0 0 (.norm false [5]) l269_0 (Znv c l 0)=some (.n,⟨[(5,.bs (.loc 5) 1 3 0 l.length)],[(.loc 5,⟨1,.own,3,Zb (scl (fv c) l)⟩)],3⟩):=by
 refine zag (Znv c l) l.length _ (fun i hi=>?_) ?_
 ·have hws:=zaw hi (by omega);have hn:=zin (T:=T) c (l[i]'hi) hc (hw _ (Yi hi));have e:scl (fv c) (l.take (i+1))=scl (fv c) (l.take i)++[fz (fv c*fv (l[i]'hi))]:=zdg l _ hi;have hml:(scl (fv c) (l.take i)).length=i:=by simp[scl];omega
  have hp:=za6 hml (fz (fv c*fv (l[i]'hi)));unfold Znv;rw[e];have hb:i<=4294967295:=by omega
  simp -implicitDefEqProofs[l269_0,hi,hws,hn,hp,hml,hb]
 ·unfold Znv;rw[Ya (Ye _)];constructor<;>simp -implicitDefEqProofs[l269_0]
def zhc(c:Fz)(hc:fsz c<=1000)(l:List Fz)(hl:l.length<=1000)(hw:∀x∈l,fsz x<=1000):Za T 269 [efz c,.sl (Zb l) .an]=some (.sl (Zb (scl (fv c) l)) .an):=by
 have h:=zv7 (T:=T) c hc l hl hw;unfold Znv at h;have e:scl (fv c) (l.take 0)=[]:=rfl;rw[e]at h;simp at h;have ht:List.take l.length (scl (fv c) l)=scl (fv c) l:=Ya (by simp[scl]);have hl2:(scl (fv c) l).length=l.length:=by simp[scl]
 rw[zaa Zbt.h269 rfl,b269];simp -implicitDefEqProofs[h,ht,hl2]
def Zpw:List Fz->List Fz->Rat
 | x::a,y::b=>fv x*fv y+Zpw a b
 | _,_=>0
def Zqm(a b:List Fz)(i:Nat):Rat:=Zpw (a.take i) (b.take i)
abbrev Zfb:List AV:=[.b false,.sl [] .an,.sl [] .an]
def Zue(a b:List Fz)(i:Nat):St:=⟨[(1,.sl (Zb b) .an),(4,.ptr (.loc 4) 1 3 0 0),(6,.ptr (.loc 6) 2 3 0 0),(16,.sl (Zb a) .an),(17,.i .i64 a.length),(18,.i .i64 i)],
 [(.loc 4,⟨1,.str,3,[Zfb]⟩),(.loc 6,⟨2,.str,3,[Zau (fz (Zqm a b i))]⟩)],4⟩
def Zuf(a b:List Fz)(i:Nat):St:=⟨[(0,.sl (Zb a) .an),(1,.sl (Zb b) .an),(12,.i .i64 a.length),(13,.i .i64 i)],[],2⟩
def Zrz(l:List Fz):List (List UInt8):=l.map fun x=>Zql (fv x)
def Zug(l:List Fz)(i:Nat):St:=⟨[(3,.bs (.loc 3) 1 1 0 i),(6,.sl (Zb l) .an),(7,.i .i64 l.length),(8,.i .i64 i)],[(.loc 3,⟨1,.own,1,Zlm (Zrz (l.take i))⟩)],3⟩
end
def zte{α:Type}{L acc:List α}(hl:L.length=acc.length){i:Nat}(h:i<L.length) :
  (L.take i++acc.drop i).set i (L[i]'h)=L.take (i+1)++acc.drop (i+1):=by
 rw[Yav _ _ (by simp;omega),Y3,Yb3 (by omega),Ybx,Yg (show i<acc.length by omega),Yb4,Y4 h,Ybk]
 rfl
def z00{α:Type}{L acc:List α}(hl:L.length=acc.length){i:Nat}(h:i<L.length):(L.take i++acc.drop i)[i]? = some (acc[i]'(by omega)):=by
 rw[Ym (by simp;omega),Y3,Yb3 (by omega),Ybx,Ya0,Yad,Yb]
def zhy{l:List Rat}{i:Nat}{q:Rat}(h:l[i]? = some q):(fzs l)[i]? = some (fz q):=by
 unfold fzs;rw[Yaf,h]
 rfl
def z01(l:List Rat)(i:Nat)(q:Rat):(fzs l).set i (fz q)=fzs (l.set i q):=by
 unfold fzs;rw[Yed]
@[simp] def zae(l:List Rat):(fzs l).length=l.length:=by simp[fzs]
def zrt(l:List Fz):nrm l=fzs (l.map fv):=by unfold nrm fzs;rw[Ybh];rfl
def z9j(c:Rat)(l:List Fz):scl c l=fzs (l.map fun x=>c*fv x):=by unfold scl fzs;rw[Ybh];rfl
@[simp] def zff(l:List Rat):(fzs l).map fv=l:=by unfold fzs;rw[Ybh];simp[Function.comp_def]
def Zdq(c:Rat)(acc:List Rat)(r:List Fz):List Rat:=List.zipWith (fun q x=>q+c*fv x) acc r
def Zbm(acc:List Rat)(r:List Fz):List Rat:=List.zipWith (fun q x=>q+fv x) acc r
def zgm{acc:List Rat}{r:List Fz}(h:r.length=acc.length):(Zbm acc r).length=acc.length:=by simp[Zbm,h]
def zew{c:Rat}{acc:List Rat}{r:List Fz}(h:r.length=acc.length):(Zdq c acc r).length=acc.length:=by simp[Zdq,h]
def z02{acc:List Rat}{r:List Fz}(h:r.length=acc.length):Zdq 0 acc r=acc:=by
 unfold Zdq
 induction acc generalizing r with
 | nil=>simp
 | cons q acc ih=>
  cases r with
  | nil=>simp at h
  | cons x r=>simp[Rat.zero_mul,Rat.add_zero];simpa[Rat.zero_mul,Rat.add_zero]using ih (by simpa using h)
def z03{acc:List Rat}{r:List Fz}{S B:Nat}(ha:∀q∈acc,sz q<=S)(hr:∀x∈r,fsz x<=B)(hB:1<=B):∀q∈Zbm acc r,sz q<=S+(B+1):=by
 intro q hq;obtain⟨i,hi,rfl⟩:=Ydh hq;simp only[Zbm,Yco]at hi;simp only[Zbm,Yck];have h1:=ha _ (Yi (show i<acc.length by omega));have h2:=za2 (hr _ (Yi (show i<r.length by omega))) hB;have h3:=zez (acc[i]'(by omega)) (fv (r[i]'(by omega)));omega
def z9k{c:Rat}{acc:List Rat}{r:List Fz}{S B:Nat}(hc:sz c<=B)(ha:∀q∈acc,sz q<=S)(hr:∀x∈r,fsz x<=B)(hB:1<=B):∀q∈Zdq c acc r,sz q<=S+(2*B+1):=by
 intro q hq;obtain⟨i,hi,rfl⟩:=Ydh hq;simp only[Zdq,Yco]at hi;simp only[Zdq,Yck];have h1:=ha _ (Yi (show i<acc.length by omega));have h2:=za2 (hr _ (Yi (show i<r.length by omega))) hB;have h3:=zd8 c (fv (r[i]'(by omega)));have h4:=zez (acc[i]'(by omega)) (c*fv (r[i]'(by omega)));omega
section
variable{T:Tbl}[Zu T][Zy T][Z0 T][Zt T][Zp T][Zbd T][Zi T][Zl T][Zs T][Zba T][Zbt T]
def Znw(k j n:Nat)(rest:List (List Fz))(r:List Fz)(L acc:List Rat)(i:Nat):St:=
 ⟨[(4,.bs (.fld (.loc 15) 3) 1 3 0 n),(17,.sl (Zd rest) .an),(18,.i .i64 k),(19,.i .i64 j),(28,.sl (Zb r) .an),(29,.i .i64 n),(30,.i .i64 i)],
  [(.fld (.loc 15) 3,⟨1,.own,3,Zb (fzs (L.take i++acc.drop i))⟩)],3⟩
def z04(k j n i:Nat)(rest:List (List Fz))(r M:List Fz)(x y z:Fz)(hi:i<n)(hn:n<=1000)(hir:i<r.length)(hg:r[i]? = some x)(c1:Za T 215 [efz y,efz x]=some (efz z))(hge:M[i]? = some y)(hml:M.length=n) :
  evX (orc T) T 0 l267_0 ⟨[(4,.bs (.fld (.loc 15) 3) 1 3 0 n),(17,.sl (Zd rest) .an),(18,.i .i64 k),(19,.i .i64 j),(28,.sl (Zb r) .an),(29,.i .i64 n),(30,.i .i64 i)],[(.fld (.loc 15) 3,⟨1,.own,3,Zb M⟩)],3⟩ =
   some (.n,⟨[(4,.bs (.fld (.loc 15) 3) 1 3 0 n),(17,.sl (Zd rest) .an),(18,.i .i64 k),(19,.i .i64 j),(28,.sl (Zb r) .an),(29,.i .i64 n),(30,.i .i64 (i+1:Nat))],[(.fld (.loc 15) 3,⟨1,.own,3,Zb (M.set i z)⟩)],3⟩):=by
 have hws:=zaw hi (by omega);have hi':(i:Int)<n:=by omega
 obtain⟨_,hgE⟩:=Yc.1 hge;obtain⟨_,hgR⟩:=Yc.1 hg;have hset:=ztp M i z;simp -implicitDefEqProofs[l267_0,hi,hi',hir,hg,hgR,hws,c1,hge,hgE,hml,hset]
def z05(k j:Nat)(rest:List (List Fz))(r:List Fz)(acc:List Rat)(hr:r.length=acc.length)(hn:acc.length<=1000){S B:Nat}
  (ha:∀q∈acc,sz q<=S) (hw:∀x∈r,fsz x<=B) (hB:1<=B) (hS:S+(B+1)<=1000) :
  Ze T 0 2 (.norm false [4,17,18,19]) l267_0 (Znw k j acc.length rest r (Zbm acc r) acc 0) =
   some (.n,⟨[(4,.bs (.fld (.loc 15) 3) 1 3 0 acc.length),(17,.sl (Zd rest) .an),(18,.i .i64 k),(19,.i .i64 j)],[(.fld (.loc 15) 3,⟨1,.own,3,Zb (fzs (Zbm acc r))⟩)],3⟩):=by
 have hL:=zgm hr;refine zag (Znw k j acc.length rest r (Zbm acc r) acc) acc.length _ (fun i hi=>?_) ?_
 ·have hir:i<r.length:=by omega
  have s1:=ha _ (Yi hi);have s2:=hw _ (Yi hir);have c1:=zfu (T:=T) (fz (acc[i]'hi)) (r[i]'hir) (by rw[zax];omega) (by omega);have e1:(Zbm acc r)[i]'(by omega)=acc[i]'hi+fv (r[i]'hir):=by simp[Zbm]
  rw[zb6,<-e1]at c1;have hu:=congrArg fzs (zte hL (show i<(Zbm acc r).length by omega));rw[<-z01]at hu;unfold Znw;rw[<-hu];exact z04 k j _ i rest r _ _ _ _ hi hn hir (Yb hir) c1 (zhy (z00 hL (show i<(Zbm acc r).length by omega))) (by simp;omega)
 ·have e:(Zbm acc r).take acc.length++acc.drop acc.length=Zbm acc r:=by rw[Ya (by omega),Yw,Ya9]
  unfold Znw;rw[e];generalize fzs (Zbm acc r)=M at *
  constructor<;>simp -implicitDefEqProofs[l267_0]
def Znx(n:Nat)(rest:List (List Fz))(acc:List Rat)(j:Nat):St:=
 ⟨[(4,.bs (.fld (.loc 15) 3) 1 3 0 n),(17,.sl (Zd rest) .an),(18,.i .i64 rest.length),(19,.i .i64 j)],[(.fld (.loc 15) 3,⟨1,.own,3,Zb (fzs ((rest.take j).foldl Zbm acc))⟩)],3⟩
theorem z06{B:Nat}(hB:1<=B):∀(l:List (List Fz)) (acc:List Rat) (S:Nat),(∀q∈acc,sz q<=S)->(∀r∈l,∀x∈r,fsz x<=B)->∀q∈l.foldl Zbm acc,sz q<=S+l.length*(B+1)
 | [],acc,S,ha,_=>by simpa using ha
 | r::l,acc,S,ha,hw=>by
  intro q hq;have:=z06 hB l (Zbm acc r) (S+(B+1)) (z03 ha (hw r Yu) hB) (fun r hr=>hw r (Yn _ hr)) q hq;rw[Yr,Ydj];omega
theorem znj:∀(l:List (List Fz)) (acc:List Rat),(∀r∈l,r.length=acc.length)->(l.foldl Zbm acc).length=acc.length
 | [],_,_=>rfl
 | r::l,acc,h=>by
  have h1:=zgm (h r Yu);have:=znj l (Zbm acc r) (fun r hr=>by rw[h1];exact h r (Yn _ hr));rw[Ye3,this,h1]
def z07(rest:List (List Fz))(acc:List Rat)(hn:acc.length<=1000)(hk:rest.length<=1000){S B:Nat}
  (ha:∀q∈acc,sz q<=S) (hw:∀r∈rest,∀x∈r,fsz x<=B) (hB:1<=B) (hS:S+rest.length*(B+1)<=1000) (hall:∀r∈rest,r.length=acc.length) :
  Ze T 0 0 (.norm false [4]) l267_1 (Znx acc.length rest acc 0)=some (.n,⟨[(4,.bs (.fld (.loc 15) 3) 1 3 0 acc.length)],[(.fld (.loc 15) 3,⟨1,.own,3,Zb (fzs (rest.foldl Zbm acc))⟩)],3⟩):=by
 refine zag (Znx acc.length rest acc) rest.length _ (fun j hj=>?_) ?_
 ·have hg:rest[j]? = some (rest[j]'hj):=Yb hj;have hws:=zaw hj (by omega);have hm:=Yi hj;have hlen:=znj (rest.take j) acc (fun r hr=>hall r (Yay hr));have hr:(rest[j]'hj).length=acc.length:=hall _ hm;have hsz:=z06 hB (rest.take j) acc S ha (fun r hr=>hw r (Yay hr));rw[Y3,Yb3 (by omega)]at hsz;have hj2:(j+1)*(B+1)<=rest.length*(B+1):=Yaa _ hj;rw[Ydj]at hj2;have hin:=z05 (T:=T) rest.length j rest (rest[j]'hj) ((rest.take j).foldl Zbm acc) (by omega) (by omega) hsz (hw _ hm) hB (by omega);have e:(rest.take (j+1)).foldl Zbm acc=Zbm ((rest.take j).foldl Zbm acc) (rest[j]'hj):=by
   rw[Y4 hj,List.foldl_append];rfl
  unfold Znx;rw[e];unfold Znw at hin;rw[Yaz,Y6,Yau,hlen]at hin;clear e hsz hlen hj2;generalize fzs ((rest.take j).foldl Zbm acc)=M at *
  generalize fzs (Zbm ((rest.take j).foldl Zbm acc) (rest[j]'hj))=M' at *
  generalize acc.length=n at *
  simp only[Yp]at hin;have hr':((rest[j]'hj).length:Int)=n:=by omega
  simp -implicitDefEqProofs[l267_1,hj,hg,hws,hin,hr,hr']
 ·unfold Znx;rw[Ya (Ye _)];generalize fzs (rest.foldl Zbm acc)=M at *
  constructor<;>simp -implicitDefEqProofs[l267_1]
def z08(r0:List Fz)(rest:List (List Fz))(hn:r0.length<=1000)(hk:rest.length<=1000){B:Nat}(hw0:∀x∈r0,fsz x<=B)(hw:∀r∈rest,∀x∈r,fsz x<=B)(hB:1<=B)
  (hS:B+rest.length*(B+1)<=1000) (hall:∀r∈rest,r.length=r0.length) :
  Za T 267 [.sl (Zd (r0::rest)) .an]=some (.tup [.sl (Zb (fzs (rest.foldl Zbm (r0.map fv)))) .an,.b true]):=by
 have hno:=zp0 (T:=T) r0 hn (fun x hx=>Yd (hw0 x hx) (by omega));rw[zrt]at hno;have h:=z07 (T:=T) rest (r0.map fv) (by simpa using hn) hk (S:=B) (by
  intro q hq;obtain⟨x,hx,rfl⟩:=Yl.1 hq;exact za2 (hw0 x hx) hB) hw hB hS (by simpa using hall)
 have hfl:=znj rest (r0.map fv) (by simpa using hall);unfold Znx at h;rw[Yaz,List.foldl_nil]at h;rw[Yk]at h hfl;have hl2:(fzs (rest.foldl Zbm (r0.map fv))).length=r0.length:=by rw[zae];exact hfl
 have ht:List.take r0.length (fzs (rest.foldl Zbm (r0.map fv)))=fzs (rest.foldl Zbm (r0.map fv)):=Ya (by omega);rw[zaa Zbt.h267 rfl,b267];clear hw0 hw hS hall hfl;generalize fzs (rest.foldl Zbm (r0.map fv))=M at *
 generalize fzs (r0.map fv)=N at *
 have e1:(Zd (r0::rest))[0]? = some [.sl (Zb r0) .an]:=rfl;have e2:(Zd (r0::rest)).length=rest.length+1:=by simp
 have e4:¬ (rest.length:Int)+1=0:=by omega
 have e7:Option.all (fun r:List AV=>decide (r.length=1)) (Zd (r0::rest)).head? = true:=rfl;have e8:(List.take (rest.length+1) (Zd (r0::rest))).tail=Zd rest:=by rw[Ya (by simp)];rfl
 have e6:(1:Int)<=(rest.length:Int)+1:=by omega
 generalize Zd (r0::rest)=RR at *
 obtain⟨_,e5⟩:=Yc.1 e1;simp only[Yp]at h;simp -implicitDefEqProofs[hno,h,hl2,ht,e1,e2,e4,e5,e6,e7,e8]
end
def Zd3(p:List (Fz×List Fz))(acc:List Rat):List Rat:=p.foldl (fun a q=>Zdq (fv q.1) a q.2) acc
theorem ziq:∀(p:List (Fz×List Fz)) (acc:List Rat),(∀q∈p,q.2.length=acc.length)->(Zd3 p acc).length=acc.length
 | [],_,_=>rfl
 | q::p,acc,h=>by
  have h1:=zew (c:=fv q.1) (h q Yu);have:=ziq p (Zdq (fv q.1) acc q.2) (fun r hr=>by rw[h1];exact h r (Yn _ hr));unfold Zd3 at this ⊢;rw[Ye3,this,h1]
theorem zzo{B:Nat}(hB:1<=B):∀(p:List (Fz×List Fz)) (acc:List Rat) (S:Nat),(∀q∈acc,sz q<=S)->(∀q∈p,fsz q.1<=B/\∀x∈q.2,fsz x<=B)->∀q∈Zd3 p acc,sz q<=S+p.length*(2*B+1)
 | [],acc,S,ha,_=>by simpa[Zd3]using ha
 | r::p,acc,S,ha,hw=>by
  intro q hq;have hr:=hw r Yu;have:=zzo hB p (Zdq (fv r.1) acc r.2) (S+(2*B+1)) (z9k (za2 hr.1 hB) ha hr.2 hB) (fun r hr=>hw r (Yn _ hr)) q hq;rw[Yr,Ydj];omega
def zzp(p:List (Fz×List Fz))(acc:List Rat){k:Nat}(hk:k<p.length):Zd3 (p.take (k+1)) acc=Zdq (fv (p[k]'hk).1) (Zd3 (p.take k) acc) (p[k]'hk).2:=by
 grind[Zd3,List.take_succ_eq_append_getElem]
section
variable{T:Tbl}[Zu T][Zy T][Z0 T][Zt T][Zp T][Zbd T][Zi T][Zl T][Zs T][Zba T][Zbt T]
def z30(C:List Fz)(k j n i:Nat)(l:List (List Fz))(r M:List Fz)(cf x w y z:Fz)(hi:i<n)(hn:n<=1000)(hck:C[k]? = some cf)(hir:i<r.length)(hg:r[i]? = some x)(c0:Za T 217 [efz cf,efz x]=some (efz w))
  (c1:Za T 215 [efz y,efz w]=some (efz z)) (hge:M[i]? = some y) (hml:M.length=n) :
  evX (orc T) T 0 l271_1 ⟨[(0,.sl (Zb C) .an),(10,.bs (.fld (.loc 40) 9) 1 3 0 n),(11,.i .i64 k),(41,.sl (Zd l) .an),(42,.i .i64 j),(43,.i .i64 k),(54,.sl (Zb r) .an),(55,.i .i64 n),(56,.i .i64 i)],[(.fld (.loc 40) 9,⟨1,.own,3,Zb M⟩)],3⟩ =
   some (.n,⟨[(0,.sl (Zb C) .an),(10,.bs (.fld (.loc 40) 9) 1 3 0 n),(11,.i .i64 k),(41,.sl (Zd l) .an),(42,.i .i64 j),(43,.i .i64 k),(54,.sl (Zb r) .an),(55,.i .i64 n),(56,.i .i64 (i+1:Nat))],[(.fld (.loc 40) 9,⟨1,.own,3,Zb (M.set i z)⟩)],3⟩):=by
 have hws:=zaw hi (by omega);have hi':(i:Int)<n:=by omega
 obtain⟨hkl,hgC⟩:=Yc.1 hck;obtain⟨_,hgE⟩:=Yc.1 hge;obtain⟨_,hgR⟩:=Yc.1 hg;have hkl':(k:Int)<C.length:=by omega
 have hset:=ztp M i z;simp -implicitDefEqProofs[l271_1,hi,hi',hir,hgR,hws,hkl,hkl',hgC,c0,c1,hgE,hml,hset]
def Zng(C:List Fz)(k j n:Nat)(l:List (List Fz))(r:List Fz)(L acc:List Rat)(i:Nat):St:=
 ⟨[(0,.sl (Zb C) .an),(10,.bs (.fld (.loc 40) 9) 1 3 0 n),(11,.i .i64 k),(41,.sl (Zd l) .an),(42,.i .i64 j),(43,.i .i64 k),(54,.sl (Zb r) .an),(55,.i .i64 n),(56,.i .i64 i)],
  [(.fld (.loc 40) 9,⟨1,.own,3,Zb (fzs (L.take i++acc.drop i))⟩)],3⟩
def zzq(C:List Fz)(k j:Nat)(l:List (List Fz))(r:List Fz)(cf:Fz)(hck:C[k]? = some cf)(acc:List Rat)(hr:r.length=acc.length)(hn:acc.length<=1000){S B:Nat}
  (ha:∀q∈acc,sz q<=S) (hc:fsz cf<=B) (hw:∀x∈r,fsz x<=B) (hB:1<=B) (hS:S+(2*B+1)<=1000) :
  Ze T 0 4 (.norm false [0,10,41,42,43]) l271_1 (Zng C k j acc.length l r (Zdq (fv cf) acc r) acc 0) =
   some (.n,⟨[(0,.sl (Zb C) .an),(10,.bs (.fld (.loc 40) 9) 1 3 0 acc.length),(41,.sl (Zd l) .an),(42,.i .i64 j),(43,.i .i64 k)],[(.fld (.loc 40) 9,⟨1,.own,3,Zb (fzs (Zdq (fv cf) acc r))⟩)],3⟩):=by
 have hL:=zew (c:=fv cf) hr;refine zag (Zng C k j acc.length l r (Zdq (fv cf) acc r) acc) acc.length _ (fun i hi=>?_) ?_
 ·have hir:i<r.length:=by omega
  have s1:=ha _ (Yi hi);have s2:=hw _ (Yi hir);have c0:=zin (T:=T) cf (r[i]'hir) (by omega) (by omega);have s3:=zd8 (fv cf) (fv (r[i]'hir));have s4:=za2 hc hB;have s5:=za2 s2 hB;have c1:=zfu (T:=T) (fz (acc[i]'hi)) (fz (fv cf*fv (r[i]'hir))) (by rw[zax];omega) (by rw[zax];omega);have e1:(Zdq (fv cf) acc r)[i]'(by omega)=acc[i]'hi+fv cf*fv (r[i]'hir):=by simp[Zdq]
  rw[zb6,zb6,<-e1]at c1;have hu:=congrArg fzs (zte hL (show i<(Zdq (fv cf) acc r).length by omega));rw[<-z01]at hu;unfold Zng;rw[<-hu];exact z30 C k j _ i l r _ cf _ _ _ _ hi hn hck hir (Yb hir) c0 c1 (zhy (z00 hL (show i<(Zdq (fv cf) acc r).length by omega))) (by simp;omega)
 ·have e:(Zdq (fv cf) acc r).take acc.length++acc.drop acc.length=Zdq (fv cf) acc r:=by grind
  unfold Zng;rw[e];constructor<;>simp -implicitDefEqProofs[l271_1]
def Znh(C:List Fz)(n:Nat)(l:List (List Fz))(acc:List Rat)(k:Nat):St:=
 ⟨[(0,.sl (Zb C) .an),(10,.bs (.fld (.loc 40) 9) 1 3 0 n),(41,.sl (Zd l) .an),(42,.i .i64 l.length),(43,.i .i64 k)],[(.fld (.loc 40) 9,⟨1,.own,3,Zb (fzs (Zd3 ((C.zip l).take k) acc))⟩)],3⟩
def zzr(C:List Fz)(l:List (List Fz))(hcl:C.length=l.length)(acc:List Rat)(hn:acc.length<=1000)(hk:l.length<=1000){S B:Nat}
  (ha:∀q∈acc,sz q<=S) (hc:∀x∈C,fsz x<=B) (hw:∀r∈l,∀x∈r,fsz x<=B) (hB:1<=B) (hS:S+l.length*(2*B+1)<=1000) (hall:∀r∈l,r.length=acc.length) :
  Ze T 0 2 (.norm false [10]) l271_2 (Znh C acc.length l acc 0)=some (.n,⟨[(10,.bs (.fld (.loc 40) 9) 1 3 0 acc.length)],[(.fld (.loc 40) 9,⟨1,.own,3,Zb (fzs (Zd3 (C.zip l) acc))⟩)],3⟩):=by
 have hzl:(C.zip l).length=l.length:=by grind
 refine zag (Znh C acc.length l acc) l.length _ (fun k hk=>?_) ?_
 ·have hkc:k<C.length:=by omega
  have hgc:C[k]? = some (C[k]'hkc):=Yb hkc;have hws:=zaw hk (by omega);have hm:=Yi hk;have hmc:=hc _ (Yi hkc);have hlen:=ziq ((C.zip l).take k) acc (fun q hq=>hall _ (Yc0 (Yay hq)).2);have hr:(l[k]'hk).length=acc.length:=hall _ hm;have hsz:=zzo hB ((C.zip l).take k) acc S ha (fun q hq=>⟨hc _ (Yc0 (Yay hq)).1,hw _ (Yc0 (Yay hq)).2⟩);rw[Y3,Yb3 (by omega)]at hsz;have hj2:(k+1)*(2*B+1)<=l.length*(2*B+1):=Yaa _ hk;rw[Ydj]at hj2;have hsg:=zjz (T:=T) (C[k]'hkc) (by omega);have e:Zd3 ((C.zip l).take (k+1)) acc=Zdq (fv (C[k]'hkc)) (Zd3 ((C.zip l).take k) acc) (l[k]'hk):=by
   rw[zzp _ _ (by omega)];simp
  have hkc':(k:Int)<C.length:=by omega
  unfold Znh;rw[e];by_cases hz:fv (C[k]'hkc)=0
  ·rw[hz,z02 (by rw[hlen,hr])];have hq:sgQ (fv (C[k]'hkc))=0:=zd9.2 hz;rw[hq]at hsg;simp -implicitDefEqProofs[l271_2,hk,hkc,hkc',hws,hsg]
  ·have hq:¬ sgQ (fv (C[k]'hkc))=0:=fun h=>hz (zd9.1 h);have hin:=zzq (T:=T) C k l.length l (l[k]'hk) (C[k]'hkc) hgc (Zd3 ((C.zip l).take k) acc) (by omega) (by omega) hsz hmc (hw _ hm) hB (by omega);unfold Zng at hin;rw[Yaz,Y6,Yau,hlen]at hin;generalize acc.length=n at *
   simp only[Yp]at hin;simp -implicitDefEqProofs[l271_2,hk,hkc,hkc',hws,hsg,hq,hin,hr]
 ·unfold Znh;rw[Ya (by omega)];constructor<;>simp -implicitDefEqProofs[l271_2]
def Zni(C:List Fz)(l:List (List Fz))(n i:Nat):St:=⟨[(0,.sl (Zb C) .an),(1,.sl (Zd l) .an),(2,.i .i64 n),(28,.sl (Zd l) .an),(29,.i .i64 l.length),(30,.i .i64 i)],[],2⟩
def zzs(C:List Fz)(l:List (List Fz))(n:Nat)(hk:l.length<=1000)(hall:∀r∈l,r.length=n) :
  Ze T 0 0 (.norm false [0,1,2]) l271_0 (Zni C l n 0)=some (.n,⟨[(0,.sl (Zb C) .an),(1,.sl (Zd l) .an),(2,.i .i64 n)],[],2⟩):=by
 refine zag (Zni C l n) l.length _ (fun i hi=>?_) ?_
 ·have hws:=zaw hi (by omega);have hr:(l[i]'hi).length=n:=hall _ (Yi hi);unfold Zni;simp -implicitDefEqProofs[l271_0,hi,hws,hr]
 ·unfold Zni;constructor<;>simp -implicitDefEqProofs[l271_0]
def z8t(C:List Fz)(l:List (List Fz))(n:Nat)(hcl:C.length=l.length)(hn:n<=300)(hk:l.length<=1000){B:Nat}(hc:∀x∈C,fsz x<=B)(hw:∀r∈l,∀x∈r,fsz x<=B)(hB:1<=B)
  (hS:1+l.length*(2*B+1)<=1000) (hall:∀r∈l,r.length=n) :
  Za T 271 [.sl (Zb C) .an,.sl (Zd l) .an,.i .i64 n]=some (.tup [.sl (Zb (fzs (Zd3 (C.zip l) (List.replicate n 0)))) .an,.b true]):=by
 have hz:=zpz (T:=T) n hn;have e0:List.replicate n (fz 0)=fzs (List.replicate n 0):=by simp[fzs]
 rw[e0]at hz;have h0:=zzs (T:=T) C l n hk hall;have h:=zzr (T:=T) C l hcl (List.replicate n 0) (by grind) hk (S:=1) (by
  grind[zh4]) hc hw hB hS (by grind)
 have hfl:=ziq (C.zip l) (List.replicate n 0) (fun q hq=>by rw[Yz];exact hall _ (Yc0 hq).2);unfold Znh at h;unfold Zni at h0;have e1:Zd3 ((C.zip l).take 0) (List.replicate n 0)=List.replicate n 0:=by simp[Zd3]
 rw[e1]at h;rw[Yz]at h hfl;have hl2:(fzs (Zd3 (C.zip l) (List.replicate n 0))).length=n:=by simp_all
 have ht:List.take n (fzs (Zd3 (C.zip l) (List.replicate n 0)))=fzs (Zd3 (C.zip l) (List.replicate n 0)):=Ya (by omega);have p2:((C.length:Int)=(l.length:Int))=True:=by grind
 have e3:¬ (n:Int)<0:=by omega
 have e4:¬ (300:Int)<n:=by omega
 rw[zaa Zbt.h271 rfl,b271];simp only[Yp]at h h0;simp -implicitDefEqProofs[hz,h,h0,hl2,ht,p2,e3,e4]
end
abbrev agS(t h:Fz)(y0 y1 f0 f1:List Fz):AV:=
 .agg [.b t.1,.sl (Zc t.2.1) .an,.sl (Zc t.2.2) .an,.b h.1,.sl (Zc h.2.1) .an,.sl (Zc h.2.2) .an,.sl (Zb y0) .an,.sl (Zb y1) .an,.sl (Zb f0) .an,.sl (Zb f1) .an]
def Zqq(l:List Fz):Rat:=l.foldl (fun p x=>p*fv x) 1
section
variable{T:Tbl}[Zu T][Zy T][Z0 T][Zt T][Zp T][Zbd T][Zi T][Zl T][Zs T][Zba T][Zbt T][Zo2 T]
def Zuo(l:List Fz)(i:Nat):St:=⟨[(2,.ptr (.loc 2) 1 3 0 0),(3,.ptr (.loc 3) 2 3 0 0),(7,.sl (Zb l) .an),(8,.i .i64 l.length),(9,.i .i64 i)],[(.loc 2,⟨1,.str,3,[Zfb]⟩),(.loc 3,⟨2,.str,3,[Zau (fz (Zqq (l.take i)))]⟩)],4⟩
def Zr1(h:Fz)(y0 y1 f0 f1:List Fz):Bool:=decide (0<fv h)&&decide (y0.length<=300)&&decide (y1.length=y0.length)&&decide (f0.length=y0.length)&&decide (f1.length=y0.length)
end
def zdm(a b:List AV):wkR (a++b)=wkR a++wkR b:=by rw[zjl,zjl,zjl,Yb2]
abbrev tyS:Ty:=.cons tyF (.cons tyF (.cons (.sl tyF) (.cons (.sl tyF) (.cons (.sl tyF) (.cons (.sl tyF) .nil)))))
end Go.Ab
section
namespace Go.Ab
end Go.Ab
end
namespace Go.Ab
section
variable{T:Tbl}
def zvi(m:Nat)(hm:m%2=1)(K:Nat)(hK:2^K*m<4294967296)(hK2:K<=32):∀v:Nat,v<=K ->
  Ze T 0 0 (.norm false [3]) l224_0 ⟨[(0,u32 (2^v*m)),(3,.i .i64 (K-v:Nat))],[],2⟩=some (.n,⟨[(3,.i .i64 K)],[],2⟩):=by
 refine za4 (fun v:Nat=>⟨[(0,u32 (2^v*m)),(3,.i .i64 (K-v:Nat))],[],2⟩) _ (fun v=>v) _ ?_;intro v hv;cases v with
 | zero=>
  right;constructor<;>simp -implicitDefEqProofs[l224_0,hm]
 | succ v=>
  left;have hle:2^(v+1)*m<=2^K*m:=Yaa _ (Y9 (by decide) hv);have e:2^(v+1)*m=2^v*m*2:=by grind
  have hw:IntKind.wrap .i64 (((K-(v+1):Nat):Int)+1)=((K-v:Nat):Int):=by rw[zab _ (by omega)];omega
  refine⟨v,by omega,Y7 v,?_,rfl⟩;rw[e]at hle ⊢;generalize 2^v*m=x at *
  have e1:x*2%2=0:=by omega
  have e3:x<4294967296:=by omega
  simp -implicitDefEqProofs[l224_0,e1,e3,hw]
end
section
variable{T:Tbl}[Zw T]
def zrg(m K:Nat)(hm:m%2=1)(hK:2^K*m<4294967296):Za T 224 [u32 (2^K*m)]=some (.i .i64 K):=by
 have hK2:K<=32:=by
  rcases Yy 32 K with h | h
  ·have h1:2^32<=2^K:=Y9 (by decide) (by omega);have h2:2^K<=2^K*m:=Ybc _ (by omega);omega
  omega
 have h:=zvi (T:=T) m hm K hK hK2 K (Ye _);rw[Ybx]at h;simp only[Yp]at h;have h0:2^K*m≠0:=Ycy (by grind) (by omega);rw[zaa Zw.h224 rfl,b224];simp -implicitDefEqProofs[h,h0]
end
theorem zrh{P m a S:List UInt32}{i:Nat}(hm:m.length=i)(hi:i<a.length):(P++(m++(a.drop i++S)))[P.length+i]? = some (a[i]'hi):=by
 grind
theorem zri{P m a S:List UInt32}{i:Nat}(hm:m.length=i)(hi:i<a.length)(w:UInt32):(P++(m++(a.drop i++S))).set (P.length+i) w=P++((m++[w])++(a.drop (i+1)++S)):=by
 rw[Yav _ _ (by omega),Ybt,Yav _ _ (by omega),hm,Ybx,Yg hi,Ybw,Yb4];simp
section
variable{T:Tbl}
def Zjz(Q:List UInt32)(o n s i:Nat):St:=⟨[(0,.bs (.bor 0) 0 1 o n),(1,.i .i64 s),(5,.i .i64 i)],[(.bor 0,⟨0,.own,1,Zc Q⟩)],4⟩
theorem z4f(Q:List UInt32)(o n s i:Nat)(x y:UInt32)(hi:i+1<n)(hn:n<=1000000)(hs:s<32)(hx:Q[o+i]? = some x)(hy:Q[o+(i+1)]? = some y) :
  evX (orc T) T 1 l225_0 (Zjz Q o n s i)=some (.n,Zjz (Q.set (o+i) (w32 ((x.toNat+y.toNat*4294967296)/2^s%4294967296))) o n s (i+1)):=by
 have h1:(i:Int)<n:=by omega
 have h2:(i:Int)+1<n:=by omega
 have hw:IntKind.wrap .i64 ((i:Int)+1)=((i+1:Nat):Int):=zab _ (by omega);have lx:=zan x;have ly:=zan y;have m2:y.toNat*4294967296%18446744073709551616=y.toNat*4294967296:=Yq (by omega);have m3:(y.toNat*4294967296+x.toNat)%18446744073709551616=x.toNat+y.toNat*4294967296:=by grind
 have hmin:min s 64=s:=by omega
 obtain⟨b1,hgx⟩:=Yc.1 hx;unfold Zjz;simp -implicitDefEqProofs[l225_0,h1,h2,hw,hy,m2,m3,hmin,b1,hgx,zf6]
theorem z4g(Q:List UInt32)(o n s i:Nat)(x:UInt32)(hi:i+1=n)(hn:n<=1000000)(hs:s<32)(hx:Q[o+i]? = some x) :
  evX (orc T) T 1 l225_0 (Zjz Q o n s i)=some (.n,Zjz (Q.set (o+i) (w32 (x.toNat/2^s%4294967296))) o n s (i+1)):=by
 have h1:(i:Int)<n:=by omega
 have h2:¬ (i:Int)+1<n:=by omega
 have hw:IntKind.wrap .i64 ((i:Int)+1)=((i+1:Nat):Int):=zab _ (by omega);have hmin:min s 64=s:=by omega
 obtain⟨b1,hgx⟩:=Yc.1 hx;unfold Zjz;simp -implicitDefEqProofs[l225_0,h1,h2,hw,hmin,b1,hgx,zf6]
def z88(P a S:List UInt32)(s:Nat)(hs:s<32)(hl:a.length<=1000000):∀y:Nat×List UInt32,
  (y.1<=a.length/\y.2.length=y.1/\val y.2+4294967296^y.1*(val (a.drop y.1)/2^s)=val a/2^s) ->
  ∃r,(∃m:List UInt32,r=(Ex.n,(⟨[(0,.bs (.bor 0) 0 1 P.length a.length)],[(.bor 0,⟨0,.own,1,Zc (P++(m++S))⟩)],4⟩:St))/\m.length=a.length/\val m=val a/2^s) /\
   Ze T 1 0 (.norm false [0]) l225_0 (Zjz (P++(y.2++(a.drop y.1++S))) P.length a.length s y.1)=some r:=by
 refine zar (fun y:Nat×List UInt32=>Zjz (P++(y.2++(a.drop y.1++S))) P.length a.length s y.1) _ (fun y=>a.length-y.1) _ ?_
 rintro⟨i,m⟩ ⟨hi,hm,hv⟩
 by_cases h0:i<a.length
 ·left;have hx:=zan (a[i]'h0);have hd:=Yg h0;have fin:∀y R:Nat,val (a.drop (i+1))=y+4294967296*R->val (m++[w32 (((a[i]'h0).toNat+y*4294967296)/2^s%4294967296)])+4294967296^(i+1)*(val (a.drop (i+1))/2^s)=val a/2^s:=by
   intro y R hR;have hdw:=zp8 (x:=(a[i]'h0).toNat) (y:=y) (R:=R) hs hx
   grind[zao,zaj,zbh,zah]
  by_cases h1:i+1<a.length
  ·have hd1:=Yg h1;refine⟨(i+1,m++[w32 (((a[i]'h0).toNat+(a[i+1]'h1).toNat*4294967296)/2^s%4294967296)]),⟨h0,by grind,fin _ (val (a.drop (i+1+1))) (by rw[hd1,zao])⟩,by omega,?_⟩
   grind[z4f,zrh,zri]
  ·have f0:=fin 0 0 (by rw[Ya7 (by omega),zbh,Yax]);rw[Ycu,Yad]at f0;refine⟨(i+1,m++[w32 ((a[i]'h0).toNat/2^s%4294967296)]),⟨h0,by grind,f0⟩,by omega,?_⟩
   grind[z4g,zrh,zri]
 ·right;have:i=a.length:=by omega
  subst this;rw[Yw,zbh,Nat.zero_div,Yax,Yad]at hv;refine⟨_,⟨m,rfl,hm,hv⟩,?_,?_⟩<;>simp -implicitDefEqProofs[l225_0,Zjz]
def zvj(P a S:List UInt32)(hl:a.length<=1000000){n:Nat}(hn:n<=a.length)(h0:∀(i:Nat) (x:UInt32),n<=i->a[i]? = some x->x.toNat=0)(h1:∀x:UInt32,0<n->a[n-1]? = some x->x.toNat≠0) :
  ∀k:Nat,(n<=k/\k<=a.length)->Ze T 1 2 (.norm false [0]) l225_1 ⟨[(0,.bs (.bor 0) 0 1 P.length k)],[(.bor 0,⟨0,.own,1,Zc (P++(a++S))⟩)],4⟩ =
   some (.n,⟨[(0,.bs (.bor 0) 0 1 P.length n)],[(.bor 0,⟨0,.own,1,Zc (P++(a++S))⟩)],4⟩):=by
 refine za4 (fun k:Nat=>⟨[(0,.bs (.bor 0) 0 1 P.length k)],[(.bor 0,⟨0,.own,1,Zc (P++(a++S))⟩)],4⟩) _ (fun k=>k) _ ?_
 rintro k ⟨hk,hka⟩
 have hget:∀j,j<a.length->(P++(a++S))[P.length+j]? = a[j]? := by
  grind
 by_cases h2:k=0
 ·right;have:n=0:=by omega
  subst this;subst h2;constructor<;>simp -implicitDefEqProofs[l225_1]
 ·have hw:IntKind.wrap .i64 ((k:Int)-1)=((k-1:Nat):Int):=by rw[zab _ (by omega)];omega
  have hg:a[k-1]? = some (a[k-1]'(by omega)):=Yb _;have hq:=hget (k-1) (by omega);rw[hg]at hq;have hpos:0<k:=by omega
  have hlt:k-1<k:=by omega
  by_cases h3:k=n
  ·right;subst h3;have hx:=h1 _ hpos hg;constructor<;>simp -implicitDefEqProofs[l225_1,hpos,hw,hq,hx,hlt]
  ·left;have hx:=h0 (k-1) _ (by omega) hg;refine⟨k-1,⟨by omega,by omega⟩,hlt,?_,rfl⟩;simp -implicitDefEqProofs[l225_1,hpos,hw,hq,hx,hlt]
end
section
variable{T:Tbl}[Zw T]
def zvk(P a S:List UInt32)(s:Nat)(hs:s<32)(hl:a.length<=1000000) :
  ∃S',S'.length+(ofN (val a/2^s)).length=a.length+S.length /\
   Z4 T 225 [.bs (.bor 0) 0 1 P.length a.length,.i .i64 s] [(.bor 0,⟨0,.own,1,Zc (P++(a++S))⟩)] =
    some (.bs (.bor 0) 0 1 P.length (ofN (val a/2^s)).length,[(.bor 0,⟨0,.own,1,Zc (P++(ofN (val a/2^s)++S'))⟩)]):=by
 obtain⟨_,⟨m,rfl,hm,hv⟩,hr⟩:=z88 (T:=T) P a S s hs hl (0,[]) ⟨Yv _,rfl,by simp⟩;obtain⟨n,h1,h2,h3,h4⟩:=zhe m;have ht:=zvj (T:=T) P m S (by omega) h1 h3 h4 m.length ⟨h1,Ye _⟩;have hlen:(ofN (val a/2^s)).length=n:=by grind
 have e:P++(m++S)=P++(ofN (val a/2^s)++(m.drop n++S)):=by grind[List.take_append_drop]
 refine⟨m.drop n++S,by grind,?_⟩;rw[hlen,<-e];rw[hm]at ht;unfold Zjz at hr;simp only[Yau,Y6,Yp]at hr;rw[zam Zw.h225 rfl,b225];simp -implicitDefEqProofs[hr,ht]
def zvl(Q:List UInt32)(o n j0:Nat)(hn:n<=1000000)(hj:j0<n)(hz:∀j,j<j0->∃x:UInt32,Q[o+j]? = some x/\x.toNat=0)(h1:∃x:UInt32,Q[o+j0]? = some x/\x.toNat≠0) :
  ∀j:Nat,j<=j0->Ze T 1 0 (.norm false [0,4]) l226_0 ⟨[(0,.bs (.bor 0) 0 1 (o+j) (n-j)),(4,.i .i64 (32*j:Nat))],[(.bor 0,⟨0,.own,1,Zc Q⟩)],4⟩ =
   some (.n,⟨[(0,.bs (.bor 0) 0 1 (o+j0) (n-j0)),(4,.i .i64 (32*j0:Nat))],[(.bor 0,⟨0,.own,1,Zc Q⟩)],4⟩):=by
 refine za4 (fun j:Nat=>⟨[(0,.bs (.bor 0) 0 1 (o+j) (n-j)),(4,.i .i64 (32*j:Nat))],[(.bor 0,⟨0,.own,1,Zc Q⟩)],4⟩) _ (fun j=>j0-j) _ ?_;intro j hj2;have hpos:0<n-j:=by omega
 by_cases h:j=j0
 ·right;subst h;obtain⟨x,hx,hx0⟩:=h1;constructor<;>simp -implicitDefEqProofs[l226_0,hpos,hx,hx0]
 ·left;obtain⟨x,hx,hx0⟩:=hz j (by omega);have hw:IntKind.wrap .i64 (((32*j:Nat):Int)+32)=((32*(j+1):Nat):Int):=by rw[zab _ (by omega)];omega
  have e1:1<n-j:=by omega
  have e2:n-j-1=n-(j+1):=by omega
  have e3:(1:Int)<=((n-j:Nat):Int):=by omega
  refine⟨j+1,by omega,by omega,?_,rfl⟩;generalize 32*j=c at *
  rw[<-Ya2,<-e2];generalize n-j=k at *
  simp -implicitDefEqProofs[l226_0,hpos,hx,hx0,hw,e1,e3]
theorem zpp:∀(a:List UInt32),val a≠0->∃j,∃h:j<a.length,(∀i (hi:i<j),(a[i]'(by omega)).toNat=0)/\(a[j]'h).toNat≠0/\val a=4294967296^j*val (a.drop j)
 | [],h=>by simp at h
 | x::a,h=>by
  by_cases hx:x.toNat=0
  ·have h2:val a≠0:=by
    intro e;apply h;rw[zao,hx,e]
   obtain⟨j,hj,h3,h4,h5⟩:=zpp a h2;refine⟨j+1,by simpa using hj,?_,by simpa using h4,?_⟩
   ·intro i hi;cases i with
    | zero=>simpa using hx
    | succ i=>simpa using h3 i (by omega)
   ·rw[zao,hx,h5,Yea,Yan,Yap,Yaw (4294967296^j) 4294967296,Yal]
  ·exact⟨0,by simp,fun i hi=>by omega,by simpa using hx,by simp⟩
def zg9(P a S:List UInt32)(hl:a.length<=100000)(h:val a≠0):∃(P' S':List UInt32) (m k:Nat),val a=2^k*m/\m%2=1/\k<=32*a.length/\(ofN m).length<=a.length/\P'.length+(ofN m).length+S'.length=P.length+a.length+S.length /\
  Z4 T 226 [.bs (.bor 0) 0 1 P.length a.length] [(.bor 0,⟨0,.own,1,Zc (P++(a++S))⟩)] =
   some (.tup [.bs (.bor 0) 0 1 P'.length (ofN m).length,.i .i64 k],[(.bor 0,⟨0,.own,1,Zc (P'++(ofN m++S'))⟩)]):=by
 obtain⟨j,hj,hz,hne,hv⟩:=zpp a h;obtain⟨s,c,hsc,hc⟩:=z5i hne;have hx:=zan (a[j]'hj);have hs:s<32:=by
  rcases Yy s 32 with h1 | h1
  ·omega
  ·have h2:2^32<=2^s:=Y9 (by decide) h1;have h3:2^s<=2^s*c:=Ybc _ (by omega);omega
 have hd:=Yg hj
 -- the rest is odd
 have hm:∃m,val (a.drop j)=2^s*m/\m%2=1:=by
  refine⟨c+2^(32-s)*val (a.drop (j+1)),?_,?_⟩
  ·rw[hd,zao,hsc,Yas,<-Yal,<-Ybu,show s+(32-s)=32 by omega]
  ·have:2^(32-s)=2*2^(31-s):=by rw[<-Nat.pow_succ'];grind
   rw[this,Yal];omega
 obtain⟨m,hm1,hm2⟩:=hm;have hdiv:val (a.drop j)/2^s=m:=by grind[Nat.mul_div_cancel_left]
 have hlen:(a.drop j).length=a.length-j:=by simp
 obtain⟨S',hS',hdown⟩:=zvk (T:=T) (P++a.take j) (a.drop j) S s hs (by omega);rw[hdiv]at hS' hdown;have hPl:(P++a.take j).length=P.length+j:=by grind
 have hbox:(P++a.take j)++(a.drop j++S)=P++(a++S):=by
  grind[List.take_append_drop]
 rw[hPl,hlen,hbox]at hdown;have hml:(ofN m).length<=a.length:=by
  have h1:m<=val (a.drop j):=by rw[hm1];exact Ybn _ (Ybe (by decide))
  have h2:=zav h1;have h3:=zac (a.drop j);omega
 refine⟨P++a.take j,S',m,32*j+s,?_,hm2,by omega,hml,by omega,?_⟩
 ·rw[hv,hm1,zp5,Ybu,Yal]
 ·have hst:=zvl (T:=T) (P++(a++S)) P.length a.length j (by omega) hj (fun i hi=>⟨_,by grind,hz i hi⟩) ⟨_,by grind,hne⟩ 0 (Yv _);have hzr:=zrg (T:=T) c s hc (by omega);rw[<-hsc]at hzr;have hg:(P++(a++S))[P.length+j]? = some (a[j]'hj):=by grind
  have hpos:0<a.length-j:=by omega
  have hw:IntKind.wrap .i64 (((32*j:Nat):Int)+s)=((32*j+s:Nat):Int):=by rw[zab _ (by omega)];omega
  simp only[Yax,Yad,Ye8,Yp]at hst;rw[hPl,zam Zw.h226 rfl,b226];generalize 32*j=c1 at *
  simp -implicitDefEqProofs[hst,hzr,hg,hpos,hw,hdown]
end
def z59{P m a S b:List UInt32}{i c s d:Nat}(hm:m.length=i)(h0:i<a.length)(hv:val m+val (b.take i)=val (a.take i)+4294967296^i*c)(hs:s<4294967296)(h:s+(atW b i+c)=(a[i]'h0).toNat+4294967296*d) :
  val (m++[w32 s])+val (b.take (i+1))=val (a.take (i+1))+4294967296^(i+1)*d:=by
 grind[zbm,zaj,zao,zah,atW]
section
variable{T:Tbl}[Zz T][Z8 T][Zx T][Zae T][Zw T]
def Zly(Q R:List UInt32)(o n o2 n2 c i:Nat):St:=⟨[(0,.bs (.bor 0) 0 1 o n),(1,.bs (.bor 1) 1 1 o2 n2),(4,u64 c),(5,.i .i64 i)],[(.bor 0,⟨0,.own,1,Zc Q⟩),(.bor 1,⟨1,.own,1,Zc R⟩)],6⟩
def z89(Q R b:List UInt32)(o n o2 n2 c i:Nat)(x:UInt32)(hi:i<n)(hn:n<=1000000)(hb:b.length<=1000000)(hc:c<=1)(hx:Q[o+i]? = some x)(hR:List.take n2 (List.drop o2 R)=b)(hR2:o2+n2<=R.length) :
  evX (orc T) T 2 l2097_0 (Zly Q R o n o2 n2 c i)=some (.n,Zly (Q.set (o+i) (w32 (if x.toNat<atW b i+c then x.toNat+4294967296-(atW b i+c) else x.toNat-(atW b i+c)))) R o n o2 n2 (if x.toNat<atW b i+c then 1 else 0) (i+1)):=by
 have h1:(i:Int)<n:=by omega
 have hw:IntKind.wrap .i64 ((i:Int)+1)=((i+1:Nat):Int):=zab _ (by omega);have cb:=zd7 (T:=T) b i hb;have lx:=zan x;have lb:=zkd b i;generalize atW b i=y at *
 have m2:y%18446744073709551616=y:=Yq (by omega);have m3:(y+c)%18446744073709551616=y+c:=Yq (by omega);have m4:(x.toNat+4294967296)%18446744073709551616=x.toNat+4294967296:=Yq (by omega);obtain⟨b1,hgx⟩:=Yc.1 hx;unfold Zly;by_cases hlt:x.toNat<y+c
 ·have hs:Ze0 (x.toNat+4294967296) (y+c)=x.toNat+4294967296-(y+c):=zfs (by omega) (by omega);simp -implicitDefEqProofs[l2097_0,h1,hw,cb,m2,m3,m4,b1,hgx,hR,hR2,hlt,hs]
 ·have hs:Ze0 x.toNat (y+c)=x.toNat-(y+c):=zfs (by omega) (by omega);simp -implicitDefEqProofs[l2097_0,h1,hw,cb,m2,m3,b1,hgx,hR,hR2,hlt,hs]
def z9a(P a S R b:List UInt32)(o2 n2:Nat)(hl:a.length<=1000000)(hb:b.length<=1000000)(hR:List.take n2 (List.drop o2 R)=b)(hR2:o2+n2<=R.length):∀y:Nat×Nat×List UInt32,
  (y.1<=a.length/\y.2.1<=1/\y.2.2.length=y.1/\val y.2.2+val (b.take y.1)=val (a.take y.1)+4294967296^y.1*y.2.1) ->
  ∃r,(∃(c:Nat) (m:List UInt32),r=(Ex.n,(⟨[],[(.bor 0,⟨0,.own,1,Zc (P++(m++S))⟩),(.bor 1,⟨1,.own,1,Zc R⟩)],6⟩:St)) /\
   m.length=a.length/\c<=1/\val m+val (b.take a.length)=val a+4294967296^a.length*c) /\
   Ze T 2 0 (.norm false []) l2097_0 (Zly (P++(y.2.2++(a.drop y.1++S))) R P.length a.length o2 n2 y.2.1 y.1)=some r:=by
 refine zar (fun y:Nat×Nat×List UInt32=>Zly (P++(y.2.2++(a.drop y.1++S))) R P.length a.length o2 n2 y.2.1 y.1) _ (fun y=>a.length-y.1) _ ?_
 rintro⟨i,c,m⟩ ⟨hi,hc,hm,hv⟩
 simp only at hi hc hm hv;by_cases h0:i<a.length
 ·left;have lx:=zan (a[i]'h0);have lb:=zkd b i;have hstep:=z89 (T:=T) (P++(m++(a.drop i++S))) R b P.length a.length o2 n2 c i (a[i]'h0) h0 hl hb hc (zrh hm h0) hR hR2;rw[zri hm h0]at hstep;by_cases hlt:(a[i]'h0).toNat<atW b i+c
  ·rw[if_pos hlt,if_pos hlt]at hstep;exact⟨(i+1,1,m++[w32 ((a[i]'h0).toNat+4294967296-(atW b i+c))]),⟨h0,Ye _,by grind,by simp only;exact z59 (P:=P) (S:=S) hm h0 hv (by omega) (by omega)⟩,by omega,hstep⟩
  ·rw[if_neg hlt,if_neg hlt]at hstep;exact⟨(i+1,0,m++[w32 ((a[i]'h0).toNat-(atW b i+c))]),⟨h0,Yv _,by grind,by simp only;exact z59 (P:=P) (S:=S) hm h0 hv (by omega) (by omega)⟩,by omega,hstep⟩
 ·right;have:i=a.length:=by omega
  subst this;rw[Ya (Ye a.length)]at hv;refine⟨_,⟨c,m,rfl,hm,hc,hv⟩,?_,?_⟩<;>simp -implicitDefEqProofs[l2097_0,Zly]
def zkf(P a S P2 b S2:List UInt32)(hl:a.length<=1000000)(hb:b.length<=a.length)(hab:val b<=val a) :
  ∃m:List UInt32,m.length=a.length/\val m=val a-val b /\
   Z4 T 2097 [.bs (.bor 0) 0 1 P.length a.length,.bs (.bor 1) 1 1 P2.length b.length] [(.bor 0,⟨0,.own,1,Zc (P++(a++S))⟩),(.bor 1,⟨1,.own,1,Zc (P2++(b++S2))⟩)] =
    some (.tup [],[(.bor 0,⟨0,.own,1,Zc (P++(m++S))⟩),(.bor 1,⟨1,.own,1,Zc (P2++(b++S2))⟩)]):=by
 obtain⟨_,⟨c,m,rfl,hm,hc,hv⟩,hr⟩:=z9a (T:=T) P a S (P2++(b++S2)) b P2.length b.length hl (by omega) (by simp) (by simp) (0,0,[]) ⟨Yv _,Yv _,rfl,by simp⟩;rw[Ya hb]at hv;have hlo:=za3 m;have hval:val m=val a-val b:=by
  rcases Ya4 c with h1 | h1
  all_goals grind
 refine⟨m,hm,hval,?_⟩;unfold Zly at hr;simp only[Yau,Y6,Yp]at hr;rw[zam Zw.h2097 rfl,b2097];simp -implicitDefEqProofs[hr]
def zpq(a:List UInt32):Za T 229 [.sl (Zc (ofN (val a))) .an]=some (.b (decide (val a=1))):=by
 rw[zaa Zw.h229 rfl,b229];generalize val a=n;by_cases h0:n=0
 ·subst h0;simp -implicitDefEqProofs
 ·rw[zh2 h0];by_cases h1:n/4294967296=0
  ·have e:ofN (n/4294967296)=[]:=zau.2 h1;have e2:n%4294967296=n:=Yq (by omega);simp -implicitDefEqProofs[e,Zc,zcp,e2]
  ·have h2:¬ ofN (n/4294967296)=[]:=fun e=>h1 (zau.1 e);have h3:¬ n=1:=by omega
   have h4:¬ ((ofN (n/4294967296)).length:Int)+1=1:=by
    have:=Ybp.2 h2;omega
   simp -implicitDefEqProofs[Zc,h3,h4]
def zmb(a g:List UInt32)(ha:a.length<=10000)(hg:g.length<=10000)(h0:val g≠0):Za T 230 [.sl (Zc a) .an,.sl (Zc (ofN (val g))) .an]=some (.sl (Zc (ofN (val a/val g))) .an):=by
 have ho:=zpq (T:=T) g;have hn:=zbt (T:=T) a (by omega);have hd:=zz7 (T:=T) a (ofN (val g)) (by omega) (by have:=zac g;omega) (by rw[zad];omega);rw[zad]at hd;rw[zaa Zw.h230 rfl,b230];by_cases h1:val g=1
 ·rw[h1]at ho hd ⊢;simp -implicitDefEqProofs[ho,hn]
 ·simp -implicitDefEqProofs[ho,h1,hd]
def zpr(a:List UInt32)(k:Nat)(ha:a.length<=10000)(hk:k<=1000000):Za T 227 [.sl (Zc a) .an,.i .i64 k]=some (.sl (Zc (ofN (2^k*val a))) .an):=by
 have hq:(k:Int).tdiv 32=(k:Int)/32:=Yc5 (by omega);have hm2:(k:Int).tmod 32=(k:Int)%32:=Yc6 (by omega);have s0:¬ (k:Int)%32<0:=by omega
 have s1:((k:Int)%32).toNat=k%32:=by omega
 have s2:min (k%32) 32=k%32:=by omega
 have w1:IntKind.wrap .i64 ((k:Int)/32)=((k/32:Nat):Int):=by rw[zab (k/32) (by omega)];omega
 have h2:2^(k%32)<4294967296:=by
  have:=Nat.pow_lt_pow_right (show 1<2 by decide) (Ya5 k (show 0<32 by decide));omega
 have s3:2^(k%32)%4294967296=2^(k%32):=Yq h2;have hmul:=zc7 (T:=T) (List.replicate (k/32) 0++a) [w32 (2^(k%32))] (by grind) (by simp);have hv:val (List.replicate (k/32) 0++a)*val [w32 (2^(k%32))]=2^k*val a:=by
  rw[zaj,zbq,Yz,zao,zbh,zah h2,Yax,Yad,Yap,zp5,Yaw,<-Yal,<-Ybu,show k%32+32*(k/32)=k by omega]
 rw[hv]at hmul;have b2:k/32+a.length<=4294967296:=by omega
 have b3:((k/32:Nat):Int)<=4294967296:=by omega
 have hu:Zc [w32 (2^(k%32))]=[[u32 (2^(k%32))]]:=by simp[Zc,zah h2]
 rw[hu]at hmul;have ht:List.take (k/32+a.length) (List.replicate (k/32) 0++a)=List.replicate (k/32) 0++a:=Ya (by simp);rw[zaa Zw.h227 rfl,b227];generalize k/32=q at *
 simp -implicitDefEqProofs[hq,hm2,w1,s0,s1,s2,s3,hmul,b2,b3,ht]
def nmX:BId:=.fld (.loc 12) 22
def nmY:BId:=.fld (.loc 14) 22
def nm2(f:Bool):BId×BId:=if f then (nmX,nmY) else (nmY,nmX)
def Ziq(f:Bool)(P a S P2 b S2:List UInt32)(m n:Nat):St:=
 ⟨[(5,.bs (nm2 f).1 1 1 P.length a.length),(6,.bs (nm2 f).2 2 1 P2.length b.length),(7,.i .i64 m),(8,.i .i64 n)],[((nm2 f).1,⟨1,.own,1,Zc (P++(a++S))⟩),((nm2 f).2,⟨2,.own,1,Zc (P2++(b++S2))⟩)],4⟩
def zaop(f:Bool)(P S P2 S2:List UInt32)(X Y m n:Nat)(hX:(ofN X).length<=10000)(hY:(ofN Y).length<=10000)(h:Y<X) :
  ∃(P' S':List UInt32) (k x:Nat),X-Y=2^k*x/\x%2=1 /\
   evX (orc T) T 0 l228_0 (Ziq f P (ofN X) S P2 (ofN Y) S2 m n)=some (.n,Ziq f P' (ofN x) S' P2 (ofN Y) S2 m n):=by
 have hc:=zfe (T:=T) (ofN X) (ofN Y) (by omega) (by omega);rw[zad,zad,show Zeb X Y=1 by unfold Zeb;omega]at hc;obtain⟨d,hd,hv,hless⟩:=zkf (T:=T) P (ofN X) S P2 (ofN Y) S2 (by omega) (zav (Ydi h)) (by rw[zad,zad];omega);rw[zad,zad]at hv;obtain⟨P',S',x,k,e1,e2,e3,e4,e5,hodd⟩:=zg9 (T:=T) P d S (by omega) (by omega);refine⟨P',S',k,x,by omega,e2,?_⟩;have t1:List.take (ofN X).length (List.drop P.length (P++(ofN X++S)))=ofN X:=by simp
 have t2:List.take (ofN Y).length (List.drop P2.length (P2++(ofN Y++S2)))=ofN Y:=by simp
 have b1:P.length+(ofN X).length<=(P++(ofN X++S)).length:=by simp
 have b2:P2.length+(ofN Y).length<=(P2++(ofN Y++S2)).length:=by simp
 rw[hd]at hodd;unfold Ziq;cases f<;>simp -implicitDefEqProofs[l228_0,nm2,nmX,nmY,hc,hless,hodd]
def zaoq(f:Bool)(P S P2 S2:List UInt32)(X Y m n:Nat)(hX:(ofN X).length<=10000)(hY:(ofN Y).length<=10000)(h:X<Y) :
  ∃(P' S':List UInt32) (k x:Nat),Y-X=2^k*x/\x%2=1 /\
   evX (orc T) T 0 l228_0 (Ziq f P (ofN X) S P2 (ofN Y) S2 m n)=some (.n,Ziq (!f) P' (ofN x) S' P (ofN X) S m n):=by
 have hc:=zfe (T:=T) (ofN X) (ofN Y) (by omega) (by omega);rw[zad,zad,show Zeb X Y=-1 by unfold Zeb;omega]at hc;obtain⟨d,hd,hv,hless⟩:=zkf (T:=T) P2 (ofN Y) S2 P (ofN X) S (by omega) (zav (Ydi h)) (by rw[zad,zad];omega);rw[zad,zad]at hv;obtain⟨P',S',x,k,e1,e2,e3,e4,e5,hodd⟩:=zg9 (T:=T) P2 d S2 (by omega) (by omega);refine⟨P',S',k,x,by omega,e2,?_⟩;have t1:List.take (ofN X).length (List.drop P.length (P++(ofN X++S)))=ofN X:=by simp
 have t2:List.take (ofN Y).length (List.drop P2.length (P2++(ofN Y++S2)))=ofN Y:=by simp
 have b1:P.length+(ofN X).length<=(P++(ofN X++S)).length:=by simp
 have b2:P2.length+(ofN Y).length<=(P2++(ofN Y++S2)).length:=by simp
 rw[hd]at hodd;unfold Ziq;cases f<;>simp -implicitDefEqProofs[l228_0,nm2,nmX,nmY,hc,hless,hodd]
def zaor(f:Bool)(P S P2 S2:List UInt32)(X m n:Nat)(hX:(ofN X).length<=10000){G:Option (Ex×St)}
  (hG:G=some (.n,⟨[(5,.bs (nm2 f).1 1 1 P.length (ofN X).length),(7,.i .i64 m),(8,.i .i64 n)],[((nm2 f).1,⟨1,.own,1,Zc (P++(ofN X++S))⟩)],3⟩)) :
  Zb6 (evX (orc T) T 0 l228_0 (Ziq f P (ofN X) S P2 (ofN X) S2 m n))=true/\Zbs 0 0 (Gh.norm false [5,7,8]) (evX (orc T) T 0 l228_0 (Ziq f P (ofN X) S P2 (ofN X) S2 m n))=G:=by
 subst hG;have hc:=zfe (T:=T) (ofN X) (ofN X) (by omega) (by omega);rw[zad,show Zeb X X=0 by grind[Zeb]]at hc;have t1:List.take (ofN X).length (List.drop P.length (P++(ofN X++S)))=ofN X:=by simp
 have t2:List.take (ofN X).length (List.drop P2.length (P2++(ofN X++S2)))=ofN X:=by simp
 have b1:P.length+(ofN X).length<=(P++(ofN X++S)).length:=by simp
 have b2:P2.length+(ofN X).length<=(P2++(ofN X++S2)).length:=by simp
 unfold Ziq;generalize P++(ofN X++S)=Q at *
 generalize P2++(ofN X++S2)=R at *
 generalize ofN X=A at *
 cases f<;>constructor<;>simp -implicitDefEqProofs[l228_0,nm2,nmX,nmY,hc,t1,t2,b1,b2]
structure Gc where
 f:Bool
 P:List UInt32
 S:List UInt32
 P2:List UInt32
 S2:List UInt32
 X:Nat
 Y:Nat
def z9b(G m n:Nat):∀y:Gc,((ofN y.X).length<=10000/\(ofN y.Y).length<=10000/\y.X%2=1/\y.Y%2=1/\Nat.gcd y.X y.Y=G) ->
  ∃r,(∃(f:Bool) (P S:List UInt32),r=(Ex.n,(⟨[(5,.bs (nm2 f).1 1 1 P.length (ofN G).length),(7,.i .i64 m),(8,.i .i64 n)],[((nm2 f).1,⟨1,.own,1,Zc (P++(ofN G++S))⟩)],3⟩:St))) /\
   Ze T 0 0 (.norm false [5,7,8]) l228_0 (Ziq y.f y.P (ofN y.X) y.S y.P2 (ofN y.Y) y.S2 m n)=some r:=by
 refine zar (fun y:Gc=>Ziq y.f y.P (ofN y.X) y.S y.P2 (ofN y.Y) y.S2 m n) _ (fun y=>y.X+y.Y) _ ?_
 rintro⟨f,P,S,P2,S2,X,Y⟩ ⟨hX,hY,oX,oY,hG⟩
 rcases Ybg X Y with h | h | h
 ·left;obtain⟨P',S',k,x,e1,e2,he⟩:=zaoq (T:=T) f P S P2 S2 X Y m n hX hY h;have hle:x<=Y-X:=by rw[e1];exact Ybn _ (Ybe (by decide))
  refine⟨⟨!f,P',S',P,S,x,X⟩,⟨?_,hX,e2,oX,?_⟩,by grind,he⟩
  ·have:=zav (show x<=Y by omega)
   grind
  grind[ztq,Nat.gcd_comm]
 ·subst h;obtain⟨h1,h2⟩:=zaor (T:=T) f P S P2 S2 X m n hX rfl
  grind
 ·left;obtain⟨P',S',k,x,e1,e2,he⟩:=zaop (T:=T) f P S P2 S2 X Y m n hX hY h;have hle:x<=X-Y:=by rw[e1];exact Ybn _ (Ybe (by decide))
  refine⟨⟨f,P',S',P2,S2,x,Y⟩,⟨?_,hY,e2,oY,?_⟩,by grind,he⟩
  ·have:=zav (show x<=X by omega)
   grind
  grind[ztq]
def zz8(a b:List UInt32)(ha:a.length<=10000)(hb:b.length<=10000):Za T 228 [.sl (Zc a) .an,.sl (Zc b) .an]=some (.sl (Zc (ofN (Nat.gcd (val a) (val b)))) .an):=by
 have n1:=zgc (T:=T) a (by omega);have n2:=zgc (T:=T) b (by omega);have la:=zac a;have lb:=zac b;rw[zaa Zw.h228 rfl,b228];generalize val a=X at *
 generalize val b=Y at *
 have tY:List.take (ofN Y).length (ofN Y)=ofN Y:=Ya (Ye _);by_cases hX:X=0
 ·subst hX;rw[Nat.gcd_zero_left];simp -implicitDefEqProofs[n1,n2,tY]
 ·have eX:¬ ofN X=[]:=fun e=>hX (zau.1 e);by_cases hY:Y=0
  ·subst hY;rw[Yee];simp -implicitDefEqProofs[n1,n2,eX]
  ·have eY:¬ ofN Y=[]:=fun e=>hY (zau.1 e);obtain⟨P1,S1,x,m,e1,e2,e3,e4,e5,o1⟩:=zg9 (T:=T) [] (ofN X) [] (by omega) (by rw[zad];omega);obtain⟨P2,S2,y,n,g1,g2,g3,g4,g5,o2⟩:=zg9 (T:=T) [] (ofN Y) [] (by omega) (by rw[zad];omega);rw[zad]at e1 g1;obtain⟨_,⟨f,P,S,rfl⟩,hl⟩:=z9b (T:=T) (Nat.gcd x y) m n ⟨true,P1,S1,P2,S2,x,y⟩ ⟨by grind,by grind,e2,g2,rfl⟩;have hG:Nat.gcd X Y=2^(min m n)*Nat.gcd x y:=by rw[e1,g1];exact z91 e2 g2
   have hgl:(ofN (Nat.gcd x y)).length<=10000:=by
    have:=zav (Nat.gcd_le_left y (show 0<x by omega));omega
   have hdb:=zpr (T:=T) (ofN (Nat.gcd x y)) (min m n) hgl (by omega);rw[zad,<-hG]at hdb;simp only[Yau,Ya9,Yah]at o1 o2;unfold Ziq at hl;have t1:List.take (ofN (Nat.gcd x y)).length (List.drop P.length (P++(ofN (Nat.gcd x y)++S)))=ofN (Nat.gcd x y):=by simp
   have b1:P.length+(ofN (Nat.gcd x y)).length<=(P++(ofN (Nat.gcd x y)++S)).length:=by simp
   have hmin:(if n<m then (n:Int) else (m:Int))=((min m n:Nat):Int):=by omega
   simp only[nm2,nmX,nmY,if_true]at hl;cases f<;>simp only[Yx,if_false,if_true]at hl<;>simp -implicitDefEqProofs[n1,n2,eX,eY,o1,o2,hl,hdb,hmin,mm2]
end
section
variable{T:Tbl}[Zag T]
def zvm(n:Bool)(a:List UInt32)(ha:a.length<=1000000):Za T 39 [wh n a]=some (ez (wv n a)):=by
 have h:=zbt (T:=T) a ha;have hl:(0<(ofN (val a)).length)=(val a≠0):=by
  rw[eq_iff_iff,Ybp];exact not_congr zau
 rw[zaa Zag.h39 rfl,b39];unfold wv;rw[z1v];cases n<;>simp -implicitDefEqProofs[h,hl]
def zz9(n m:Bool)(a b:List UInt32)(ha:a.length<=10000)(hb:b.length<=10000):Za T 24 [wh n a,wh m b]=some (ez (wv n a+wv m b)):=by
 have hc:=zfe (T:=T) a b (by omega) (by omega);rw[zaa Zag.h24 rfl,b24];have fin:∀(s:Bool) (k:Nat),sg s k=wv n a+wv m b->(ofN k).length<=1000000->Za T 39 [wh s (ofN k)]=some (ez (wv n a+wv m b)):=by
  intro s k h1 h2;rw[zvm (T:=T) s (ofN k) h2];have:wv s (ofN k)=sg s k:=by unfold wv;rw[zad]
  rw[this,h1]
 have hla:=zac a;have hlb:=zac b;obtain⟨z,hz⟩:∃z,z=wv n a+wv m b:=⟨_,rfl⟩;by_cases h:n=m
 ·subst h;have h1:=zpm (T:=T) a b (by omega) (by omega);have h2:=fin n (val a+val b) (zks _ _ _) (by
   have:=zcy (x:=(val a:Int)) (y:=val b) (L:=10000) (by simpa using Yd hla ha) (by simpa using Yd hlb hb);have e:((val a:Int)+val b).natAbs=val a+val b:=by omega
   rw[e]at this;omega)
  rw[<-hz]at h2 ⊢;simp -implicitDefEqProofs[h1,h2]
 ·by_cases hlt:val a<val b
  ·have h1:=zpn (T:=T) b a (by omega) (by omega) (by omega);have h2:=fin m (val b-val a) (zp9 h hlt) (by have:=zav (Nat.sub_le (val b) (val a));omega);rw[<-hz]at h2 ⊢;simp -implicitDefEqProofs[h,hc,zd0,hlt,h1,h2]
  ·have h1:=zpn (T:=T) a b (by omega) (by omega) (by omega);have h2:=fin n (val a-val b) (zqa h hlt) (by have:=zav (Nat.sub_le (val a) (val b));omega);rw[<-hz]at h2 ⊢;simp -implicitDefEqProofs[h,hc,zd0,hlt,h1,h2]
end
theorem z9c(n:Bool)(x y:Nat):sg n (x*y)=sg n x*(y:Int):=by cases n<;>simp[sg,Yfg]
def z6a(q:Rat):val (fz q).2.2≠0:=by
 unfold fz;rw[zad];exact q.den_nz
theorem z4h(n m:Bool)(x y d e:Nat):mkRat (sg n x) d/mkRat (sg m y) e=mkRat (sg (n != m) (x*e)) (d*y):=by
 rw[zto,Yd6,<-Ycp,<-Ycp,<-Ycp,Rat.inv_divInt,Rat.divInt_mul_divInt];cases m
 ·grind[sg]
 ·simp only[sg,if_true,Ydk,Int.mul_neg];rw[<-Rat.neg_divInt_neg,Int.neg_neg]
section
variable{T:Tbl}[Zz T][Z8 T][Zx T][Zae T][Zw T][Zag T][Zq T]
def za8(x:Fz)(hx:fsz x<=10000):Za T 231 [efz x]=some (efz (fz (fv x))):=by
 obtain⟨n,a,d⟩:=x;have la:=zda (n,a,d);have ld:=zdh (n,a,d);simp only at la ld;have n1:=zbt (T:=T) a (by omega);have n2:=zbt (T:=T) d (by omega);have la2:=zac a;have ld2:=zac d;have ho:=zpq (T:=T) d;have hg:=zz8 (T:=T) (ofN (val a)) (ofN (val d)) (by omega) (by omega);rw[zad,zad]at hg;show _=some (efz (fz (mkRat (sg n (val a)) (val d))));by_cases hd:val d=0
 ·rw[hd,Yfc,znn,zaa Zq.h231 rfl,b231];rw[hd]at n2;simp -implicitDefEqProofs[n1,n2,show Zc [1]=[[u32 1]] from rfl]
 ·by_cases ha:val a=0
  ·have e0:mkRat (sg n (val a)) (val d)=0:=by rw[Yek hd,ha];cases n<;>rfl
   have ed:¬ ofN (val d)=[]:=fun e=>hd (zau.1 e);rw[e0,znn,zaa Zq.h231 rfl,b231];rw[ha]at n1;simp -implicitDefEqProofs[n1,n2,ed,show Zc [1]=[[u32 1]] from rfl]
  ·have ea:¬ ofN (val a)=[]:=fun e=>ha (zau.1 e);have ed:¬ ofN (val d)=[]:=fun e=>hd (zau.1 e);rw[zaf3 n (val a) hd,show decide (val a≠0)=true by grind,Yd0];have gpos:Nat.gcd (val a) (val d)≠0:=by
    grind
   have glen:(ofN (Nat.gcd (val a) (val d))).length<=10000:=by
    have:=zav (Nat.gcd_le_right (val a) (Ybi hd));omega
   have o1:=zmb (T:=T) (ofN (val a)) (ofN (Nat.gcd (val a) (val d))) (by omega) glen (by rw[zad];omega);have o2:=zmb (T:=T) (ofN (val d)) (ofN (Nat.gcd (val a) (val d))) (by omega) glen (by rw[zad];omega);rw[zad,zad]at o1 o2;rw[zaa Zq.h231 rfl,b231];by_cases h1:val d=1
   ·rw[h1]at n2 ho ed ⊢;rw[Nat.gcd_one_right,Yfi,Yfi];simp -implicitDefEqProofs[n1,n2,ho,ea,ed]
   ·generalize ofN (val d/Nat.gcd (val a) (val d))=D' at *
    simp -implicitDefEqProofs[n1,n2,ho,ea,ed,h1,hg,o1,o2]
def ztc(n:Nat)(h:n<18446744073709551616):Za T 353 [u64 n]=some (.sl (Zc (ofN n)) .an):=by
 have e2:val [w32 n,w32 (n/4294967296)]=n:=by simp[zcp];omega
 have h2:=zbt (T:=T) [w32 n,w32 (n/4294967296)] (by simp);rw[e2]at h2;have h3:n/4294967296%4294967296=n/4294967296:=Yq (by omega);have h4:n/4294967296%18446744073709551616=n/4294967296:=Yq (by omega);rw[zaa Zq.h353 rfl,b353];simp -implicitDefEqProofs[h3,h4,zbp _ _ _ (show n/4294967296<4294967296 by omega),h2]
def zps(k:Int)(h1:-9223372036854775808<=k)(h2:k<9223372036854775808):Za T 232 [.i .i64 k]=some (efz (fz (k:Rat))):=by
 have hu:Zc [1]=[[u32 1]]:=rfl;rw[zaa Zq.h232 rfl,b232];by_cases hk:k<0
 ·have w1:IntKind.wrap .i64 (k+1)=k+1:=zab _ (by omega);have w2:IntKind.wrap .i64 (-(k+1))=-(k+1):=zab _ (by omega);have w3:(-(k+1)%18446744073709551616).toNat=k.natAbs-1:=by omega
  have c1:=ztc (T:=T) (k.natAbs-1) (by omega);have c2:=zpm (T:=T) (ofN (k.natAbs-1)) [1] (by have:=zas (n:=k.natAbs-1) (k:=2) (by omega);omega) (by decide);have e1:val (ofN (k.natAbs-1))+val [1]=k.natAbs:=by rw[zad];show _+(1+4294967296*0)=_;omega
  rw[e1,hu]at c2;have c3:=za8 (T:=T) (true,ofN k.natAbs,[1]) (by
   have:=zas (n:=k.natAbs) (k:=2) (by omega)
   grind[fsz])
  have e2:fv (true,ofN k.natAbs,[1])=(k:Rat):=by
   unfold fv wv;simp only[zad];rw[show val [1]=1 from rfl,show sg true k.natAbs=k by unfold sg;grind];exact Rat.num_divInt_den (k:Rat)
  rw[e2]at c3
  change Za T 231 [.agg [.b true,.sl (Zc (ofN k.natAbs)) .an,.sl (Zc [1]) .an]]=_ at c3
  rw[hu]at c3;simp -implicitDefEqProofs[hk,w1,w2,w3,c1,c2,c3]
 ·have w3:(k%18446744073709551616).toNat=k.natAbs:=by omega
  have c1:=ztc (T:=T) k.natAbs (by omega);have c3:=za8 (T:=T) (false,ofN k.natAbs,[1]) (by
   have:=zas (n:=k.natAbs) (k:=2) (by omega)
   grind[fsz])
  have e2:fv (false,ofN k.natAbs,[1])=(k:Rat):=by
   unfold fv wv;simp only[zad];rw[show val [1]=1 from rfl,show sg false k.natAbs=k by unfold sg;grind];exact Rat.num_divInt_den (k:Rat)
  rw[e2]at c3
  change Za T 231 [.agg [.b false,.sl (Zc (ofN k.natAbs)) .an,.sl (Zc [1]) .an]]=_ at c3
  rw[hu]at c3;simp -implicitDefEqProofs[hk,w3,c1,c3]
def zfx:Za T 232 [.i .i64 0]=some (efz (fz 0)):=zps 0 (by decide) (by decide)
def zmc:Za T 232 [.i .i64 1]=some (efz (fz 1)):=zps 1 (by decide) (by decide)
def zcw(x y:Fz)(hx:fsz x<=10000):Za T 233 [efz x,efz y]=some (.b (decide (x=y))):=by
 obtain⟨n,a,d⟩:=x;obtain⟨m,b,e⟩:=y;have la:=zda (n,a,d);have ld:=zdh (n,a,d);simp only at la ld;have c1:=zma (T:=T) a b (by omega);have c2:=zma (T:=T) d e (by omega);rw[zaa Zq.h233 rfl,b233];by_cases h1:n=m
 ·subst h1;by_cases h2:a=b
  ·subst h2;by_cases h3:d=e
   ·simp -implicitDefEqProofs[c1,c2]
   ·simp -implicitDefEqProofs[c1,c2,h3]
  ·simp -implicitDefEqProofs[c1,h2]
 ·simp -implicitDefEqProofs[h1]
def zfy(x:Fz)(k:Nat):Za T 247 [efz x,.i .i64 k]=some (.b (decide (k<fsz x))):=by
 obtain⟨n,a,d⟩:=x;unfold fsz;rw[zaa Zq.h247 rfl,b247];by_cases h1:k<a.length
 ·have h3:k<max a.length d.length:=by omega
  simp -implicitDefEqProofs[h1,h3]
 ·by_cases h2:k<d.length
  ·have h3:k<max a.length d.length:=by omega
   simp -implicitDefEqProofs[h1,h2,h3]
  ·have h3:¬ k<max a.length d.length:=by omega
   simp -implicitDefEqProofs[h1,h2,h3]
def zpt(x y:Fz)(hx:fsz x<=1000)(hy:fsz y<=1000):Za T 241 [efz x,efz y]=some (efz (fz (fv x*fv y))):=by
 obtain⟨n,a,d⟩:=x;obtain⟨m,b,e⟩:=y;have la:=zda (n,a,d);have ld:=zdh (n,a,d);have lb:=zda (m,b,e);have le:=zdh (m,b,e);simp only at la ld lb le;have c1:=zc7 (T:=T) a b (by omega) (by omega);have c2:=zc7 (T:=T) d e (by omega) (by omega);have l1:(ofN (val a*val b)).length<=2000:=by
  have:=za0 (x:=val a) (y:=val b) (L:=1000) (M:=1000) (Yd (zac a) (by omega)) (Yd (zac b) (by omega));omega
 have l2:(ofN (val d*val e)).length<=2000:=by
  have:=za0 (x:=val d) (y:=val e) (L:=1000) (M:=1000) (Yd (zac d) (by omega)) (Yd (zac e) (by omega));omega
 have c3:=za8 (T:=T) (n != m,ofN (val a*val b),ofN (val d*val e)) (by unfold fsz;grind);have e1:fv (n != m,ofN (val a*val b),ofN (val d*val e))=fv (n,a,d)*fv (m,b,e):=by
  grind[fv,wv,zad,zto,Rat.mkRat_mul_mkRat]
 rw[e1]at c3;rw[zaa Zq.h241 rfl,b241];simp -implicitDefEqProofs[c1,c2,c3]
def zpu(x y:Fz)(hx:fsz x<=1000)(hy:fsz y<=1000):Za T 242 [efz x,efz y]=some (efz (fz (fv x/fv y))):=by
 obtain⟨n,a,d⟩:=x;obtain⟨m,b,e⟩:=y;have la:=zda (n,a,d);have ld:=zdh (n,a,d);have lb:=zda (m,b,e);have le:=zdh (m,b,e);simp only at la ld lb le;have c1:=zc7 (T:=T) a e (by omega) (by omega);have c2:=zc7 (T:=T) d b (by omega) (by omega);have l1:(ofN (val a*val e)).length<=2000:=by
  have:=za0 (x:=val a) (y:=val e) (L:=1000) (M:=1000) (Yd (zac a) (by omega)) (Yd (zac e) (by omega));omega
 have l2:(ofN (val d*val b)).length<=2000:=by
  have:=za0 (x:=val d) (y:=val b) (L:=1000) (M:=1000) (Yd (zac d) (by omega)) (Yd (zac b) (by omega));omega
 have c3:=za8 (T:=T) (n != m,ofN (val a*val e),ofN (val d*val b)) (by unfold fsz;grind);have e1:fv (n != m,ofN (val a*val e),ofN (val d*val b))=fv (n,a,d)/fv (m,b,e):=by
  grind[fv,wv,zad,z4h]
 rw[e1]at c3;rw[zaa Zq.h242 rfl,b242];simp -implicitDefEqProofs[c1,c2,c3]
def zpv(x:Fz)(hx:fsz x<=10000):Za T 237 [efz x]=some (efz (fz (-fv x))):=by
 obtain⟨n,a,d⟩:=x;have c3:=za8 (T:=T) (!n,a,d) hx;have e1:fv (!n,a,d)=-fv (n,a,d):=by
  grind[fv,wv,z6d,Rat.neg_mkRat]
 rw[e1]at c3;rw[zaa Zq.h237 rfl,b237];simp -implicitDefEqProofs[c3]
def z0a(x y:Fz)(hx:fsz x<=1000)(hy:fsz y<=1000)(h1:val x.2.2≠0)(h2:val y.2.2≠0):Za T 239 [efz x,efz y]=some (efz (fz (fv x+fv y))):=by
 obtain⟨n,a,d⟩:=x;obtain⟨m,b,e⟩:=y;have la:=zda (n,a,d);have ld:=zdh (n,a,d);have lb:=zda (m,b,e);have le:=zdh (m,b,e);simp only at la ld lb le h1 h2;have c1:=zc7 (T:=T) a e (by omega) (by omega);have c2:=zc7 (T:=T) b d (by omega) (by omega);have c4:=zc7 (T:=T) d e (by omega) (by omega);have l1:(ofN (val a*val e)).length<=2000:=by
  have:=za0 (x:=val a) (y:=val e) (L:=1000) (M:=1000) (Yd (zac a) (by omega)) (Yd (zac e) (by omega));omega
 have l2:(ofN (val b*val d)).length<=2000:=by
  have:=za0 (x:=val b) (y:=val d) (L:=1000) (M:=1000) (Yd (zac b) (by omega)) (Yd (zac d) (by omega));omega
 have l4:(ofN (val d*val e)).length<=2000:=by
  have:=za0 (x:=val d) (y:=val e) (L:=1000) (M:=1000) (Yd (zac d) (by omega)) (Yd (zac e) (by omega));omega
 have c3:=zz9 (T:=T) n m (ofN (val a*val e)) (ofN (val b*val d)) (by omega) (by omega);have e3:wv n (ofN (val a*val e))+wv m (ofN (val b*val d))=sg n (val a)*(val e:Int)+sg m (val b)*(val d:Int):=by
  grind[wv,zad,z9c]
 have l3:(ofN (sg n (val a)*(val e:Int)+sg m (val b)*(val d:Int)).natAbs).length<=3000:=by
  rw[<-e3];have:=zcy (x:=wv n (ofN (val a*val e))) (y:=wv m (ofN (val b*val d))) (L:=2000) (Yd (zb7 _ _) l1) (Yd (zb7 _ _) l2);omega
 rw[e3]at c3;obtain⟨z,hz⟩:∃z,z=sg n (val a)*(val e:Int)+sg m (val b)*(val d:Int):=⟨_,rfl⟩;rw[<-hz]at c3 l3;have c5:=za8 (T:=T) (decide (z<0),ofN z.natAbs,ofN (val d*val e)) (by unfold fsz;grind);have e1:fv (decide (z<0),ofN z.natAbs,ofN (val d*val e))=fv (n,a,d)+fv (m,b,e):=by
  unfold fv;simp only[zad,zkr];rw[hz];exact(Ydf _ _ h1 h2).symm
 rw[e1]at c5;rw[zaa Zq.h239 rfl,b239];simp -implicitDefEqProofs[c1,c2,c3,c4,c5,zq8]
def zcx(p q:Rat)(hp:sz p<=1000)(hq:sz q<=1000):Za T 239 [efz (fz p),efz (fz q)]=some (efz (fz (p+q))):=by
 have:=z0a (T:=T) (fz p) (fz q) hp hq (z6a p) (z6a q)
 simp_all
def zfz(p q:Rat)(hp:sz p<=1000)(hq:sz q<=1000):Za T 241 [efz (fz p),efz (fz q)]=some (efz (fz (p*q))):=by
 have:=zpt (T:=T) (fz p) (fz q) hp hq
 simp_all
end
section
variable{T:Tbl}[Zz T][Z8 T][Zx T][Zae T][Zw T][Zag T][Zq T][Z9 T]
def Zno(n i:Nat):St:=⟨[(0,.i .i64 n),(3,.bs (.loc 3) 1 3 0 i),(4,.i .i64 i)],[(.loc 3,⟨1,.own,3,Zb (List.replicate i (fz 0))⟩)],3⟩
def zvn(n:Nat)(hn:n<=300):Ze T 0 0 (.norm false [3]) l276_0 (Zno n 0)=some (.n,⟨[(3,.bs (.loc 3) 1 3 0 n)],[(.loc 3,⟨1,.own,3,Zb (List.replicate n (fz 0))⟩)],3⟩):=by
 refine zag (Zno n) n _ (fun i hi=>?_) ?_
 ·have h0:=zfx (T:=T);have hw:=zaw hi (by omega);have hp:=za6 (m:=List.replicate i (fz 0)) (n:=i) (by simp) (fz 0);have hml:(List.replicate i (fz 0)).length=i:=by simp
  have e:List.replicate (i+1) (fz 0)=List.replicate i (fz 0)++[fz 0]:=Ydz;have hb:i<=4294967295:=by omega
  have h3:(i:Int)<300:=by omega
  unfold Zno;rw[e];clear e;generalize List.replicate i (fz 0)=M at *
  generalize fz 0=z at *
  simp -implicitDefEqProofs[l276_0,hi,h3,hw,h0,hp,hml,hb]
 ·unfold Zno;generalize List.replicate n (fz 0)=M at *
  constructor<;>simp -implicitDefEqProofs[l276_0]
def zvo(n:Nat)(hn:n<=300):Za T 276 [.i .i64 n]=some (.sl (Zb (List.replicate n (fz 0))) .an):=by
 have h:=zvn (T:=T) n hn;unfold Zno at h;simp only[Ydg,zay,Yp]at h;have hl:(List.replicate n (fz 0)).length=n:=by simp
 rw[zaa Z9.h276 rfl,b276];generalize List.replicate n (fz 0)=M at *
 have ht:List.take n M=M:=Ya (by omega);simp -implicitDefEqProofs[h,hl,ht]
def Znp(l:List Fz)(i:Nat):St:=⟨[(0,.sl (Zb l) .an),(3,.bs (.loc 3) 1 3 0 i),(4,.i .i64 i)],[(.loc 3,⟨1,.own,3,Zb (nrm (l.take i))⟩)],3⟩
def zvp(l:List Fz)(hl:l.length<=1000)(hw:∀x∈l,fsz x<=1000) :
  Ze T 0 0 (.norm false [3]) l278_0 (Znp l 0)=some (.n,⟨[(3,.bs (.loc 3) 1 3 0 l.length)],[(.loc 3,⟨1,.own,3,Zb (nrm l)⟩)],3⟩):=by
 refine zag (Znp l) l.length _ (fun i hi=>?_) ?_
 ·have hg:l[i]? = some (l[i]'hi):=Yb hi;have hws:=zaw hi (by omega);have hn:=za8 (T:=T) (l[i]'hi) (Yd (hw _ (Yi hi)) (by decide));have e:nrm (l.take (i+1))=nrm (l.take i)++[fz (fv (l[i]'hi))]:=zdg l _ hi;have hml:(nrm (l.take i)).length=i:=by simp[nrm];omega
  have hp:=za6 hml (fz (fv (l[i]'hi)));unfold Znp;rw[e];clear e;generalize nrm (l.take i)=M at *
  generalize fz (fv (l[i]'hi))=z at *
  have hb:i<=4294967295:=by omega
  simp -implicitDefEqProofs[l278_0,hi,hws,hn,hp,hml,hb]
 ·unfold Znp;rw[Ya (Ye _)];generalize nrm l=M;constructor<;>simp -implicitDefEqProofs[l278_0]
def zd2(l:List Fz)(hl:l.length<=1000)(hw:∀x∈l,fsz x<=1000):Za T 278 [.sl (Zb l) .an]=some (.sl (Zb (nrm l)) .an):=by
 have h:=zvp (T:=T) l hl hw;unfold Znp at h;have e:nrm (l.take 0)=[]:=rfl;rw[e]at h;simp only[zay,Yp]at h;have hl2:(nrm l).length=l.length:=by simp[nrm]
 have ht:List.take l.length (nrm l)=nrm l:=Ya (by omega);rw[zaa Z9.h278 rfl,b278];simp -implicitDefEqProofs[h,ht,hl2]
def Zmm(a b:List Fz)(i:Nat):St:=⟨[(0,.sl (Zb a) .an),(1,.sl (Zb b) .an),(5,.i .i64 i)],[],2⟩
def zvq(a b:List Fz)(hab:a.length=b.length)(hl:a.length<=1000)(ha:∀x∈a,fsz x<=10000) :
  Ze T 0 0 (.norm false []) l279_0 (Zmm a b 0)=if a.drop 0=b.drop 0 then some (.n,⟨[],[],2⟩) else some (.r,⟨[(4,.b false)],[],2⟩):=by
 refine zap (Zmm a b) a.length (fun i=>if a.drop i=b.drop i then some (.n,⟨[],[],2⟩) else some (.r,⟨[(4,.b false)],[],2⟩)) (fun i hi=>?_) ?_
 ·have hga:a[i]? = some (a[i]'hi):=Yb hi;have hib:i<b.length:=by omega
  have hgb:b[i]? = some (b[i]'hib):=Yb hib;have hws:=zaw hi (by omega);have c:=zcw (T:=T) (a[i]'hi) (b[i]'hib) (ha _ (Yi hi));have hib':(i:Int)<b.length:=by omega
  have key:(a.drop i=b.drop i)↔((a[i]'hi)=(b[i]'hib)/\a.drop (i+1)=b.drop (i+1)):=by
   grind[List.drop_eq_getElem_cons]
  by_cases he:(a[i]'hi)=(b[i]'hib)
  ·left;refine⟨?_,by grind⟩;unfold Zmm;rw[decide_eq_true he]at c;clear he;simp -implicitDefEqProofs[l279_0,hi,hws,c,hib,hib']
  ·right;rw[if_neg (fun h=>he (key.1 h).1)];unfold Zmm;rw[decide_eq_false he]at c;clear he;constructor<;>simp -implicitDefEqProofs[l279_0,hi,c,hib,hib']
 ·rw[Yw,if_pos (by rw[hab,Yw])];unfold Zmm;constructor<;>simp -implicitDefEqProofs[l279_0]
def zvr(a b:List Fz)(hl:a.length<=1000)(ha:∀x∈a,fsz x<=10000):Za T 279 [.sl (Zb a) .an,.sl (Zb b) .an]=some (.b (decide (a=b))):=by
 rw[zaa Z9.h279 rfl,b279];by_cases hab:a.length=b.length
 ·have h:=zvq (T:=T) a b hab hl ha;rw[Y6,Y6]at h;unfold Zmm at h;simp only[Yp]at h;have hab':(b.length:Int)=a.length:=by omega
  by_cases he:a=b
  ·subst he;rw[if_pos rfl]at h;simp -implicitDefEqProofs[h]
  ·rw[if_neg he]at h;simp -implicitDefEqProofs[hab',h,he]
 ·have he:¬ a=b:=fun h=>hab (by rw[h]);have hab':¬ (a.length:Int)=b.length:=by omega
  simp -implicitDefEqProofs[hab',he]
def Zub(p q:List Rat)(i:Nat):St:=⟨[(0,.sl (Zb (fzs p)) .an),(1,.sl (Zb (fzs q)) .an),(5,.bs (.loc 5) 1 3 0 i),(6,.i .i64 i)],[(.loc 5,⟨1,.own,3,Zb (fzs ((Zbm p (fzs q)).take i))⟩)],3⟩
def Zuc(p q:List Rat)(i:Nat):St:=⟨[(0,.sl (Zb (fzs p)) .an),(1,.sl (Zb (fzs q)) .an),(4,.ptr (.loc 4) 1 3 0 0),(5,.ptr (.loc 5) 2 3 0 0),(6,.i .i64 i)],
 [(.loc 4,⟨1,.str,3,[Zfb]⟩),(.loc 5,⟨2,.str,3,[Zau (fz (Zqm (fzs p) (fzs q) i))]⟩)],4⟩
def Zam(l:List Fz)(many words:Nat):Bool:=decide (many<l.length) || l.any fun x=>decide (words<fsz x)
def Zir(l:List Fz)(many words:Nat)(i:Nat):St:=⟨[(0,.sl (Zb l) .an),(1,.i .i64 many),(2,.i .i64 words),(7,.i .i64 i)],[],2⟩
def zvs(l:List Fz)(many words:Nat)(hl:l.length<=many)(hm:many<=1000) :
  Ze T 0 0 (.norm false [0,1]) l286_0 (Zir l many words 0)=if (l.drop 0).any (fun x=>decide (words<fsz x))=true then some (.r,⟨[(6,.b true)],[],2⟩) else some (.n,⟨[(0,.sl (Zb l) .an),(1,.i .i64 many)],[],2⟩):=by
 refine zap (Zir l many words) l.length (fun i=>if (l.drop i).any (fun x=>decide (words<fsz x))=true then some (.r,⟨[(6,.b true)],[],2⟩) else some (.n,⟨[(0,.sl (Zb l) .an),(1,.i .i64 many)],[],2⟩)) (fun i hi=>?_) ?_
 ·have hga:l[i]? = some (l[i]'hi):=Yb hi;have hws:=zaw hi (by omega);have c:=zfy (T:=T) (l[i]'hi) words;have h3:(i:Int)<many:=by omega
  have h4:i<many:=by omega
  have key:(l.drop i).any (fun x=>decide (words<fsz x))=(decide (words<fsz (l[i]'hi)) || (l.drop (i+1)).any fun x=>decide (words<fsz x)):=by
   rw[Yg hi,Yd1]
  by_cases he:words<fsz (l[i]'hi)
  ·right;rw[if_pos (by rw[key,decide_eq_true he,Yef])];rw[decide_eq_true he]at c;unfold Zir;clear key he;constructor<;>simp -implicitDefEqProofs[l286_0,hi,h3,c]
  ·left;refine⟨?_,by grind⟩;rw[decide_eq_false he]at c;unfold Zir;clear key he;simp -implicitDefEqProofs[l286_0,hi,h3,hws,c]
 ·rw[Yw,if_neg (by simp)];unfold Zir;constructor<;>simp -implicitDefEqProofs[l286_0]
theorem zvt(l:List Fz)(many words:Nat)(hl:l.length<=many)(hm:many<=1000):Za T 286 [.sl (Zb l) .an,.i .i64 many,.i .i64 words]=some (.b (Zam l many words)):=by
 have h:=zvs (T:=T) l many words hl hm;rw[Y6]at h;unfold Zir at h;simp only[Yp]at h;have h1:¬ (many:Int)<l.length:=by omega
 have h2:¬ many<l.length:=by omega
 unfold Zam;rw[zaa Z9.h286 rfl,b286];cases hc:l.any fun x=>decide (words<fsz x) with
 | true=>
  rw[hc,if_pos rfl]at h;simp -implicitDefEqProofs[h,h2]
 | false=>
  rw[hc,if_neg (by decide)]at h;simp -implicitDefEqProofs[h,h1,h2]
def zvu(l:List Fz)(many words:Nat)(hl:many<l.length)(hm:many<=1000) :
  ∃r,(r=some (.r,(⟨[(6,.b true)],[],2⟩:St))\/r=some (.n,⟨[(0,.sl (Zb l) .an),(1,.i .i64 many)],[],2⟩))/\Ze T 0 0 (.norm false [0,1]) l286_0 (Zir l many words 0)=r:=by
 obtain⟨G,hG⟩:∃G:Nat->Option (Ex×St),G=fun i=>if ((l.take many).drop i).any (fun x=>decide (words<fsz x))=true then some (.r,⟨[(6,.b true)],[],2⟩) else some (.n,⟨[(0,.sl (Zb l) .an),(1,.i .i64 many)],[],2⟩):=⟨_,rfl⟩
 refine⟨G 0,?_,zap (Zir l many words) many G (fun i hi=>?_) ?_⟩
 ·grind
 ·have hil:i<l.length:=by omega
  have hil':(i:Int)<l.length:=by omega
  have hga:l[i]? = some (l[i]'hil):=Yb hil;have hws:=zaw hi (by omega);have c:=zfy (T:=T) (l[i]'hil) words;have key:((l.take many).drop i).any (fun x=>decide (words<fsz x))=(decide (words<fsz (l[i]'hil)) || ((l.take many).drop (i+1)).any fun x=>decide (words<fsz x)):=by
   grind[List.drop_eq_getElem_cons]
  by_cases he:words<fsz (l[i]'hil)
  ·right;rw[hG];simp only;rw[if_pos (by rw[key,decide_eq_true he,Yef])];rw[decide_eq_true he]at c;unfold Zir;clear key he hG;constructor<;>simp -implicitDefEqProofs[l286_0,hi,hil,hil',c]
  ·left;refine⟨?_,by grind⟩;rw[decide_eq_false he]at c;unfold Zir;clear key he hG;simp -implicitDefEqProofs[l286_0,hi,hil,hil',hws,c]
 ·rw[hG];simp only;rw[Ya7 (by grind),if_neg (by simp)];have h1:(many:Int)<l.length:=by omega
  unfold Zir;constructor<;>simp -implicitDefEqProofs[l286_0,h1]
theorem zrj(l:List Fz)(many words:Nat)(hl:many<l.length)(hm:many<=1000):Za T 286 [.sl (Zb l) .an,.i .i64 many,.i .i64 words]=some (.b true):=by
 obtain⟨r,hr,h⟩:=zvu (T:=T) l many words hl hm;unfold Zir at h;simp only[Yp]at h;have h1:(many:Int)<l.length:=by omega
 rw[zaa Z9.h286 rfl,b286];rcases hr with rfl | rfl
 ·simp -implicitDefEqProofs[h]
 ·simp -implicitDefEqProofs[h,hl]
def zb0(l:List Fz)(many words:Nat)(hm:many<=1000):Za T 286 [.sl (Zb l) .an,.i .i64 many,.i .i64 words]=some (.b (Zam l many words)):=by
 grind[zrj,Zam,zvt]
def zbb{l:List Fz}{many words:Nat}(h:Zam l many words=false):l.length<=many/\∀x∈l,fsz x<=words:=by
 grind[Zam]
end
def z9l{x j:Nat}(h1:2^j<=x)(h2:x<2^(j+1)):Zbe x=j+1:=by
 have hx:x≠0:=by
  have:=Ybe (n:=j) (show 0<2 by decide);omega
 unfold Zbe;rw[if_neg hx,(Nat.log2_eq_iff hx).2 ⟨h1,h2⟩]
def Zlz(n:Int):Nat:=(min (max n 0) 300).toNat
section
variable{T:Tbl}[Zx T]
def z42(a:List UInt32)(hl:a.length<=1000000):∀y:Nat,(y<=32*a.length/\val a<2^y)->Ze T 0 0 (.norm false [3]) l95_0 (Zjm a y)=some (.n,⟨[(3,.i .i64 (Zbe (val a)))],[],2⟩):=by
 refine za4 (Zjm a) (fun y=>y<=32*a.length/\val a<2^y) (fun y=>y) (fun _=>_) ?_
 rintro k ⟨hk,hv⟩
 by_cases h0:k=0
 ·right;subst h0;have hz:val a=0:=by
   rw[Ydu]at hv;omega
  have hb:Zbe (val a)=0:=by rw[hz];rfl
  rw[hb];constructor<;>simp -implicitDefEqProofs[l95_0,Zjm]
 ·obtain⟨j,rfl⟩:∃j,k=j+1:=⟨k-1,by omega⟩;have hw:IntKind.wrap .i64 (j:Int)=(j:Int):=zab _ (by omega);have hh:=zpo (T:=T) a j hl (by omega);have hp:(0:Int)<(j:Int)+1:=by omega
  by_cases h1:val a/2^j%2=1
  ·right;have hge:2^j<=val a:=by
    rcases Yy (val a) (2^j) with h | h
    ·rw[Ya3 h]at h1;omega
    ·exact h
   rw[z9l hge hv];clear hge hv;constructor<;>simp -implicitDefEqProofs[l95_0,Zjm,hw,hh,hp,h1]
  ·left;refine⟨j,⟨by omega,zp7 hv (by generalize val a/2^j=q at *;omega)⟩,by omega,?_,rfl⟩;clear hv;simp -implicitDefEqProofs[l95_0,Zjm,hw,hh,hp,h1]
def zme(a:List UInt32)(hl:a.length<=1000000):Za T 95 [.sl (Zc a) .an]=some (.i .i64 (Zbe (val a))):=by
 have hr:=z42 (T:=T) a hl (32*a.length) ⟨Ye _,by rw[<-zp5];exact za3 a⟩;unfold Zjm at hr;simp at hr;have hw:IntKind.wrap .i64 (32*(a.length:Int))=32*(a.length:Int):=by
  have:=zab (32*a.length) (by omega);simpa using this
 rw[zaa Zx.h95 rfl,b95];simp -implicitDefEqProofs[hr,hw]
end
section
variable{T:Tbl}[Zu T][Zy T][Z0 T][Zt T][Zp T][Zbd T][Zi T][Zl T][Zs T][Zba T][Zbt T]
def Zta(n i:Int):List Rat:=if 0<=i/\i<Zlz n then (List.replicate (Zlz n) 0).set i.toNat 1 else List.replicate (Zlz n) 0
end
section
variable{T:Tbl}[Zz T][Z8 T][Zx T][Zae T][Zw T][Zag T][Zq T][Z9 T]
def Ztb(n:Int)(i:Nat):St:=⟨[(0,.i .i64 n),(3,.bs (.loc 3) 1 3 0 i),(4,.i .i64 i)],[(.loc 3,⟨1,.own,3,Zb (List.replicate i (fz 0))⟩)],3⟩
end
def zdz{m:List (List Fz)}{n:Nat}(h:m.length=n)(r:List Fz):wkL (Zd (List.take n m)++[[.sl (Zb r) .an]])=Zd (m++[r]):=by
 rw[Ya (by omega),zfi,zai]
def zfa{α:Type}(l:List α){i:Nat}(h:i<l.length):l.take (i+1)=l.take i++[l[i]'h]:=Y4 h
section
variable{T:Tbl}[Zz T][Z8 T][Zx T][Zae T][Zw T][Zag T][Zq T][Z9 T][Zdd T][Zcx T]
def zer(x:Fz):Za T 248 [efz x]=some (efz x):=by
 rw[zaa Zdd.h248 rfl,b248];simp -implicitDefEqProofs
def z3j(x:Fz):Za T 249 [efz x]=some (efz x):=by
 rw[zaa Zdd.h249 rfl,b249];simp -implicitDefEqProofs
def Zjf(l:List Fz)(i:Nat):St:=⟨[(0,.sl (Zb l) .an),(3,.bs (.loc 3) 1 3 0 i),(4,.i .i64 i)],[((.loc 3),⟨1,.own,3,Zb (l.take i)⟩)],3⟩
def zy9(l:List Fz)(hl:l.length<=4294967296) :
  Ze T 0 0 (.norm false [3]) l287_0 (Zjf l 0)=some (.n,⟨[(3,.bs (.loc 3) 1 3 0 (l.length))],[((.loc 3),⟨1,.own,3,Zb (l.take (l.length))⟩)],3⟩):=by
 refine zag (Zjf l) (l.length) _ (fun i hi=>?_) ?_
 ·have hws:=zaw hi (by omega);have hb:i<=4294967295:=by omega
  have hg:l[i]? = some (l[i]'hi):=Yb hi;have hn:=zer (T:=T) (l[i]'hi);have e:=zfa l hi;have hml:(l.take i).length=i:=by simp;omega
  have hp:=za6 hml (l[i]'hi);unfold Zjf;rw[e];clear e;generalize l.take i=M at *
  simp -implicitDefEqProofs[l287_0,hi,hws,hb,hp,hml,hg,hn]
 ·unfold Zjf;rw[Ya (Ye _)];constructor<;>simp -implicitDefEqProofs[l287_0]
def zde(l:List Fz)(hl:l.length<=4294967296):Za T 287 [.sl (Zb l) .an]=some (.sl (Zb l) .an):=by
 have h:=zy9 (T:=T) l hl;unfold Zjf at h;rw[Yaz,Ya (Ye _)]at h;simp only[zay,Yp]at h;have ht:List.take l.length l=l:=Ya (Ye _);rw[zaa Zcx.h287 rfl,b287];simp -implicitDefEqProofs[h,ht]
def Zjg(l:List Fz)(i:Nat):St:=⟨[(0,.sl (Zb l) .an),(3,.bs (.loc 3) 1 3 0 i),(4,.i .i64 i)],[((.loc 3),⟨1,.own,3,Zb (l.take i)⟩)],3⟩
def zza(l:List Fz)(hl:l.length<=4294967296) :
  Ze T 0 0 (.norm false [3]) l288_0 (Zjg l 0)=some (.n,⟨[(3,.bs (.loc 3) 1 3 0 (l.length))],[((.loc 3),⟨1,.own,3,Zb (l.take (l.length))⟩)],3⟩):=by
 refine zag (Zjg l) (l.length) _ (fun i hi=>?_) ?_
 ·have hws:=zaw hi (by omega);have hb:i<=4294967295:=by omega
  have hg:l[i]? = some (l[i]'hi):=Yb hi;have hn:=z3j (T:=T) (l[i]'hi);have e:=zfa l hi;have hml:(l.take i).length=i:=by simp;omega
  have hp:=za6 hml (l[i]'hi);unfold Zjg;rw[e];clear e;generalize l.take i=M at *
  simp -implicitDefEqProofs[l288_0,hi,hws,hb,hp,hml,hg,hn]
 ·unfold Zjg;rw[Ya (Ye _)];constructor<;>simp -implicitDefEqProofs[l288_0]
def z3k(l:List Fz)(hl:l.length<=4294967296):Za T 288 [.sl (Zb l) .an]=some (.sl (Zb l) .an):=by
 have h:=zza (T:=T) l hl;unfold Zjg at h;rw[Yaz,Ya (Ye _)]at h;simp only[zay,Yp]at h;have ht:List.take l.length l=l:=Ya (Ye _);rw[zaa Zcx.h288 rfl,b288];simp -implicitDefEqProofs[h,ht]
def zm7(a b:List Fz)(hl:a.length<=1000)(ha:∀x∈a,fsz x<=10000):Za T 289 [.sl (Zb a) .an,.sl (Zb b) .an]=some (.b (decide (a=b))):=by
 have h1:=z3k (T:=T) a (by omega);have h2:=zvr (T:=T) a b hl ha;rw[zaa Zcx.h289 rfl,b289];simp -implicitDefEqProofs[h1,h2]
end
def Zpr:List (List Fz)->Nat
 | []=>0
 | r::_=>r.length
def Zrp(m:List (List Fz)):Bool:=m.all fun r=>decide (r.length=Zpr m)
def Zqg(m:List (List Fz))(j:Nat):List Fz:=m.map fun r=>r.getD j (false,[],[])
def Zqh(m:List (List Fz))(k:Nat):List (List Fz):=(List.range k).map fun j=>nrm (Zqg m j)
def scM(r:List Fz)(m:List (List Fz)):List (List Fz):=List.zipWith (fun x row=>scl (fv x) row) r m
def Zrq:List (List Fz)->List Rat
 | []=>[]
 | r::m=>m.foldl Zbm (r.map fv)
def Zqi(r:List Fz)(m:List (List Fz)):List Rat:=Zrq (scM r m)
def Zps(m:List (List Fz))(c:List Fz):List Rat:=m.map fun r=>Zpw r c
section
variable{T:Tbl}[Zu T][Zy T][Z0 T][Zt T][Zp T][Zbd T][Zi T][Zl T][Zs T][Zba T][Zbt T][Zij T]
def Zsj(m:List (List Fz))(i:Nat):St:=⟨[(0,.sl (Zd m) .an),(5,.sl (Zd m) .an),(6,.i .i64 m.length),(7,.i .i64 i)],[],2⟩
def Zsk(a b:List (List Fz))(i:Nat):St:=⟨[(1,.sl (Zd b) .an),(12,.sl (Zd a) .an),(13,.i .i64 a.length),(14,.i .i64 i)],[],2⟩
def idQ(k:Nat)(i:Nat):List (List Fz):=(List.range i).map fun j=>fzs ((List.replicate k 0).set j 1)
def Zsl(k:Nat)(i:Nat):St:=⟨[(0,.i .i64 k),(3,.bs (.loc 3) 1 1 0 i),(8,.i .i64 k),(9,.i .i64 i)],[((.loc 3),⟨1,.own,1,Zd (idQ k i)⟩)],3⟩
def Zsm(m R:List (List Fz))(k j:Nat)(i:Nat):St:=⟨[(0,.sl (Zd m) .an),(3,.bs (.loc 3) 1 1 0 j),(4,.i .i64 j),(5,.bs (.loc 5) 2 3 0 i),(12,.i .i64 k),(13,.i .i64 j),(16,.sl (Zd m) .an),(17,.i .i64 m.length),(18,.i .i64 i)],[(.loc 3,⟨1,.own,1,Zd R⟩),((.loc 5),⟨2,.own,3,Zb (nrm (Zqg (m.take i) j))⟩)],4⟩
def Zrg(m:List (List Fz))(k:Nat)(i:Nat):St:=⟨[(0,.sl (Zd m) .an),(3,.bs (.loc 3) 1 1 0 i),(12,.i .i64 k),(13,.i .i64 i)],[((.loc 3),⟨1,.own,1,Zd (Zqh m i)⟩)],3⟩
end
section
variable{T:Tbl}[Zu T][Zy T][Z0 T][Zt T][Zp T][Zbd T][Zi T][Zl T][Zs T][Zba T][Zbt T][Zij T]
def Zsn(r:List Fz)(m:List (List Fz))(i:Nat):St:=⟨[(0,.sl (Zb r) .an),(6,.bs (.loc 6) 1 1 0 i),(19,.sl (Zd m) .an),(20,.i .i64 m.length),(21,.i .i64 i)],[((.loc 6),⟨1,.own,1,Zd (scM (r.take i) (m.take i))⟩)],3⟩
def Zso(m:List (List Fz))(c:List Fz)(i:Nat):St:=⟨[(1,.sl (Zb c) .an),(6,.bs (.loc 6) 1 3 0 i),(21,.sl (Zd m) .an),(22,.i .i64 m.length),(23,.i .i64 i)],[((.loc 6),⟨1,.own,3,Zb (fzs (Zps (m.take i) c))⟩)],3⟩
def Zrr(a b:List (List Fz)):List (List Fz):=a.map fun r=>fzs (Zqi r b)
def Zsp(a m:List (List Fz))(i:Nat):St:=⟨[(1,.sl (Zd m) .an),(6,.bs (.loc 6) 1 1 0 i),(26,.sl (Zd a) .an),(27,.i .i64 a.length),(28,.i .i64 i)],[((.loc 6),⟨1,.own,1,Zd (Zrr (a.take i) m)⟩)],3⟩
def Zrs(a b:List (List Fz)):List (List Fz):=List.zipWith (fun r s=>fzs (Zbm (r.map fv) s)) a b
def Zsq(a m:List (List Fz))(i:Nat):St:=⟨[(1,.sl (Zd m) .an),(6,.bs (.loc 6) 1 1 0 i),(33,.sl (Zd a) .an),(34,.i .i64 a.length),(35,.i .i64 i)],[((.loc 6),⟨1,.own,1,Zd (Zrs (a.take i) (m.take i))⟩)],3⟩
end
def Zq7:List Rat->List Rat->Rat
 | x::a,y::b=>x*y+Zq7 a b
 | _,_=>0
def Zsa(m:List (List Fz)):List (List Rat):=m.map fun r=>r.map fv
def fzM(L:List (List Rat)):List (List Fz):=L.map fzs
def Zn7:List (List Rat)->Nat
 | []=>0
 | r::_=>r.length
def Zsb(L:List (List Rat)):Bool:=L.all fun r=>decide (r.length=Zn7 L)
def Zpy(L:List (List Rat))(j:Nat):List Rat:=L.map fun p=>p.getD j 0
def Zq8(L:List (List Rat)):List (List Rat):=(List.range (Zn7 L)).map (Zpy L)
def Zn8(L:List (List Rat))(c:List Rat):List Rat:=L.map fun p=>Zq7 p c
def Ztl(r:List Rat)(L:List (List Rat)):List Rat:=Zn8 (Zq8 L) r
def Zqf(q:Rat):Rat:=if q<0 then -q else q
def z5k(acc:List Rat)(r:List Fz):Zbm acc r=List.zipWith (· + ·) acc (r.map fv):=by
 unfold Zbm;rw[Ye0]
def z5l(acc b:List Rat):Zbm acc (fzs b)=List.zipWith (· + ·) acc b:=by
 rw[z5k,zff]
def Zff(c:Rat)(l:List Rat):List Rat:=l.map fun x=>c*x
theorem z92(c:Rat)(l:List Fz):scl c l=fzs (Zff c (l.map fv)):=by
 rw[z9j];unfold Zff;rw[Ybh]
 rfl
def z5m(c:Rat)(l:List Rat):(Zff c l).length=l.length:=by simp[Zff]
def zr0{c:Rat}{l:List Rat}{B C:Nat}(hc:sz c<=C)(hl:∀q∈l,sz q<=B):∀q∈Zff c l,sz q<=C+B:=by
 intro q hq;obtain⟨x,hx,rfl⟩:=Yl.1 hq;have h1:=zd8 c x;have h2:=hl x hx;omega
def Zjx(a b:List Rat):List Rat:=List.zipWith (· + ·) a b
def z16{a b:List Rat}{A B:Nat}(ha:∀q∈a,sz q<=A)(hb:∀q∈b,sz q<=B):∀q∈Zjx a b,sz q<=A+B+1:=by
 intro q hq;obtain⟨i,hi,rfl⟩:=Ydh hq;simp only[Zjx,Yco]at hi;simp only[Zjx,Yck];have h1:=zez (a[i]'(by omega)) (b[i]'(by omega));have h2:=ha _ (Yi (show i<a.length by omega));have h3:=hb _ (Yi (show i<b.length by omega));omega
def Zov(b x:Rat):Rat:=if b<Zqf x then Zqf x else b
def Zmc(l:List Rat):Rat:=l.foldl Zov 0
def Zsd:List (Rat×List Rat)->List Rat->List Rat
 | [],acc=>acc
 | p::l,acc=>Zsd l (Zjx acc (Zff p.1 p.2))
def sqC:List UInt32->Nat
 | []=>0
 | x::r=>4294967296*(x.toNat*val r)+4294967296*4294967296*sqC r
def sqD:List UInt32->Nat
 | []=>0
 | x::r=>x.toNat*x.toNat+4294967296*4294967296*sqD r
section
variable{T:Tbl}[Z2 T][Zu T][Zy T][Z0 T][Zc5 T]
def zta(a:List UInt32)(ha:a.length<=1000000):Za T 356 [.sl (Zc a) .an]=some (.i .i64 (Zbe (val a))):=by
 have h1:=zb5 (T:=T) a (by omega);have hl:=zac a;have hv:val (ofN (val a))=val a:=zad _;rw[zaa Zc5.h356 rfl,b356];by_cases h0:val a=0
 ·have e:ofN (val a)=[]:=zau.2 h0;have eb:Zbe (val a)=0:=by rw[h0];rfl
  rw[e]at h1;rw[eb];simp -implicitDefEqProofs[h1]
 ·have hne:ofN (val a)≠[]:=fun h=>h0 (zau.1 h);obtain⟨B,x,hB⟩:∃B x,ofN (val a)=B++[x]:=⟨_,_,(List.dropLast_concat_getLast hne).symm⟩;have hx0:x.toNat≠0:=by
   intro hx;have e1:val (ofN (val a))=val B:=by
    rw[hB,zaj];simp[hx]
   have e2:ofN (val B)=ofN (val a):=by rw[<-e1,zad]
   have e3:=zac B;rw[e2,hB]at e3;simp at e3;omega
  have hlog:Zbe (val a)=32*B.length+Zbe x.toNat:=by
   have hdiv:val a/2^(32*B.length)=x.toNat:=by
    have e1:val a=val B+4294967296^B.length*x.toNat:=by
     rw[<-hv,hB,zaj];simp
    have e2:2^(32*B.length)=4294967296^B.length:=by
     rw[Yfj]
    have e3:=za3 B;rw[e2,e1,Yb6 _ _ (by omega),Ya3 e3,Yap]
   have:=zl8 (n:=val a) (s:=32*B.length) (by rw[hdiv];exact hx0);rw[hdiv]at this;exact this
  have hbl:B.length+1<=1000000:=by
   have:=congrArg List.length hB;simp at this;omega
  have hL:=zs8 (T:=T) x;have hb32:Zbe x.toNat<=32:=by
   have hx:=zan x;unfold Zbe;split
   ·omega
   ·have:=(Yeq (n:=x.toNat) (k:=32) (by assumption)).2 (by omega);omega
  rw[hB]at h1;rw[hlog];have w2:IntKind.wrap .i64 (32*(B.length:Int))=32*(B.length:Int):=zab _ (by omega);have w3:IntKind.wrap .i64 (32*(B.length:Int)+(Zbe x.toNat:Int))=32*(B.length:Int)+(Zbe x.toNat:Int):=zab _ (by omega);have w4:IntKind.wrap .i64 (B.length:Int)=B.length:=zab _ (by omega);have n1:¬ (B.length:Int)+1=0:=by omega
  have n2:(B.length:Int)<(B.length:Int)+1:=by omega
  simp -implicitDefEqProofs[h1,hL,w2,w3,w4,n1,n2]
def Zs0(a X:List UInt32)(i:Nat):St:=
 ⟨[(0,.sl (Zc a) .an),(3,.bs (.loc 14) 1 1 0 (2*a.length+1)),(15,.sl (Zc a) .an),(16,.i .i64 a.length),(17,.i .i64 i)],[(.loc 14,⟨1,.own,1,Zc (X++List.replicate (a.length+1-i) 0)⟩)],3⟩
def Zs1(a X:List UInt32)(U:List (List AV))(i:Nat):St:=
 ⟨[(6,.sl U .an),(7,.bs (.loc 38) 1 1 0 (2*a.length)),(39,.sl (Zc a) .an),(40,.i .i64 a.length),(41,.i .i64 i)],[(.loc 38,⟨1,.own,1,Zc (X++List.replicate (2*a.length-2*i) 0)⟩)],3⟩
end
section
variable{T:Tbl}[Zz T][Z8 T][Zx T][Zae T][Zw T][Zag T][Zq T][Z9 T][Zgm T]
def Zs3(m:List (List Fz))(i:Nat):St:=⟨[(0,.sl (Zd m) .an),(3,.i .i64 i)],[],2⟩
def Zs4(m:List (List Fz))(i:Nat):St:=⟨[(0,.sl (Zd m) .an),(3,.bs (.loc 3) 1 1 0 i),(4,.i .i64 i)],[((.loc 3),⟨1,.own,1,Zd (fzM (Zsa (m.take i)))⟩)],3⟩
def Zs5(a b:List (List Fz))(i:Nat):St:=⟨[(0,.sl (Zd a) .an),(1,.sl (Zd b) .an),(5,.i .i64 i)],[],2⟩
def Zs6(n:Int)(k:Nat)(i:Nat):St:=⟨[(0,.i .i64 n),(3,.bs (.loc 3) 1 1 0 i),(4,.i .i64 i)],[((.loc 3),⟨1,.own,1,Zd (idQ k i)⟩)],3⟩
def Zrw(L:List (List Rat))(R:List (List Fz))(j:Nat)(i:Nat):St:=⟨[(0,.sl (Zd (fzM L)) .an),(3,.bs (.loc 3) 1 1 0 j),(4,.i .i64 j),(5,.bs (.loc 5) 2 3 0 i),(6,.i .i64 i)],[(.loc 3,⟨1,.own,1,Zd R⟩),((.loc 5),⟨2,.own,3,Zb (fzs (Zpy (L.take i) j))⟩)],4⟩
def Zrx(L:List (List Rat))(i:Nat):St:=⟨[(0,.sl (Zd (fzM L)) .an),(3,.bs (.loc 3) 1 1 0 i),(4,.i .i64 i)],[((.loc 3),⟨1,.own,1,Zd (fzM ((List.range i).map (Zpy L)))⟩)],3⟩
def Zs7(L:List (List Rat))(c:List Rat)(i:Nat):St:=⟨[(0,.sl (Zd (fzM L)) .an),(1,.sl (Zb (fzs c)) .an),(5,.bs (.loc 5) 1 3 0 i),(6,.i .i64 i)],[((.loc 5),⟨1,.own,3,Zb (fzs (Zn8 (L.take i) c))⟩)],3⟩
def Zs8(m:List (List Fz))(many words:Nat):Bool:=decide (many<m.length) || m.any fun r=>Zam r many words
def Zs9(m:List (List Fz))(many words:Nat)(i:Nat):St:=⟨[(0,.sl (Zd m) .an),(1,.i .i64 many),(2,.i .i64 words),(7,.i .i64 i)],[],2⟩
end
def zaey{l:List Rat}{B:Nat}(h:∀q∈l,sz q<=B):∀x∈fzs l,fsz x<=B:=by
 intro x hx;obtain⟨q,hq,rfl⟩:=Yl.1 hx;exact h q hq
def z8m{l:List Fz}{B:Nat}(hB:1<=B)(h:∀x∈l,fsz x<=B):∀q∈l.map fv,sz q<=B:=by
 intro q hq;obtain⟨x,hx,rfl⟩:=Yl.1 hq;exact za2 (h x hx) hB
section
variable{T:Tbl}[Zu T][Zy T][Z0 T][Zt T][Zp T][Zbd T][Zi T][Zl T][Zs T][Zba T][Zbt T][Zij T][Zz T][Z8 T][Zx T][Zae T][Zw T][Zag T][Zq T][Z9 T][Zgm T][Zdd T][Zcx T][Zdz T]
def Zjh(m:List (List Fz))(i:Nat):St:=⟨[(0,.sl (Zd m) .an),(3,.bs (.loc 3) 1 1 0 i),(4,.i .i64 i)],[((.loc 3),⟨1,.own,1,Zd (m.take i)⟩)],3⟩
def zzb(m:List (List Fz))(hl:m.length<=1000000)(hw:∀r∈m,r.length<=1000000) :
  Ze T 0 0 (.norm false [3]) l308_0 (Zjh m 0)=some (.n,⟨[(3,.bs (.loc 3) 1 1 0 (m.length))],[((.loc 3),⟨1,.own,1,Zd (m.take (m.length))⟩)],3⟩):=by
 refine zag (Zjh m) (m.length) _ (fun i hi=>?_) ?_
 ·have hws:=zaw hi (by omega);have hb:i<=4294967295:=by omega
  have hn:=zde (T:=T) (m[i]'hi) (Yd (hw _ (Yi hi)) (by decide));have e:=zfa m hi;have hml:(m.take i).length=i:=by grind
  have hp:=zdz hml (m[i]'hi);unfold Zjh;simp -implicitDefEqProofs[l308_0,hi,hws,hb,hp,hml,hn]
 ·unfold Zjh;rw[Ya (Ye _)];constructor<;>simp -implicitDefEqProofs[l308_0]
def zs5(m:List (List Fz))(hl:m.length<=1000000)(hw:∀r∈m,r.length<=1000000):Za T 308 [.sl (Zd m) .an]=some (.sl (Zd m) .an):=by
 have h:=zzb (T:=T) m hl hw;unfold Zjh at h;rw[Yaz,Ya (Ye _)]at h;simp only[znp,Yp]at h;have ht:List.take m.length m=m:=Ya (Ye _);rw[zaa Zdz.h308 rfl,b308];simp -implicitDefEqProofs[h,ht]
def Zh4(a b:List (List Fz))(i:Nat):St:=⟨[(0,.sl (Zd a) .an),(1,.sl (Zd b) .an),(5,.i .i64 i)],[],2⟩
def zzc(a b:List (List Fz))(hab:a.length=b.length)(hl:a.length<=1000)(hw:∀r∈a,r.length<=1000)(ha:∀r∈a,∀x∈r,fsz x<=10000) :
  Ze T 0 0 (.norm false []) l309_0 (Zh4 a b 0)=if a.drop 0=b.drop 0 then some (.n,⟨[],[],2⟩) else some (.r,⟨[(4,.b false)],[],2⟩):=by
 refine zap (Zh4 a b) a.length (fun i=>if a.drop i=b.drop i then some (.n,⟨[],[],2⟩) else some (.r,⟨[(4,.b false)],[],2⟩)) (fun i hi=>?_) ?_
 ·have hib:i<b.length:=by omega
  have hws:=zaw hi (by omega);have c:=zm7 (T:=T) (a[i]'hi) (b[i]'hib) (hw _ (Yi hi)) (ha _ (Yi hi));have hib':(i:Int)<b.length:=by omega
  have key:(a.drop i=b.drop i)↔((a[i]'hi)=(b[i]'hib)/\a.drop (i+1)=b.drop (i+1)):=by
   grind[List.drop_eq_getElem_cons]
  by_cases he:(a[i]'hi)=(b[i]'hib)
  ·left;refine⟨?_,by grind⟩;unfold Zh4;rw[decide_eq_true he]at c;simp -implicitDefEqProofs[l309_0,hi,hws,c,hib,hib']
  ·right;rw[if_neg (fun h=>he (key.1 h).1)];unfold Zh4;rw[decide_eq_false he]at c;constructor<;>simp -implicitDefEqProofs[l309_0,hi,c,hib,hib']
 ·rw[Yw,if_pos (by rw[hab,Yw])];unfold Zh4;constructor<;>simp -implicitDefEqProofs[l309_0]
def zm8(a b:List (List Fz))(hl:a.length<=1000)(hw:∀r∈a,r.length<=1000)(ha:∀r∈a,∀x∈r,fsz x<=10000):Za T 309 [.sl (Zd a) .an,.sl (Zd b) .an]=some (.b (decide (a=b))):=by
 rw[zaa Zdz.h309 rfl,b309];by_cases hab:a.length=b.length
 ·have h:=zzc (T:=T) a b hab hl hw ha;rw[Y6,Y6]at h;unfold Zh4 at h;simp only[Yp]at h;have hab':(b.length:Int)=a.length:=by omega
  by_cases he:a=b
  ·subst he;simp -implicitDefEqProofs[h]
  ·simp -implicitDefEqProofs[hab',h,he]
 ·have he:¬ a=b:=fun h=>hab (by rw[h]);have hab':¬ (a.length:Int)=b.length:=by omega
  simp -implicitDefEqProofs[hab',he]
end
class Zp8 (T:Tbl):Prop where
def Zqk(l:List Rat):Nat->Nat
 | 0=>0
 | n+1=>if l.getD n 0=0 then Zqk l n else n+1
def Zsz(l:List Rat):List Rat:=l.take (Zqk l l.length)
def zj9(M:List Fz):Option.all (fun r:List AV=>decide (r.length=3)) (Zb M).head? = true:=by cases M<;>rfl
def zka{k:Int}(h1:-100<=k)(h2:k<=100):sz (k:Rat)<=1:=by
 unfold sz;rw[Rat.num_intCast,Rat.den_intCast,zfh];exact Yfl.2 ⟨zas (by omega),Ye _⟩
section
variable{T:Tbl}[Zu T][Zy T][Z0 T][Zt T][Zp T][Zbd T][Zi T][Zl T][Zs T][Zba T][Zbt T][Zp8 T]
def Zrv:List Rat->Rat->Rat
 | [],_=>0
 | a::l,x=>Zrv l x*x+a
def dif(l:List Rat):List Rat:=(List.range (l.length-1)).map fun(i:Nat)=>(((i:Int)+1:Int):Rat)*l.getD (i+1) 0
def Zt9(l:List Fz)(i:Nat):St:=⟨[(0,.sl (Zb l) .an),(3,.bs (.loc 3) 1 3 0 i),(4,.i .i64 ((i:Int)+1))],[((.loc 3),⟨1,.own,3,Zb (fzs ((dif (l.map fv)).take i))⟩)],3⟩
end
def Zcs(x:Fz):Nat:=Zbe (val x.2.1)+Zbe (val x.2.2)
def Zr0(l:List Fz):Nat:=l.foldl (fun n x=>max n (Zcs x)) 0
def zir{x k:Nat}(h:(ofN x).length<=k):Zbe x<=32*k:=by
 unfold Zbe;split
 ·omega
 ·next h0=>
  have h1:=za3 (ofN x);rw[zad]at h1;have h2:4294967296^(ofN x).length<=4294967296^k:=Y9 (by decide) h;have h3:(4294967296:Nat)^k=2^(32*k):=by rw[Yfj]
  have:=(Yeq (n:=x) (k:=32*k) h0).2 (by omega);omega
section
variable{T:Tbl}[Z2 T][Zu T][Zy T][Z0 T][Zt T][Zp T][Zbd T][Zi T][Zl T][Zs T][Zet T][Zap T][Zc5 T][Zba T][Zbt T][Zgo T]
def zv8(a b:List Fz)(ha:a.length<=900)(hab:b.length=a.length){B:Nat}(hB:1<=B)(hB2:B<=100)(h1:∀x∈a,fsz x<=B)(h2:∀x∈b,fsz x<=B) :
  Za T 268 [.sl (Zb a) .an,.sl (Zb b) .an]=some (.tup [.sl (Zb (fzs (Zjx (a.map fv) (Zff ((-1:Int):Rat) (b.map fv))))) .an,.b true]):=by
 have c1:=zm0 (T:=T) (-1) (by decide) (by decide);have sm:sz ((-1:Int):Rat)<=1:=zka (by decide) (by decide);have c2:=zhc (T:=T) (fz ((-1:Int):Rat)) (by rw[zax];omega) b (by omega) (fun x hx=>by grind);rw[zb6,z92]at c2;have hsl:(fzs (Zff ((-1:Int):Rat) (b.map fv))).length=a.length:=by rw[zae,z5m,Yk,hab]
 have hss:∀x∈fzs (Zff ((-1:Int):Rat) (b.map fv)),fsz x<=B+1:=zaey fun q hq=>by
  have:=zr0 (c:=((-1:Int):Rat)) (C:=1) sm (z8m hB h2) q hq;omega
 have c3:=z08 (T:=T) a [fzs (Zff ((-1:Int):Rat) (b.map fv))] (by omega) (by simp) (B:=B+1) (fun x hx=>by grind) (by
  grind) (by omega) (by grind) (by
  grind)
 have e:List.foldl Zbm (a.map fv) [fzs (Zff ((-1:Int):Rat) (b.map fv))]=Zjx (a.map fv) (Zff ((-1:Int):Rat) (b.map fv)):=by
  exact z5l _ _
 rw[e]at c3;have rm:Zd [a,fzs (Zff ((-1:Int):Rat) (b.map fv))]=[[.sl (Zb a) .an],[.sl (Zb (fzs (Zff ((-1:Int):Rat) (b.map fv)))) .an]]:=rfl;rw[rm]at c3;rw[zaa Zgo.h268 rfl,b268];generalize fzs (Zff ((-1:Int):Rat) (b.map fv))=S at *
 generalize fz ((-1:Int):Rat)=M at *
 simp -implicitDefEqProofs[c1,c2,c3]
def Zqn(b c:Rat)(i:Nat):Rat:=if i=0 then 0 else if i=1 then b else (if b<c then c else b)
def Zuh(b c:Rat)(i:Nat):St:=⟨[(2,.ptr (.loc 2) 1 3 0 0),(3,.ptr (.loc 3) 2 3 0 0),(7,.sl [Zau (fz b),Zau (fz c)] .an),(8,.i .i64 2),(9,.i .i64 i)],
 [(.loc 2,⟨1,.str,3,[Zfb]⟩),(.loc 3,⟨2,.str,3,[Zau (fz (Zqn b c i))]⟩)],4⟩
def Zui(l:List Fz)(i:Nat):St:=⟨[(2,.ptr (.loc 2) 1 3 0 0),(3,.ptr (.loc 3) 2 3 0 0),(7,.sl (Zb l) .an),(8,.i .i64 l.length),(9,.i .i64 i)],
 [(.loc 2,⟨1,.str,3,[Zfb]⟩),(.loc 3,⟨2,.str,3,[Zau (fz (Zmc ((l.map fv).take i)))]⟩)],4⟩
def Zuj(l:List Fz)(i:Nat):St:=⟨[(3,.i .i64 (Zr0 (l.take i))),(6,.sl (Zb l) .an),(7,.i .i64 l.length),(8,.i .i64 i)],[],2⟩
end
section
variable{T:Tbl}[Zz T][Z8 T][Zx T][Zae T][Zw T][Zag T][Zq T][Z9 T][Zc3 T]
def zafp(p q:Rat)(hp:sz p<=1000)(hq:sz q<=1000):Za T 240 [efz (fz p),efz (fz q)]=some (efz (fz (p-q))):=by
 have c1:=zpv (T:=T) (fz q) (by rw[zax];omega);rw[zb6]at c1;have c2:=zcx (T:=T) p (-q) hp (by rw[z1x];omega);rw[<-Ydp]at c2;rw[zaa Zq.h240 rfl,b240];simp -implicitDefEqProofs[c1,c2]
def zafq(q:Rat):Za T 236 [efz (fz q)]=some (.i .i64 (sgQ q)):=by
 have h:((fz q).2.1.length=0)↔q=0:=by
  constructor
  ·intro h;have h1:(ofN q.num.natAbs).length=0:=h;have h2:val (ofN q.num.natAbs)=0:=by simp_all
   rw[zad]at h2
   simp_all
  ·intro h;rw[h,znn]
   rfl
 have hs:(fz q).1=decide (q.num<0):=rfl;rw[zaa Zq.h236 rfl,b236];by_cases hz:q=0
 ·have h1:=h.2 hz;have h3:sgQ q=0:=zd9.2 hz;rw[h3];simp -implicitDefEqProofs[h1]
 ·have h1:¬ (fz q).2.1.length=0:=fun x=>hz (h.1 x);have h4:q.num≠0:=fun x=>hz (zd9.1 (zno.2 x));by_cases hn:q.num<0
  ·have h3:sgQ q=-1:=by
    have a1:=z90.2 hn;have a2:sgI q.num=-1\/sgI q.num=0\/sgI q.num=1:=by unfold sgI;omega
    show sgI q.num=-1;omega
   rw[decide_eq_true hn]at hs;rw[h3];simp -implicitDefEqProofs[h1,hs]
  ·have h3:sgQ q=1:=by
    have a1:=z1z.2 (show 0<q.num by omega);have a2:sgI q.num=-1\/sgI q.num=0\/sgI q.num=1:=by unfold sgI;omega
    show sgI q.num=1;omega
   rw[decide_eq_false hn]at hs;rw[h3];simp -implicitDefEqProofs[h1,hs]
def zmf(x:Fz)(hx:fsz x<=10000):Za T 245 [efz x]=some (.i .i64 (Zcs x)):=by
 have h1:=zda x;have h2:=zdh x;have c1:=zme (T:=T) x.2.1 (by omega);have c2:=zme (T:=T) x.2.2 (by omega);have b1:=zir (x:=val x.2.1) (k:=10000) (Yd (zac x.2.1) (by omega));have b2:=zir (x:=val x.2.2) (k:=10000) (Yd (zac x.2.2) (by omega));have w:IntKind.wrap .i64 ((Zbe (val x.2.1):Int)+(Zbe (val x.2.2):Int))=((Zcs x:Nat):Int):=by
  grind[Zcs,zab]
 rw[zaa Zc3.h245 rfl,b245];simp -implicitDefEqProofs[c1,c2,w]
def Zuk(c:Rat)(p:List Rat)(i:Nat):St:=⟨[(1,.sl (Zb (fzs p)) .an),(2,.ptr (.loc 2) 1 3 0 0),(5,.bs (.loc 5) 2 3 0 i),(6,.i .i64 i)],
 [(.loc 2,⟨1,.str,3,[Zau (fz c)]⟩),(.loc 5,⟨2,.own,3,Zb (fzs ((Zff c p).take i))⟩)],4⟩
def Zul(p:List Rat)(i:Nat):St:=⟨[(0,.sl (Zb (fzs p)) .an),(2,.ptr (.loc 2) 1 3 0 0),(3,.ptr (.loc 3) 2 3 0 0),(4,.i .i64 i)],
 [(.loc 2,⟨1,.str,3,[Zfb]⟩),(.loc 3,⟨2,.str,3,[Zau (fz (Zmc (p.take i)))]⟩)],4⟩
end
structure Ins where
 op:Int
 a:Int
 b:Int
 n:Fz
abbrev Zf0(i:Ins):List AV:=[.i .i64 i.op,.i .i64 i.a,.i .i64 i.b,.b i.n.1,.sl (Zc i.n.2.1) .an,.sl (Zc i.n.2.2) .an]
def Zdk(l:List Ins):List (List AV):=l.map Zf0
@[simp] def z93(l:List Ins):(Zdk l).length=l.length:=by simp[Zdk]
@[simp] def z94(l:List Ins):wkL (Zdk l)=Zdk l:=by rw[zb8];simp[Zdk,wkR,wkA]
@[simp] def zajp(l:List Ins)(i:Nat)(h:i<(Zdk l).length):(Zdk l)[i]=Zf0 (l[i]'(by simpa using h)):=by simp[Zdk]
def z18(l:List Ins)(x:Ins):Zdk l++[Zf0 x]=Zdk (l++[x]):=by simp[Zdk]
@[simp] def zagb(l:List Ins)(n:Nat):(Zdk l).take n=Zdk (l.take n):=by simp[Zdk]
@[simp] def z5p:Zdk []=[]:=rfl
def z19{m:List Ins}{n:Nat}(h:m.length=n)(x:Ins):wkL (Zdk (List.take n m)++[Zf0 x])=Zdk (m++[x]):=by
 rw[Ya (by omega),z18,z94]
structure Tp where
 code:List Ins
 outs:List Int
 dim:Int
 par:Int
abbrev etp(t:Tp):AV:=.agg [.sl (Zdk t.code) .an,.sl (ints t.outs) .an,.i .i64 t.dim,.i .i64 t.par]
def Zbv(x:Fz):Bool:=decide (x=fz (fv x))
def Zh9(x:Fz):Bool:=!x.1&&x.2.1.isEmpty&&x.2.2.isEmpty
def Zao(i:Ins):List Int:=if i.op=6\/i.op=11 then [i.a] else if 7<=i.op/\i.op<=10 then [i.a,i.b] else []
def Zo(i m:Int):Bool:=decide (0<=i)&&decide (i<m)
def Zc0(dim par p:Int)(i:Ins):Bool:=
 if i.op=1 then decide (i.a=0)&&decide (i.b=0)&&Zbv i.n
 else Zh9 i.n&&(Zao i).all (fun r=>Zo r p) &&
  (if i.op=2 then decide (i.a=0)&&decide (i.b=0)
   else if i.op=3 then Zo i.a dim&&decide (i.b=0)
   else if i.op=4 then Zo i.a par&&decide (i.b=0)
   else if i.op=6 then decide (i.b=0)
   else if i.op=11 then decide (-8<=i.b)&&decide (i.b<=8)
   else decide ((Zao i).length=2))
def Zbi(dim par:Int):Nat->List Ins->Int
 | _,[]=>-1
 | p,i::r=>if Zc0 dim par p i then Zbi dim par (p+1) r else p
def Zfg(t:Tp):Bool:=Zo (t.dim-1) 6&&Zo t.par 7&&decide ((t.outs.length:Int)=t.dim)&&decide (t.code.length<=300)
def Zf1(t:Tp):Int:=
 if Zfg t=false then -2 else if Zbi t.dim t.par 0 t.code≠-1 then Zbi t.dim t.par 0 t.code
 else if (t.outs.all fun o=>Zo o t.code.length)=false then t.code.length else -1
def okT(t:Tp):Bool:=decide (Zf1 t=-1)
theorem zmm(dim par:Int):∀(l:List Ins) (p:Nat),Zbi dim par p l=-1↔∀(k:Nat) (i:Ins),l[k]? = some i->Zc0 dim par (p+k:Nat) i=true
 | [],p=>by simp[Zbi]
 | x::l,p=>by
  have ih:=zmm dim par l (p+1);unfold Zbi;by_cases h:Zc0 dim par p x=true
  ·rw[if_pos h,ih];constructor
   ·intro H k i hk;cases k with
    | zero=>simp only[Ydn,Option.some.injEq]at hk;subst hk;simpa using h
    | succ k=>have:=H k i (by simpa using hk);rwa [show p+1+k=p+(k+1) by omega]at this
   ·intro H k i hk;have:=H (k+1) i (by simpa using hk)
    rwa [show p+(k+1)=p+1+k by omega]at this
  ·rw[if_neg h];constructor
   ·intro H;omega
   ·intro H;exact absurd (by simpa using H 0 x rfl) h
structure OkTp (t:Tp):Prop where
 d1:1<=t.dim
 d2:t.dim<=6
 p1:0<=t.par
 p2:t.par<=6
 ol:(t.outs.length:Int)=t.dim
 cl:t.code.length<=300
 may:∀(k:Nat) (i:Ins),t.code[k]? = some i->Zc0 t.dim t.par k i=true
 outs:∀o∈t.outs,0<=o/\o<t.code.length
theorem zcq(t:Tp):okT t=true↔OkTp t:=by
 unfold okT Zf1;rw[decide_eq_true_eq];by_cases h1:Zfg t=false
 ·rw[if_pos h1];constructor
  ·intro h;omega
  ·intro h;exfalso;have:Zfg t=true:=by
    have:=h.d1;have:=h.d2;have:=h.p1;have:=h.p2;simp only[Zfg,Zo,Yh,decide_eq_true_eq];exact⟨⟨⟨⟨by omega,by omega⟩,by omega,by omega⟩,h.ol⟩,h.cl⟩
   rw[this]at h1;cases h1
 ·have hw:Zfg t=true:=by simpa using h1
  rw[if_neg h1];simp only[Zfg,Zo,Yh,decide_eq_true_eq]at hw;obtain⟨⟨⟨⟨a1,a2⟩,a3,a4⟩,a5⟩,a6⟩:=hw;have hf:=zmm t.dim t.par t.code 0;by_cases h2:Zbi t.dim t.par 0 t.code≠-1
  ·rw[if_pos h2];constructor
   ·intro h;exact absurd h h2
   ·intro h;exact absurd (hf.2 fun k i hk=>by rw[Yap];exact h.may k i hk) h2
  ·have h2':Zbi t.dim t.par 0 t.code=-1:=by simpa using h2
   rw[if_neg h2];by_cases h3:(t.outs.all fun o=>Zo o t.code.length)=false
   ·rw[if_pos h3];constructor
    ·intro h;omega
    ·intro h;exfalso;have:(t.outs.all fun o=>Zo o t.code.length)=true:=Yo.2 fun o ho=>by
      have:=h.outs o ho;simp only[Zo,Yh,decide_eq_true_eq];exact this
     rw[this]at h3;cases h3
   ·rw[if_neg h3];have h3':(t.outs.all fun o=>Zo o t.code.length)=true:=by simpa using h3
    refine⟨fun _=>⟨by omega,by omega,a3,by omega,a5,a6,fun k i hk=>by have:=hf.1 h2' k i hk;rwa [Yap]at this,fun o ho=>?_⟩,fun _=>rfl⟩;have:=Yo.1 h3' o ho;simpa only[Zo,Yh,decide_eq_true_eq]using this
def zagc{dim par:Int}{p:Nat}{i:Ins}(h:Zc0 dim par p i=true)(ho:i.op=6\/i.op=11\/(7<=i.op/\i.op<=10)):0<=i.a/\i.a<p:=by
 unfold Zc0 at h;rw[if_neg (by omega)]at h;simp only[Yh,Yo]at h;have:=h.1.2 i.a (by
  unfold Zao;by_cases h1:i.op=6\/i.op=11
  ·rw[if_pos h1];simp
  ·rw[if_neg h1,if_pos (by omega)];simp)
 simpa only[Zo,Yh,decide_eq_true_eq]using this
def zagd{dim par:Int}{p:Nat}{i:Ins}(h:Zc0 dim par p i=true)(ho:7<=i.op/\i.op<=10):0<=i.b/\i.b<p:=by
 unfold Zc0 at h;rw[if_neg (by omega)]at h;simp only[Yh,Yo]at h;have:=h.1.2 i.b (by
  unfold Zao;rw[if_neg (by omega),if_pos ho];simp)
 simpa only[Zo,Yh,decide_eq_true_eq]using this
def z2a{dim par:Int}{p:Nat}{i:Ins}(h:Zc0 dim par p i=true):i.op=1\/i.op=2\/i.op=3\/i.op=4\/i.op=6\/i.op=7\/i.op=8\/i.op=9\/i.op=10\/i.op=11:=by
 unfold Zc0 at h;by_cases h1:i.op=1
 ·exact .inl h1
 rw[if_neg h1]at h;by_cases h2:i.op=2
 ·omega
 by_cases h3:i.op=3
 ·omega
 by_cases h4:i.op=4
 ·omega
 by_cases h6:i.op=6
 ·omega
 by_cases h11:i.op=11
 ·omega
 rw[if_neg h2,if_neg h3,if_neg h4,if_neg h6,if_neg h11]at h;simp only[Yh,decide_eq_true_eq]at h;have h2':=h.2;by_cases hr:7<=i.op/\i.op<=10
 ·omega
 ·have e:Zao i=[]:=by
   unfold Zao;rw[if_neg (by omega),if_neg hr]
  rw[e]at h2';simp at h2'
def zage{dim par:Int}{p:Nat}{i:Ins}(h:Zc0 dim par p i=true)(ho:i.op=3):0<=i.a/\i.a<dim:=by
 unfold Zc0 at h;rw[if_neg (by omega),if_neg (by omega),if_pos ho]at h;simp only[Yh,decide_eq_true_eq,Zo]at h;exact h.2.1
def zagf{dim par:Int}{p:Nat}{i:Ins}(h:Zc0 dim par p i=true)(ho:i.op=4):0<=i.a/\i.a<par:=by
 unfold Zc0 at h;rw[if_neg (by omega),if_neg (by omega),if_neg (by omega),if_pos ho]at h;simp only[Yh,decide_eq_true_eq,Zo]at h;exact h.2.1
theorem z95{dim par:Int}{p:Nat}{i:Ins}(h:Zc0 dim par p i=true)(ho:i.op=11):-8<=i.b/\i.b<=8:=by
 unfold Zc0 at h;rw[if_neg (by omega),if_neg (by omega),if_neg (by omega),if_neg (by omega),if_neg (by omega),if_pos ho]at h;simp only[Yh,decide_eq_true_eq]at h;exact h.2
structure Po where
 t:Rat
 y:List Rat
 p:List Rat
structure PoF where
 t:Fz
 y:List Fz
 p:List Fz
def PoF.v(x:PoF):Po:=⟨fv x.t,x.y.map fv,x.p.map fv⟩
def Po.f(x:Po):PoF:=⟨fz x.t,fzs x.y,fzs x.p⟩
abbrev ept(x:PoF):AV:=.agg [.b x.t.1,.sl (Zc x.t.2.1) .an,.sl (Zc x.t.2.2) .an,.sl (Zb x.y) .an,.sl (Zb x.p) .an]
def gI(l:List Rat)(i:Int):Rat:=l.getD i.toNat 0
def Ziv(x:Rat)(e:Int):Rat:=x^e
def Z6(P:Po)(D:List Rat)(i:Ins):Rat×Bool:=
 if i.op=1 then (fv i.n,true)
 else if i.op=3 then (gI P.y i.a,true)
 else if i.op=4 then (gI P.p i.a,true)
 else if i.op=6 then (-gI D i.a,true)
 else if i.op=7 then (gI D i.a+gI D i.b,true)
 else if i.op=8 then (gI D i.a-gI D i.b,true)
 else if i.op=9 then (gI D i.a*gI D i.b,true)
 else if i.op=10 then (gI D i.a/gI D i.b,decide (gI D i.b≠0))
 else if i.op=11 then (if i.b<0/\gI D i.a=0 then (0,false) else (Ziv (gI D i.a) i.b,true))
 else (P.t,true)
def Zec(q:Rat):Nat:=Zcs (fz q)
def Zbj(lim:Nat)(P:Po):List Ins->List Rat->List Rat×Nat×Nat
 | [],D=>(D,0,0)
 | i::r,D=>if (Z6 P D i).2=false then ([],3,D.length) else if lim<Zec (Z6 P D i).1 then ([],6,D.length) else Zbj lim P r (D++[(Z6 P D i).1])
theorem zcr(lim:Nat)(P:Po)(i:Ins)(r:List Ins)(D:List Rat):Zbj lim P (i::r) D=if (Z6 P D i).2=false then ([],3,D.length) else if lim<Zec (Z6 P D i).1 then ([],6,D.length) else Zbj lim P r (D++[(Z6 P D i).1]):=rfl
theorem zfk(lim:Nat)(P:Po):∀(l:List Ins) (D:List Rat),(Zbj lim P l D).2.1=0->(Zbj lim P l D).2.2=0/\∃E,(Zbj lim P l D).1=D++E/\E.length=l.length
 | [],D,_=>⟨rfl,[],by simp[Zbj],rfl⟩
 | i::r,D,h=>by
  have ih:=zfk lim P r (D++[(Z6 P D i).1]);rw[zcr]at h ⊢;by_cases h1:(Z6 P D i).2=false
  ·simp[h1]at h
  ·rw[if_neg h1]at h ⊢;by_cases h2:lim<Zec (Z6 P D i).1
   ·simp[h2]at h
   ·rw[if_neg h2]at h ⊢;obtain⟨e1,E,e2,e3⟩:=ih h;exact⟨e1,(Z6 P D i).1::E,by rw[e2];simp,by simp[e3]⟩
theorem zr3(lim:Nat)(P:Po):∀(l:List Ins) (D:List Rat),(Zbj lim P l D).2.1≠0->(Zbj lim P l D).1=[]/\D.length<=(Zbj lim P l D).2.2/\(Zbj lim P l D).2.2<D.length+l.length
 | [],D,h=>by simp[Zbj]at h
 | i::r,D,h=>by
  have ih:=zr3 lim P r (D++[(Z6 P D i).1]);rw[zcr]at h ⊢;by_cases h1:(Z6 P D i).2=false
  ·simp[h1]
  ·rw[if_neg h1]at h ⊢;by_cases h2:lim<Zec (Z6 P D i).1
   ·simp[h2]
   ·rw[if_neg h2]at h ⊢;have:=ih h;simp only[Yam,Yr,Yah]at this ⊢;exact⟨this.1,by omega,by omega⟩
abbrev tyI:Ty:=.cons (.int .i64) (.cons (.int .i64) (.cons (.int .i64) (.cons tyF .nil)))
abbrev tyT:Ty:=.cons (.sl tyI) (.cons (.sl (.int .i64)) (.cons (.int .i64) (.cons (.int .i64) .nil)))
abbrev tyP:Ty:=.cons tyF (.cons (.sl tyF) (.cons (.sl tyF) .nil))
def zaeq{cs:List AV}(h:Ok tyI cs):∃x:Ins,wkR cs=Zf0 x:=by
 obtain⟨c1,c1',rfl,⟨a,rfl,_⟩,c2,c2',rfl,⟨b,rfl,_⟩,c3,c3',rfl,⟨c,rfl,_⟩,c4,c4',rfl,h4,rfl⟩:=h;obtain⟨x,e⟩:=zjy h4;refine⟨⟨a,b,c,x⟩,?_⟩;simp only[zdm,e]
 rfl
theorem zs1:∀(els:List (List AV)),(∀r∈els,Ok tyI r)->∃l:List Ins,wkL els=Zdk l
 | [],_=>⟨[],rfl⟩
 | r::els,h=>by
  obtain⟨l,hl⟩:=zs1 els fun r hr=>h r (Yn _ hr);obtain⟨x,hx⟩:=zaeq (h r Yu);refine⟨x::l,?_⟩;simp only[wkL,hx,hl]
  rfl
theorem zs2:∀(els:List (List AV)),(∀r∈els,Ok (.int .i64) r)->∃l:List Int,wkL els=ints l
 | [],_=>⟨[],rfl⟩
 | r::els,h=>by
  obtain⟨l,hl⟩:=zs2 els fun r hr=>h r (Yn _ hr);obtain⟨x,rfl,_⟩:=h r Yu;refine⟨x::l,?_⟩;simp only[wkL,hl]
  rfl
def zaer{a:Int}(h:(Lit.int .i64 a).wf=true):-9223372036854775808<=a/\a<9223372036854775808:=by
 simp[Lit.wf,IntKind.min,IntKind.max,IntKind.signed,IntKind.bits]at h;omega
section
variable{T:Tbl}[Zba T][Zde T]
def zpb(c:UInt8):Za T 185 [u8 c.toNat]=some (.b (isD c)):=by
 rw[zaa Zde.h185 rfl,b185];by_cases h1:48<=c.toNat
 ·simp -implicitDefEqProofs[isD,h1]
 ·simp -implicitDefEqProofs[isD,h1]
def zl6(c:UInt8):Za T 186 [u8 c.toNat]=some (.b (isL c)):=by
 rw[zaa Zde.h186 rfl,b186];by_cases h1:97<=c.toNat<;>by_cases h2:c.toNat<=122<;>by_cases h3:65<=c.toNat<;>by_cases h4:c.toNat<=90<;>by_cases h5:c.toNat=95 <;>
  simp -implicitDefEqProofs[isL,h1,h2,h3,h4,h5]
def z3p(c:UInt8):Za T 187 [u8 c.toNat]=some (.b (isS c)):=by rw[p187,zwi]
def z3q(c:UInt8):Za T 177 [u8 c.toNat]=some (.i .i64 (Zn c)):=by
 have h1:=zpb (T:=T) c;have h2:=zl6 (T:=T) c;have h3:=z3p (T:=T) c;rw[zaa Zde.h177 rfl,b177];cases e1:isD c<;>cases e2:isL c<;>cases e3:isS c<;>simp -implicitDefEqProofs[Zn,h1,h2,h3,e1,e2,e3]
def z3r(k:Nat)(c:UInt8):Za T 188 [.i .i64 k,u8 c.toNat]=some (.b (Zbp k c)):=by
 have h1:=zpb (T:=T) c;have h2:=zl6 (T:=T) c;rw[zaa Zde.h188 rfl,b188];by_cases k1:k=1
 ·subst k1;cases e1:isD c<;>cases e2:isL c<;>simp -implicitDefEqProofs[Zbp,h1,e1,e2]
 ·have k1':¬ (k:Int)=1:=by omega
  by_cases k2:k=2
  ·subst k2;cases e1:isD c<;>cases e2:isL c<;>simp -implicitDefEqProofs[Zbp,h1,h2,e1,e2]
  ·have k2':¬ (k:Int)=2:=by omega
   simp -implicitDefEqProofs[Zbp,k1,k2,k1',k2']
def z3s(k:Nat):Za T 179 [.i .i64 k]=some (.i .i64 (Za5 k)):=by
 rw[zaa Zde.h179 rfl,b179];by_cases k1:k=1
 ·subst k1;simp -implicitDefEqProofs[Za5]
 ·have k1':¬ (k:Int)=1:=by omega
  by_cases k2:k=2
  ·subst k2;simp -implicitDefEqProofs[Za5]
  ·have k2':¬ (k:Int)=2:=by omega
   simp -implicitDefEqProofs[Za5,k1,k2,k1',k2']
def zu4(s:List UInt8)(hs:s.length<=1000000)(k F:Nat):∀n:Nat,(n<=s.length/\n+((s.drop n).takeWhile (Zbp k)).length=F) ->
  Ze T 0 0 (.norm false [5]) l178_0 ⟨[(0,.s s),(1,.i .i64 k),(5,.i .i64 n)],[],2⟩=some (.n,⟨[(5,.i .i64 F)],[],2⟩):=by
 refine za4 (fun n:Nat=>⟨[(0,.s s),(1,.i .i64 k),(5,.i .i64 n)],[],2⟩) _ (fun n=>s.length-n) _ ?_
 rintro n ⟨hn,hF⟩
 by_cases h0:n<s.length
 ·have hd:=Yg h0;have hgo:=z3r (T:=T) k (s[n]'h0);have hw:IntKind.wrap .i64 ((n:Int)+1)=((n+1:Nat):Int):=zab _ (by omega);by_cases hc:Zbp k (s[n]'h0)=true
  ·left;rw[hd,Yca hc]at hF;refine⟨n+1,⟨h0,by grind⟩,by omega,?_,rfl⟩;simp -implicitDefEqProofs[l178_0,h0,hgo,hc,hw]
  ·right;rw[hd,Yc4 hc]at hF;subst hF;constructor<;>simp -implicitDefEqProofs[l178_0,h0,hgo,hc]
 ·right;have:n=s.length:=by omega
  subst this;rw[Yw]at hF;subst hF;constructor<;>simp -implicitDefEqProofs[l178_0]
def zzh(c:UInt8)(r:List UInt8)(hs:r.length<=100000)(k:Nat):Za T 178 [.s (c::r),.i .i64 k]=some (.i .i64 (Zab k r)):=by
 have h:=zu4 (T:=T) (c::r) (by grind) k (Zab k r) 1 ⟨by simp,rfl⟩;rw[zaa Zde.h178 rfl,b178]
 simp_all
def zj4(c:UInt8)(n:Nat)(hn:n<256):c=UInt8.ofNat n↔c.toNat=n:=by
 constructor
 ·simp_all
 ·intro h;subst h;simp
def z8q(c:UInt8):isB c=(decide (c.toNat=32) || decide (c.toNat=9) || decide (c.toNat=10) || decide (c.toNat=13)):=by
 have e (n:Nat) (hn:n<256):decide (c=UInt8.ofNat n)=decide (c.toNat=n):=decide_eq_decide.2 (zj4 c n hn);unfold isB;rw[show (32:UInt8)=UInt8.ofNat 32 from rfl,show (9:UInt8)=UInt8.ofNat 9 from rfl,show (10:UInt8)=UInt8.ofNat 10 from rfl,show (13:UInt8)=UInt8.ofNat 13 from rfl,e 32 (by decide),e 9 (by decide),e 10 (by decide),e 13 (by decide)]
def wdR(w:Wd):List AV:=[.i .i64 w.1,.s w.2.1,.i .i64 w.2.2]
def Zac(l:List Wd):List (List AV):=l.map wdR
@[simp] def zfb(l:List Wd):(Zac l).length=l.length:=by simp[Zac]
@[simp] def zeu(l:List Wd):wkL (Zac l)=Zac l:=by
 induction l with
 | nil=>rfl
 | cons x l ih=>simpa[Zac,wdR,wkL,wkR]using ih
@[simp] def zg4(l:List Wd):((Zac l).flatMap fun r=>r.flatMap rfA)=[]:=by
 induction l with
 | nil=>rfl
 | cons x l ih=>
  have e:Zac (x::l)=wdR x::Zac l:=rfl;rw[e,Yei,ih];simp[wdR,rfA]
theorem zl7(l:List Wd)(k a:Nat)(t:List UInt8):wkL (List.take l.length (Zac l)++[[AV.i .i64 k,.s t,.i .i64 a]])=Zac (l++[(k,t,a)]):=by
 rw[Ya (by simp),show Zac l++[[AV.i .i64 k,.s t,.i .i64 a]]=Zac (l++[(k,t,a)]) by simp[Zac,wdR],zeu]
def Zsu(s:List UInt8)(i:Nat)(acc:List Wd):St:=
 ⟨[(0,.s s),(3,.ptr (.loc 3) 1 4 0 0),(4,.bs (.loc 4) 2 3 0 acc.length),(5,.i .i64 i)],[(.loc 3,⟨1,.str,4,[[.i .i64 0,.i .i64 0,.i .i64 0,.i .i64 0]]⟩),(.loc 4,⟨2,.own,3,Zac acc⟩)],4⟩
def Zsv:Except Nat (List Wd)->Option (Ex×St)
 | .ok ws=>some (.n,⟨[(3,.ptr (.loc 3) 1 4 0 0),(4,.bs (.loc 4) 2 3 0 ws.length)],[(.loc 3,⟨1,.str,4,[[.i .i64 0,.i .i64 0,.i .i64 0,.i .i64 0]]⟩),(.loc 4,⟨2,.own,3,Zac ws⟩)],4⟩)
 | .error e=>some (.r,⟨[(2,.sl [] .an),(3,.ptr (.loc 3) 1 4 0 0)],[(.loc 3,⟨1,.str,4,[[.i .i64 1,.i .i64 0,.i .i64 0,.i .i64 e]]⟩)],3⟩)
def Zrh(r:Except Nat (List Wd)):AV:=
 match r with
 | .ok ws=>.tup [.sl (Zac ws) .an,.agg [.i .i64 0,.i .i64 0,.i .i64 0,.i .i64 0]]
 | .error e=>.tup [.sl [] .an,.agg [.i .i64 1,.i .i64 0,.i .i64 0,.i .i64 e]]
def Zla(s:List UInt8):Except Nat (List Wd):=if 4000<s.length then .error 4000 else Zei (s.drop (Zbz false s)) (Zbz false s) []
def Zbu(k:Int)(t:List UInt8):Bool:=
 match t with
 | []=>false
 | c::r=>decide (k≠0)&&decide ((Zn c:Int)=k)&&decide (Zab (Zn c) r=r.length+1)&&decide (r.length+1<=Za5 (Zn c))
def zzi(k a:Int)(t:List UInt8)(ht:t.length<=100000):Za T 172 [.agg [.i .i64 k,.s t,.i .i64 a]]=some (.b (Zbu k t)):=by
 rw[zaa Zde.h172 rfl,b172];cases t with
 | nil=>simp -implicitDefEqProofs[Zbu]
 | cons c r=>
  simp only[Yr]at ht;have hk:=z3q (T:=T) c;have hf:=zzh (T:=T) c r (by omega) (Zn c);have hm:=z3s (T:=T) (Zn c);by_cases h0:k=0
  ·simp -implicitDefEqProofs[Zbu,h0]
  ·by_cases h1:(Zn c:Int)=k
   ·subst h1;have h0':¬ Zn c=0:=by omega
    by_cases h2:Zab (Zn c) r=r.length+1
    ·by_cases h3:r.length+1<=Za5 (Zn c)
     ·have h3':(r.length:Int)+1<=(Za5 (Zn c):Nat):=by omega
      simp -implicitDefEqProofs[Zbu,h0',hk,hf,hm,h2,h3,h3']
     ·have h3':¬ (r.length:Int)+1<=(Za5 (Zn c):Nat):=by omega
      simp -implicitDefEqProofs[Zbu,h0',hk,hf,hm,h2,h3,h3']
    ·have h2':¬ ((Zab (Zn c) r:Nat):Int)=(r.length:Int)+1:=by omega
     simp -implicitDefEqProofs[Zbu,h0',hk,hf,h2,h2']
   ·simp -implicitDefEqProofs[Zbu,h0,hk,h1]
abbrev Wz:=Int×List UInt8×Int
def wzR(w:Wz):List AV:=[.i .i64 w.1,.s w.2.1,.i .i64 w.2.2]
def Zqj(l:List Wz):List (List AV):=l.map wzR
def Zt1(l:List Wz)(i:Nat)(b:BId):St:=
 ⟨[(3,.bs (.loc 3) 1 1 0 i),(6,.sl (Zqj l) .an),(7,.i .i64 l.length),(8,.i .i64 i)],[(.loc 3,⟨1,.own,1,Zlm ((l.take i).map (·.2.1))⟩)],3⟩
end
structure Trr where
 t:Fz
 w:Fz
 h:Fz
 e:Fz
 y:List Fz
 ok:Bool
abbrev Zll(r:Trr):List AV:=[.b r.t.1,.sl (Zc r.t.2.1) .an,.sl (Zc r.t.2.2) .an,.b r.w.1,.sl (Zc r.w.2.1) .an,.sl (Zc r.w.2.2) .an,.b r.h.1,.sl (Zc r.h.2.1) .an,.sl (Zc r.h.2.2) .an,.b r.e.1,.sl (Zc r.e.2.1) .an,.sl (Zc r.e.2.2) .an,.sl (Zb r.y) .an,.b r.ok]
def Za1(l:List Trr):List (List AV):=l.map Zll
@[simp] def z6l(l:List Trr):(Za1 l).length=l.length:=by simp[Za1]
@[simp] def ztr(l:List Trr):wkL (Za1 l)=Za1 l:=by rw[zb8];simp[Za1,wkR,wkA]
@[simp] def zaf9(l:List Trr)(i:Nat)(h:i<(Za1 l).length):(Za1 l)[i]=Zll (l[i]'(by simpa using h)):=by simp[Za1]
def zmk(l:List Trr)(x:Trr):Za1 l++[Zll x]=Za1 (l++[x]):=by simp[Za1]
@[simp] def zaby(l:List Trr)(n:Nat):(Za1 l).take n=Za1 (l.take n):=by simp[Za1]
@[simp] def zky:Za1 []=[]:=rfl
def zml{m:List Trr}{n:Nat}(h:m.length=n)(x:Trr):wkL (Za1 (List.take n m)++[Zll x])=Za1 (m++[x]):=by
 rw[Ya (by omega),zmk,ztr]
structure Hs where
 l:List Trr
 t:Fz
 y:List Fz
abbrev ehs(h:Hs):AV:=.agg [.sl (Za1 h.l) .an,.b h.t.1,.sl (Zc h.t.2.1) .an,.sl (Zc h.t.2.2) .an,.sl (Zb h.y) .an]
def Zkz(l:List Fz):Bool:=l.all Zbv
def Trr.nums(r:Trr):List Fz:=[r.t,r.w,r.h,r.e]
def Zpz(h:Hs):Bool:=(h.l.all fun r=>Zkz r.nums&&Zkz r.y)&&(Zbv h.t&&Zkz h.y)
def Zq9(h:Hs):Bool:=(h.l.all fun r=>decide (r.y.length=h.y.length))&&(decide (1<=h.y.length)&&decide (h.y.length<=6))
def Zra(r:Trr):Bool:=decide (0<fv r.w)&&decide (0<fv r.h)&&decide (fv r.h<=fv r.w)&&decide (0<=fv r.e)
def Zp0(h:Hs):Bool:=h.l.all Zra
def Zrb(r:Trr)(at_:Fz)(y:List Fz):Bool:=if r.ok then decide (fv at_=fv r.t+fv r.h) else decide (fv at_=fv r.t)&&decide (y.map fv=r.y.map fv)
def Zpb(l:List Trr)(t:Fz)(y:List Fz):Fz×List Fz:=match l with | []=>(t,y) | r::_=>(r.t,r.y)
def Zn9:List Trr->Fz->List Fz->Bool
 | [],_,_=>true
 | r::l,t,y=>Zrb r (Zpb l t y).1 (Zpb l t y).2&&Zn9 l t y
def Zp1(h:Hs):Bool:=Zn9 h.l h.t h.y
def Zp2(h:Hs):Int:=if !Zpz h then 1 else if !Zq9 h then 2 else if 200<h.l.length then 3 else if !Zp0 h then 4 else if !Zp1 h then 5 else 0
def Zsc(h:Hs):Bool:=decide (Zp2 h=0)
def Zdg(r:Trr):Trr:=⟨fz (fv r.t),fz (fv r.w),fz (fv r.h),fz (fv r.e),nrm r.y,r.ok⟩
def Zc1(l:List Trr):List Trr:=(l.filter (·.ok)).map Zdg
def Zcb(h:Hs):List Fz:=(Zc1 h.l).map (·.t)++[fz (fv h.t)]
def Zb8(h:Hs):List (List Fz):=(Zc1 h.l).map (·.y)++[nrm h.y]
def Zaa(h:Hs):List Fz:=(Zc1 h.l).map (·.h)
structure HsS (h:Hs) (B:Nat):Prop where
 len:h.l.length<=1000
 t:fsz h.t<=B
 y:∀x∈h.y,fsz x<=B
 yl:h.y.length<=1000
 rt:∀r∈h.l,∀x∈r.nums,fsz x<=B
 ry:∀r∈h.l,∀x∈r.y,fsz x<=B
 rl:∀r∈h.l,r.y.length<=1000
theorem zrd:∀(a b:List UInt32),a.length=b.length->val a=val b->a=b
 | [],[],_,_=>rfl
 | x::a,y::b,hl,hv=>by
  simp only[zao]at hv;have hx:=zan x;have hy:=zan y;have h1:x.toNat=y.toNat:=by omega
  have h2:val a=val b:=by omega
  rw[Yet.1 h1,zrd a b (by simpa using hl) h2]
 | [],_::_,hl,_=>by simp at hl
 | _::_,[],hl,_=>by simp at hl
def zg2{x y:Nat}:Zeb x y=0↔x=y:=by
 grind[Zeb]
theorem zyx(z:Int):∀t:Nat,sg (decide (z<0)&&decide (t%2=1)) (z.natAbs^t)=z^t
 | 0=>by simp[sg]
 | t+1=>by
  have ih:=zyx z t;have hz:sg (decide (z<0)) z.natAbs=z:=by
   unfold sg;by_cases h:z<0
   ·simp only[h,decide_true,if_true];omega
   ·simp only[h,decide_false,Yx,if_false];omega
  have hm:=zto (decide (z<0)&&decide (t%2=1)) (decide (z<0)) (z.natAbs^t) z.natAbs;rw[ih,hz]at hm;rw[Int.pow_succ,<-hm,Yan];rcases Nat.mod_two_eq_zero_or_one t with h | h
  ·have h2:(t+1)%2=1:=by omega
   rw[h,h2];cases decide (z<0)<;>rfl
  ·have h2:(t+1)%2=0:=by omega
   rw[h,h2];cases decide (z<0)<;>rfl
theorem zhp{x L:Nat}(h:(ofN x).length<=L):∀t:Nat,(ofN (x^t)).length<=t*L+1
 | 0=>by rw[Ydu,zfh];simp
 | t+1=>by
  have ih:=zhp h t;have:=za0 ih h
  grind
section
variable{T:Tbl}[Z2 T][Zu T][Zy T][Z0 T][Zt T][Zp T][Zi T][Zl T][Zs T][Zad T]
def zl0(x:Fz)(hx:fsz x<=10000):Za T 208 [efz x]=some (.b (Zbv x)):=by
 have hn:=zc6 (T:=T) x hx;have hs:=za2 (x:=x) (L:=10000) hx (by decide);have l1:=zku (fv x);have l2:=zkv (fv x);unfold Zbv;have e':fz (fv x)=(decide ((fv x).num<0),ofN (fv x).num.natAbs,ofN (fv x).den):=rfl;rw[e']at hn ⊢;obtain⟨n,a,d⟩:=x;have la:=zda (n,a,d);have ld:=zdh (n,a,d);simp only at la ld;generalize decide ((fv (n,a,d)).num<0)=m at *
 generalize ofN (fv (n,a,d)).num.natAbs=b at *
 generalize ofN (fv (n,a,d)).den=e at *
 have c1:=zj8 (T:=T) a b (by omega) (by omega);have c2:=zj8 (T:=T) d e (by omega) (by omega);rw[zaa Zad.h208 rfl,b208];by_cases h1:n=m
 case neg=>
  have hd:decide ((n,a,d)=(m,b,e))=false:=by grind
  have hb:(n == m)=false:=by grind
  rw[hd];simp -implicitDefEqProofs[hn,hb]
 subst h1;by_cases h2:a.length=b.length
 case neg=>
  have hd:decide ((n,a,d)=(n,b,e))=false:=by
   grind
  have hb:((a.length:Int) == b.length)=false:=by grind
  rw[hd];simp -implicitDefEqProofs[hn,hb]
 by_cases h3:d.length=e.length
 case neg=>
  have hd:decide ((n,a,d)=(n,b,e))=false:=by
   grind
  have hb:((d.length:Int) == e.length)=false:=by grind
  rw[hd];simp -implicitDefEqProofs[hn,h2,hb]
 by_cases h4:val a=val b
 case neg=>
  have hd:decide ((n,a,d)=(n,b,e))=false:=by
   grind
  have hc:¬ Zeb (val a) (val b)=0:=fun h=>h4 (zg2.1 h);rw[hd];simp -implicitDefEqProofs[hn,h2,h3,c1,hc]
 have hab:=zrd a b h2 h4;subst hab;have hk:Zeb (val a) (val a)=0:=zg2.2 rfl;rw[hk]at c1;by_cases h5:val d=val e
 case neg=>
  have hd:decide ((n,a,d)=(n,a,e))=false:=by
   grind
  have hc:¬ Zeb (val d) (val e)=0:=fun h=>h5 (zg2.1 h);rw[hd];simp -implicitDefEqProofs[hn,h3,c1,c2,hc]
 have hde:=zrd d e h3 h5;subst hde;have hk2:Zeb (val d) (val d)=0:=zg2.2 rfl;rw[hk2]at c2;have hd:decide ((n,a,d)=(n,a,d))=true:=by simp
 simp -implicitDefEqProofs[hn,c1,c2]
def Znc(a:List UInt32)(k i:Nat):St:=⟨[(0,.sl (Zc a) .an),(5,.sl (Zc (ofN (val a^i))) .an),(7,.i .i64 k),(8,.i .i64 i)],[],2⟩
theorem zl1(a:List UInt32)(k:Nat)(hk:k<=8)(ha:a.length<=1100):Za T 219 [.sl (Zc a) .an,.i .i64 k]=some (.sl (Zc (ofN (val a^k))) .an):=by
 have h:Ze T 0 0 (.norm false [5]) l219_0 (Znc a k 0)=some (.n,⟨[(5,.sl (Zc (ofN (val a^k))) .an)],[],2⟩):=by
  refine zag (Znc a k) k _ (fun i hi=>?_) ?_
  ·have hl:=zhp (L:=1100) (Yd (zac a) ha) i;have c:=zfw (T:=T) (ofN (val a^i)) a (by omega) (by omega);rw[zad,<-Yan]at c;have hw:=zaw hi (by omega);unfold Znc;simp -implicitDefEqProofs[l219_0,hi,hw,c]
  ·unfold Znc;constructor<;>simp -implicitDefEqProofs[l219_0]
 have ho:=zj7 (T:=T) 1 (by decide);unfold Znc at h;rw[Ydu]at h;simp only[Yp]at h;rw[zaa Zad.h219 rfl,b219];simp -implicitDefEqProofs[ho,h]
def Zfw(q:Rat)(e:Int):Rat×Bool:=if -8<=e/\e<=8/\¬ (e<0/\q=0) then (Ziv q e,true) else (0,false)
def zaes(q:Rat)(t:Nat):fz (q^t)=(decide (q.num<0)&&decide (t%2=1)&&decide (q.num.natAbs^t≠0),ofN (q.num.natAbs^t),ofN (q.den^t)):=by
 grind[zyx,fz,Rat.num_pow,Rat.den_pow,ztm,ztn]
def z8a(q:Rat)(t:Nat)(hq:q≠0):fz (q^t)⁻¹=(decide (q.num<0)&&decide (t%2=1)&&decide (q.den^t≠0),ofN (q.den^t),ofN (q.num.natAbs^t)):=by
 have h:=zyx q.num t;have hn:q.num≠0:=fun h=>hq (Rat.num_eq_zero.1 h);have hz:q.num^t≠0:=Int.pow_ne_zero hn;have hd:q.den^t≠0:=Nat.pos_iff_ne_zero.1 (Ybe q.den_pos);have ha:q.num.natAbs^t≠0:=Nat.pos_iff_ne_zero.1 (Ybe (Int.natAbs_pos.2 hn));have e1:(q^t)⁻¹.num=(q.num^t).sign*((q.den^t:Nat):Int):=by simp_all
 have e2:(q^t)⁻¹.den=q.num.natAbs^t:=by simp_all
 grind[Int.sign_eq_neg_one_of_neg,ztm,fz]
def z3a(x:Fz)(e:Int)(hx:fsz x<=1000):Za T 220 [efz x,.i .i64 e]=some (.tup [efz (fz (Zfw (fv x) e).1),.b (Zfw (fv x) e).2]):=by
 have h0:=zim (T:=T);have hsg:=zjz (T:=T) x (by omega);have hn:=zc6 (T:=T) x (by omega);have hs:=za2 (x:=x) (L:=1000) hx (by decide);have l1:=zku (fv x);have l2:=zkv (fv x);unfold Zfw;rw[zaa Zad.h220 rfl,b220];by_cases h1:e < -8
 ·rw[if_neg (by omega)];simp -implicitDefEqProofs[h0,h1]
 by_cases h2:8<e
 ·rw[if_neg (by omega)];simp -implicitDefEqProofs[h0,h1,h2]
 obtain⟨q,hq⟩:∃q,q=fv x:=⟨_,rfl⟩;rw[<-hq]at hsg hn hs l1 l2 ⊢;clear hq;have e':fz q=(decide (q.num<0),ofN q.num.natAbs,ofN q.den):=rfl;rw[e']at hn;have hA:(ofN q.num.natAbs).length<=1100:=by omega
 have hD:(ofN q.den).length<=1100:=by omega
 have pA:∀k:Nat,k<=8->Za T 219 [.sl (Zc (ofN q.num.natAbs)) .an,.i .i64 k]=some (.sl (Zc (ofN (q.num.natAbs^k))) .an):=fun k hk=>by
  grind[zl1,zad]
 have pD:∀k:Nat,k<=8->Za T 219 [.sl (Zc (ofN q.den)) .an,.i .i64 k]=some (.sl (Zc (ofN (q.den^k))) .an):=fun k hk=>by
  grind[zl1,zad]
 have lA:∀k:Nat,k<=8->(ofN (q.num.natAbs^k)).length<=1000000:=fun k hk=>by
  have:=zhp hA k;omega
 have lD:∀k:Nat,k<=8->(ofN (q.den^k)).length<=1000000:=fun k hk=>by
  have:=zhp hD k;omega
 have hodd:∀k:Nat,k<=8->(((k:Int).tmod 2) == 1)=decide (k%2=1):=fun k hk=>by
  have e:(k:Int).tmod 2=((k%2:Nat):Int):=by rw[show (2:Int)=((2:Nat):Int) from rfl,<-Ydt]
  rw[e,Yb8];simp;omega
 by_cases h3:e<0
 case neg=>
  obtain⟨n,rfl⟩:∃n:Nat,e=n:=⟨e.toNat,by omega⟩;have hn8:n<=8:=by omega
  rw[if_pos (by omega)];have hw:IntKind.wrap .i64 (-(n:Int))=-(n:Int):=zab _ (by omega);have cA:=pA n hn8;have cD:=pD n hn8;have ho:=hodd n hn8;have hnorm:=zh0 (T:=T) (decide (q.num<0)&&decide (n%2=1)) (ofN (q.num.natAbs^n)) (lA n hn8);rw[show wv (decide (q.num<0)&&decide (n%2=1)) (ofN (q.num.natAbs^n))=sg (decide (q.num<0)&&decide (n%2=1)) (q.num.natAbs^n) by unfold wv;rw[zad],z1v]at hnorm;have hf:=zaes q n;have hz:Ziv q (n:Int)=q^n:=Ycq q n;simp only[hz];rw[hf];have h4:¬ (8:Int)<n:=by omega
  have h5:¬ ((n:Int) < -(n:Int)):=by omega
  have h6:¬ (n:Int)<0:=by omega
  have h1':¬ (n:Int) < -8:=by omega
  generalize decide (q.num<0)=NG at *
  generalize decide (n%2=1)=OD at *
  cases NG with
  | false=>
   simp only[Ydb]at hnorm ⊢;simp -implicitDefEqProofs[hn,h4,h5,h6,h1',hw,mm2,cA,cD,hnorm]
  | true=>
   simp only[Ycd]at hnorm ⊢;cases OD with
   | false=>simp -implicitDefEqProofs[hn,h4,h5,h6,h1',hw,mm2,cA,cD,ho,hnorm]
   | true=>simp -implicitDefEqProofs[hn,h4,h5,h6,h1',hw,mm2,cA,cD,ho,hnorm]
 by_cases h7:q=0
 ·rw[if_neg (by grind)];have hs0:sgQ q=0:=zd9.2 h7;rw[hs0]at hsg;generalize fz 0=Z at *
  have h4:¬ (8:Int)<e:=by omega
  simp -implicitDefEqProofs[h0,h1,h4,h3,hsg]
 rw[if_pos (by grind)];obtain⟨n,rfl⟩:∃n:Nat,e=-(n:Int):=⟨(-e).toNat,by omega⟩;have hn8:n<=8:=by omega
 have hsz:¬ sgQ q=0:=fun h=>h7 (zd9.1 h);have hw:IntKind.wrap .i64 (n:Int)=(n:Int):=zab _ (by omega);have cA:=pA n hn8;have cD:=pD n hn8;have ho:=hodd n hn8;have hnorm:=zh0 (T:=T) (decide (q.num<0)&&decide (n%2=1)) (ofN (q.den^n)) (lD n hn8);rw[show wv (decide (q.num<0)&&decide (n%2=1)) (ofN (q.den^n))=sg (decide (q.num<0)&&decide (n%2=1)) (q.den^n) by unfold wv;rw[zad],z1v]at hnorm;have hf:=z8a q n h7;have hz:Ziv q (-(n:Int))=(q^n)⁻¹:=by unfold Ziv;rw[Rat.zpow_neg,Ycq]
 simp only[hz];rw[hf];clear hf hz pA pD lA lD hodd e';have h4:¬ (8:Int) < -(n:Int):=by omega
 have h5:(-(n:Int)<(n:Int)):=by omega
 have h1':¬ -(n:Int) < -8:=by omega
 have h6:(n:Int)≠0:=by omega
 have h6':0<(n:Int):=by omega
 have h6'':0<n:=by omega
 have h1'':¬ 8<n:=by omega
 generalize ofN (q.num.natAbs^n)=AP at *
 generalize ofN (q.den^n)=DP at *
 generalize decide (q.den^n≠0)=NZ at *
 generalize ofN q.num.natAbs=A at *
 generalize ofN q.den=D at *
 generalize decide (q.num<0)=NG at *
 generalize decide (n%2=1)=OD at *
 generalize sgQ q=SG at *
 cases NG with
 | false=>
  simp only[Ydb]at hnorm ⊢;simp -implicitDefEqProofs[hn,h4,h5,h6'',h1',hw,mm2,cA,cD,hnorm,hsg,hsz]
 | true=>
  simp only[Ycd]at hnorm ⊢;cases OD with
  | false=>simp -implicitDefEqProofs[hn,h4,h5,h6'',h1',hw,mm2,cA,cD,ho,hnorm,hsg,hsz]
  | true=>simp -implicitDefEqProofs[hn,h4,h5,h6'',h1',hw,mm2,cA,cD,ho,hnorm,hsg,hsz]
end
@[simp] def z9t(l:List Int):(ints l).length=l.length:=by simp[ints]
@[simp] def zaow(l:List Int):wkL (ints l)=ints l:=by rw[zb8];simp[ints,wkR,wkA]
@[simp] def zajl(l:List Int)(i:Nat)(h:i<(ints l).length):(ints l)[i]=[.i .i64 (l[i]'(by simpa using h))]:=by simp[ints]
@[simp] def zafz(l:List Int)(n:Nat):(ints l).take n=ints (l.take n):=by simp[ints]
@[simp] def zajm:ints []=[]:=rfl
section
variable{T:Tbl}[Z2 T][Zu T][Zy T][Z0 T][Zt T][Zp T][Zi T][Zl T][Zs T][Zad T][Zah T]
def zdo(i m:Int):Za T 435 [.i .i64 i,.i .i64 m]=some (.b (Zo i m)):=by
 rw[zaa Zah.h435 rfl,b435];unfold Zo;by_cases h:0<=i
 ·by_cases h2:i<m<;>simp -implicitDefEqProofs[h,h2]
 ·simp -implicitDefEqProofs[h]
def z9u(i:Ins):Za T 437 [.agg (Zf0 i)]=some (.agg [.i .i64 i.op,.i .i64 i.a,.i .i64 i.b]):=by
 rw[zaa Zah.h437 rfl,b437];simp -implicitDefEqProofs
def zwb(x:Fz)(hx:fsz x<=10000):Za T 438 [efz x]=some (.b (Zh9 x)):=by
 obtain⟨n,a,d⟩:=x;rw[zaa Zah.h438 rfl,b438];unfold Zh9;cases n with
 | true=>simp -implicitDefEqProofs
 | false=>
  by_cases h:a=[]
  ·subst h;by_cases h2:d=[]
   ·subst h2;simp -implicitDefEqProofs
   ·have e2:d.isEmpty=false:=by cases d<;>simp_all
    simp -implicitDefEqProofs[h2,e2]
  ·have e2:a.isEmpty=false:=by cases a<;>simp_all
   simp -implicitDefEqProofs[h,e2]
def zwc(i:Ins):Za T 439 [.agg (Zf0 i)]=some (.sl (ints (Zao i)) .an):=by
 obtain⟨op,a,b,n⟩:=i;rw[zaa Zah.h439 rfl,b439];unfold Zao;simp only;by_cases h6:op=6
 ·subst h6;simp -implicitDefEqProofs[ints]
 by_cases h11:op=11
 ·subst h11;simp -implicitDefEqProofs[ints]
 rw[if_neg (by omega)];by_cases h7:op=7
 ·subst h7;simp -implicitDefEqProofs[ints]
 by_cases h8:op=8
 ·subst h8;simp -implicitDefEqProofs[ints]
 by_cases h9:op=9
 ·subst h9;simp -implicitDefEqProofs[ints]
 by_cases h10:op=10
 ·subst h10;simp -implicitDefEqProofs[ints]
 rw[if_neg (by omega)];simp -implicitDefEqProofs[h6,h7,h8,h9,h10,h11]
def z1n(i:Ins):(Zao i).length<=2:=by
 unfold Zao;split
 ·simp
 ·split<;>simp
def Zmq(t:Tp)(p:Nat)(x:Ins)(i:Nat):St:=
 ⟨[(1,.i .i64 p),(2,.ptr (.loc 2) 1 4 0 0),(5,.ptr (.loc 5) 2 6 0 0),(30,.sl (ints (Zao x)) .an),(31,.i .i64 (Zao x).length),(32,.i .i64 i)],
  [(.loc 2,⟨1,.str,4,[[.sl (Zdk t.code) .an,.sl (ints t.outs) .an,.i .i64 t.dim,.i .i64 t.par]]⟩),(.loc 5,⟨2,.str,6,[Zf0 x]⟩)],4⟩
def z5c(t:Tp)(p:Nat)(x:Ins):Ze T 0 0 (.norm false [2,5]) l434_0 (Zmq t p x 0) =
  if ((Zao x).all fun r=>Zo r p)=true then some (.n,⟨[(2,.ptr (.loc 2) 1 4 0 0),(5,.ptr (.loc 5) 2 6 0 0)],
   [(.loc 2,⟨1,.str,4,[[.sl (Zdk t.code) .an,.sl (ints t.outs) .an,.i .i64 t.dim,.i .i64 t.par]]⟩),(.loc 5,⟨2,.str,6,[Zf0 x]⟩)],4⟩)
  else some (.r,⟨[(4,.b false)],[],2⟩):=by
 have hlen:=z1n x;refine zap (Zmq t p x) (Zao x).length (fun i=>if (((Zao x).drop i).all fun r=>Zo r p)=true then some (.n,_) else some (.r,_)) (fun i hi=>?_) ?_
 ·have hg:(Zao x)[i]? = some ((Zao x)[i]'hi):=Yb hi;have hws:=zaw hi (by omega);have hd:(Zao x).drop i=(Zao x)[i]'hi::(Zao x).drop (i+1):=Yg hi;have cb:=zdo (T:=T) ((Zao x)[i]'hi) p;have hi':(i:Int)<(Zao x).length:=by omega
  by_cases hb:Zo ((Zao x)[i]'hi) p=true
  ·left;rw[hb]at cb;refine⟨?_,by rw[hd];simp only[Ybj,hb,Ycd]⟩;unfold Zmq;generalize Zao x=R at *
   simp -implicitDefEqProofs[l434_0,hi,hi',hg,hws,cb]
  ·right;have hb':Zo ((Zao x)[i]'hi) p=false:=by simpa using hb
   rw[hb']at cb;have hall:(((Zao x).drop i).all fun r=>Zo r p)=false:=by rw[hd,Ybj,hb'];rfl
   simp only[hall,Yx,if_false];unfold Zmq;clear hall hd;generalize Zao x=R at *
   constructor<;>simp -implicitDefEqProofs[l434_0,hi,hi',hg,cb]
 ·simp only[Yw,Ycw,if_true];unfold Zmq;generalize Zao x=R at *
  constructor<;>simp -implicitDefEqProofs[l434_0]
def z5d(t:Tp)(p:Nat)(x:Ins)(hx:t.code[p]? = some x)(hf:fsz x.n<=10000)(hl:t.code.length<=4294967296):Za T 434 [etp t,.i .i64 p]=some (.b (Zc0 t.dim t.par p x)):=by
 have hp:=zci hx;have hp2:(p:Int)<t.code.length:=by omega
 have ho:=z9u (T:=T) x;have hbl:=zwb (T:=T) x.n hf;have hrd:=zwc (T:=T) x;have hlo:=z5c (T:=T) t p x;have hrt:=zl0 (T:=T) x.n hf;unfold Zc0;unfold Zmq at hlo;simp only[Yp]at hlo;have cy:=zdo (T:=T) x.a t.dim;have cp:=zdo (T:=T) x.a t.par;have hr2:(((Zao x).length:Int) == 2)=decide ((Zao x).length=2):=by
  rw[Yb8];simp;omega
 rw[zaa Zah.h434 rfl,b434];generalize Zao x=R at *
 generalize Zbv x.n=RT at *
 generalize Zh9 x.n=BL at *
 generalize Zo x.a t.dim=B1 at *
 generalize Zo x.a t.par=B2 at *
 generalize (R.all fun r=>Zo r p)=AL at *
 obtain⟨code,outs,dim,par⟩:=t;obtain⟨op,a,b,n⟩:=x;dsimp only at hx hp hp2 ho hbl hrd hlo hrt cy cp ⊢;have hxe:=(Yc.1 hx).2;clear hf hl;by_cases h1:op=1
 ·subst h1;by_cases ha:a=0
  ·subst ha;by_cases hb:b=0
   ·subst hb;simp -implicitDefEqProofs[hp,hp2,hx,hxe,ho,hrt]
   ·simp -implicitDefEqProofs[hp,hp2,hx,hxe,ho,hrt,hb]
  ·simp -implicitDefEqProofs[hp,hp2,hx,hxe,ho,hrt,ha]
 rw[if_neg h1];cases BL with
 | false=>simp -implicitDefEqProofs[hp,hp2,hx,hxe,h1,hbl]
 | true=>
 cases AL with
 | false=>
  simp only[Yx,if_false]at hlo;simp -implicitDefEqProofs[hp,hp2,hx,hxe,h1,hbl,hrd,hlo]
 | true=>
 simp only[if_true]at hlo;by_cases h2:op=2
 ·subst h2;by_cases ha:a=0
  ·subst ha;by_cases hb:b=0
   ·subst hb;simp -implicitDefEqProofs[hp,hp2,hx,hxe,ho,hbl,hrd,hlo]
   ·simp -implicitDefEqProofs[hp,hp2,hx,hxe,ho,hbl,hrd,hlo,hb]
  ·simp -implicitDefEqProofs[hp,hp2,hx,hxe,ho,hbl,hrd,hlo,ha]
 by_cases h3:op=3
 ·subst h3;cases B1 with
  | false=>simp -implicitDefEqProofs[hp,hp2,hx,hxe,hbl,hrd,hlo,cy]
  | true=>
   by_cases hb:b=0
   ·subst hb;simp -implicitDefEqProofs[hp,hp2,hx,hxe,hbl,hrd,hlo,cy]
   ·simp -implicitDefEqProofs[hp,hp2,hx,hxe,hbl,hrd,hlo,cy,hb]
 by_cases h4:op=4
 ·subst h4;cases B2 with
  | false=>simp -implicitDefEqProofs[hp,hp2,hx,hxe,hbl,hrd,hlo,cp]
  | true=>
   by_cases hb:b=0
   ·subst hb;simp -implicitDefEqProofs[hp,hp2,hx,hxe,hbl,hrd,hlo,cp]
   ·simp -implicitDefEqProofs[hp,hp2,hx,hxe,hbl,hrd,hlo,cp,hb]
 by_cases h6:op=6
 ·subst h6;by_cases hb:b=0
  ·subst hb;simp -implicitDefEqProofs[hp,hp2,hx,hxe,hbl,hrd,hlo]
  ·simp -implicitDefEqProofs[hp,hp2,hx,hxe,hbl,hrd,hlo,hb]
 by_cases h11:op=11
 ·subst h11;by_cases hb:-8<=b
  ·by_cases hb2:b<=8
   ·simp -implicitDefEqProofs[hp,hp2,hx,hxe,hbl,hrd,hlo,hb,hb2]
   ·simp -implicitDefEqProofs[hp,hp2,hx,hxe,hbl,hrd,hlo,hb,hb2]
  ·simp -implicitDefEqProofs[hp,hp2,hx,hxe,hbl,hrd,hlo,hb]
 simp -implicitDefEqProofs[hp,hp2,hx,hxe,h1,h2,h3,h4,h6,h11,hbl,hrd,hlo,hr2]
end
section
variable{T:Tbl}[Z2 T][Zu T][Zy T][Z0 T][Zt T][Zp T][Zi T][Zl T][Zs T][Zad T][Zah T]
structure Small (t:Tp):Prop where
 code:t.code.length<=4294967296
 outs:t.outs.length<=4294967296
 ns:∀i∈t.code,fsz i.n<=10000
 d1:-9223372036854775808<=t.dim
 d2:t.dim<9223372036854775808
def zwd(t:Tp)(hs:Small t):Za T 433 [etp t]=some (.b (Zfg t)):=by
 obtain⟨h1,h2,_,d1,d2⟩:=hs;have c0:Za T 435 [.i .i64 (IntKind.wrap .i64 (t.dim-1)),.i .i64 6]=some (.b (Zo (t.dim-1) 6)):=by
  rw[zdo];congr 2;by_cases hm:t.dim=-9223372036854775808
  ·rw[hm]
   decide
  ·rw[zab _ (by omega)]
 have c1:=zdo (T:=T) t.par 7;unfold Zfg;obtain⟨code,outs,dim,par⟩:=t;dsimp only at *
 have e1:((outs.length:Int) == dim)=decide ((outs.length:Int)=dim):=rfl;rw[zaa Zah.h433 rfl,b433];generalize Zo (dim-1) 6=B1 at *
 generalize Zo par 7=B2 at *
 cases B1 with
 | false=>simp -implicitDefEqProofs[c0]
 | true=>
 cases B2 with
 | false=>simp -implicitDefEqProofs[c0,c1]
 | true=>
 by_cases ho:(outs.length:Int)=dim
 ·by_cases hc:code.length<=300
  ·have hc':(code.length:Int)<=300:=by omega
   simp -implicitDefEqProofs[c0,c1,ho,hc,hc']
  ·have hc':300<(code.length:Int):=by omega
   simp -implicitDefEqProofs[c0,c1,ho,hc,hc']
 ·simp -implicitDefEqProofs[c0,c1,ho]
def bxT(t:Tp):Box:=⟨1,.str,4,[[.sl (Zdk t.code) .an,.sl (ints t.outs) .an,.i .i64 t.dim,.i .i64 t.par]]⟩
def Zmr(t:Tp)(i:Nat):St:=⟨[(1,.ptr (.loc 1) 1 4 0 0),(11,.i .i64 t.code.length),(12,.i .i64 i)],[(.loc 1,bxT t)],3⟩
def zry(t:Tp)(hs:Small t):Ze T 0 0 (.norm false [1]) l430_0 (Zmr t 0) =
  if Zbi t.dim t.par 0 t.code=-1 then some (.n,⟨[(1,.ptr (.loc 1) 1 4 0 0)],[(.loc 1,bxT t)],3⟩) else some (.r,⟨[(2,.i .i64 (Zbi t.dim t.par 0 t.code))],[],2⟩):=by
 have hc:=hs.code;have e0:t.code.drop 0=t.code:=rfl;rw[<-e0];refine zap (Zmr t) t.code.length (fun i=>if Zbi t.dim t.par i (t.code.drop i)=-1 then some (.n,_) else some (.r,⟨[(2,.i .i64 (Zbi t.dim t.par i (t.code.drop i)))],[],2⟩)) (fun i hi=>?_) ?_
 ·have hg:t.code[i]? = some (t.code[i]'hi):=Yb hi;have hws:=zaw hi (by omega);have hd:t.code.drop i=t.code[i]'hi::t.code.drop (i+1):=Yg hi;have cm:=z5d (T:=T) t i _ hg (hs.ns _ (Yi hi)) hc;have hi':(i:Int)<t.code.length:=by omega
  have hf:Zbi t.dim t.par i (t.code.drop i)=if Zc0 t.dim t.par i (t.code[i]'hi) then Zbi t.dim t.par (i+1) (t.code.drop (i+1)) else i:=by rw[hd];rfl
  by_cases hb:Zc0 t.dim t.par i (t.code[i]'hi)=true
  ·left;rw[hb]at cm;rw[if_pos hb]at hf;refine⟨?_,by simp only[hf]⟩;unfold Zmr bxT;clear hf hd;simp -implicitDefEqProofs[l430_0,hi,hi',hws,cm]
  ·right;have hb':Zc0 t.dim t.par i (t.code[i]'hi)=false:=by simpa using hb
   rw[hb']at cm;rw[if_neg hb]at hf;have hne:¬ (i:Int)=-1:=by omega
   simp only[hf,if_neg hne];unfold Zmr bxT;clear hf hd;constructor<;>simp -implicitDefEqProofs[l430_0,hi,hi',cm]
 ·have hf:Zbi t.dim t.par t.code.length (t.code.drop t.code.length)=-1:=by rw[Yw];rfl
  simp only[hf,if_true];unfold Zmr bxT;constructor<;>simp -implicitDefEqProofs[l430_0]
def Zms(t:Tp)(i:Nat):St:=⟨[(1,.ptr (.loc 1) 1 4 0 0),(22,.sl (ints t.outs) .an),(23,.i .i64 t.outs.length),(24,.i .i64 i)],[(.loc 1,bxT t)],3⟩
def zrz(t:Tp)(hs:Small t):Ze T 0 2 (.norm false []) l430_1 (Zms t 0) =
  if (t.outs.all fun o=>Zo o t.code.length)=true then some (.n,⟨[],[],2⟩) else some (.r,⟨[(2,.i .i64 t.code.length)],[],2⟩):=by
 have hc:=hs.outs;refine zap (Zms t) t.outs.length (fun i=>if ((t.outs.drop i).all fun o=>Zo o t.code.length)=true then some (.n,_) else some (.r,_)) (fun i hi=>?_) ?_
 ·have hg:t.outs[i]? = some (t.outs[i]'hi):=Yb hi;have hws:=zaw hi (by omega);have hd:t.outs.drop i=t.outs[i]'hi::t.outs.drop (i+1):=Yg hi;have cm:=zdo (T:=T) (t.outs[i]'hi) t.code.length;have hi':(i:Int)<t.outs.length:=by omega
  by_cases hb:Zo (t.outs[i]'hi) t.code.length=true
  ·left;rw[hb]at cm;refine⟨?_,by rw[hd];simp only[Ybj,hb,Ycd]⟩;unfold Zms bxT;clear hd;simp -implicitDefEqProofs[l430_1,hi,hi',hg,hws,cm]
  ·right;have hb':Zo (t.outs[i]'hi) t.code.length=false:=by simpa using hb
   rw[hb']at cm;have hall:((t.outs.drop i).all fun o=>Zo o t.code.length)=false:=by rw[hd,Ybj,hb'];rfl
   simp only[hall,Yx,if_false];unfold Zms bxT;clear hall hd;constructor<;>simp -implicitDefEqProofs[l430_1,hi,hi',hg,cm]
 ·simp only[Yw,Ycw,if_true];unfold Zms bxT;constructor<;>simp -implicitDefEqProofs[l430_1]
def zwe(t:Tp)(hs:Small t):Za T 430 [etp t]=some (.i .i64 (Zf1 t)):=by
 have cw:=zwd (T:=T) t hs;have h1:=zry (T:=T) t hs;have h2:=zrz (T:=T) t hs;unfold Zf1;unfold Zmr bxT at h1;unfold Zms bxT at h2;simp only[Yp]at h1 h2;generalize hfi:Zbi t.dim t.par 0 t.code=F at *
 generalize hal:(t.outs.all fun o=>Zo o t.code.length)=AL at *
 generalize hwt:Zfg t=W at *
 obtain⟨code,outs,dim,par⟩:=t;dsimp only at *
 rw[zaa Zah.h430 rfl,b430];cases W with
 | false=>simp -implicitDefEqProofs[cw]
 | true=>
 by_cases hf:F=-1
 ·subst hf;cases AL with
  | false=>
   simp only[Yx,if_false]at h2;simp -implicitDefEqProofs[cw,h1,h2]
  | true=>
   simp only[if_true]at h1 h2;simp -implicitDefEqProofs[cw,h1,h2]
 ·rw[if_neg hf]at h1;simp -implicitDefEqProofs[cw,h1,hf]
def zeh(t:Tp)(hs:Small t):Za T 421 [etp t]=some (.b (okT t)):=by
 have cw:=zwe (T:=T) t hs;have e:(Zf1 t == -1)=okT t:=rfl;rw[zaa Zah.h421 rfl,b421,<-e];generalize Zf1 t=W at *
 obtain⟨code,outs,dim,par⟩:=t;simp -implicitDefEqProofs[cw]
end
def Zk8(n:Int):Int:=if n<0 then 0 else if 4096<n then 4096 else n
abbrev bxG(g:Nat)(s p L:Int):Box:=⟨g,.str,3,[[.i .i64 s,.i .i64 p,.i .i64 L]]⟩
def Zfa(s:Int):Int:=IntKind.wrap .i64 (s+1)
def Zfx(p:Int)(x:Fz):Int:=if p<(Zcs x:Int) then (Zcs x:Int) else p
section
variable{T:Tbl}[Z2 T][Zu T][Zy T][Z0 T][Zt T][Zp T][Zi T][Zl T][Zs T][Zad T][Zap T][Zc5 T][Zah T][Zaf T][Zbl T]
def zl2(x:Fz)(hx:fsz x<=10000):Za T 223 [efz x]=some (.i .i64 (Zcs x)):=by
 have h1:=zda x;have h2:=zdh x;have c1:=zta (T:=T) x.2.1 (by omega);have c2:=zta (T:=T) x.2.2 (by omega);have b1:=zir (x:=val x.2.1) (k:=10000) (Yd (zac x.2.1) (by omega));have b2:=zir (x:=val x.2.2) (k:=10000) (Yd (zac x.2.2) (by omega));have w:IntKind.wrap .i64 ((Zbe (val x.2.1):Int)+(Zbe (val x.2.2):Int))=((Zcs x:Nat):Int):=by
  have e:((Zcs x:Nat):Int)=(Zbe (val x.2.1):Int)+(Zbe (val x.2.2):Int):=by unfold Zcs;omega
  rw[e];exact zab _ (by omega)
 rw[zaa Zap.h223 rfl,b223];generalize Zcs x=S at *
 generalize Zbe (val x.2.1)=B1 at *
 generalize Zbe (val x.2.2)=B2 at *
 simp -implicitDefEqProofs[c1,c2,w]
def zo8(n:Int):Z4 T 406 [.i .i64 n] []=some (.ptr (.loc 7) 1 3 0 0,[(.loc 7,bxG 1 0 0 (Zk8 n))]):=by
 unfold Zk8;rw[zam Zaf.h406 rfl,b406];by_cases h1:n<0
 ·simp -implicitDefEqProofs[h1,mm2]
 ·by_cases h2:4096<n
  ·simp -implicitDefEqProofs[h1,h2,mm2]
  ·simp -implicitDefEqProofs[h1,h2,mm2]
def zuy(s p L k:Int):Z4 T 426 [.ptr (.bor 0) 0 3 0 0,.i .i64 k] [(.bor 0,bxG 0 s p L)]=some (.tup [],[(.bor 0,bxG 0 (Zfa s) (if p<k then k else p) L)]):=by
 unfold Zfa;rw[zam Zaf.h426 rfl,b426];by_cases h1:p<k
 ·simp -implicitDefEqProofs[h1,mm2]
 ·simp -implicitDefEqProofs[h1,mm2]
def zhq(s p L:Int)(x:Fz)(hx:fsz x<=10000):Z4 T 411 [.ptr (.bor 0) 0 3 0 0,efz x] [(.bor 0,bxG 0 s p L)]=some (.b (decide ((Zcs x:Int)<=L)),[(.bor 0,bxG 0 (Zfa s) (Zfx p x) L)]):=by
 have h1:=zl2 (T:=T) x hx;have h2:=zuy (T:=T) s p L (Zcs x);unfold Zfx;rw[zam Zaf.h411 rfl,b411];generalize Zfa s=s' at *
 generalize (if p<(Zcs x:Int) then (Zcs x:Int) else p)=p' at *
 generalize (Zcs x:Int)=z at *
 simp -implicitDefEqProofs[h1,h2]
def Znd(l:List Fz)(i:Nat):St:=⟨[(3,.bs (.loc 3) 1 3 0 i),(6,.sl (Zb l) .an),(7,.i .i64 l.length),(8,.i .i64 i)],[(.loc 3,⟨1,.own,3,Zb (nrm (l.take i))⟩)],3⟩
def zl3(l:List Fz)(hl:l.length<=1000)(hw:∀x∈l,fsz x<=1000):Za T 420 [.sl (Zb l) .an]=some (.sl (Zb (nrm l)) .an):=by
 have h:Ze T 0 0 (.norm false [3]) l420_0 (Znd l 0)=some (.n,⟨[(3,.bs (.loc 3) 1 3 0 l.length)],[(.loc 3,⟨1,.own,3,Zb (nrm l)⟩)],3⟩):=by
  refine zag (Znd l) l.length _ (fun i hi=>?_) ?_
  ·have hg:l[i]? = some (l[i]'hi):=Yb hi;have hws:=zaw hi (by omega);have hn:=zc6 (T:=T) (l[i]'hi) (Yd (hw _ (Yi hi)) (by decide));have e:nrm (l.take (i+1))=nrm (l.take i)++[fz (fv (l[i]'hi))]:=zdg l _ hi;have hp:=za6 (m:=nrm (l.take i)) (n:=i) (by simp[nrm];omega) (fz (fv (l[i]'hi)));have hml:(nrm (l.take i)).length=i:=by simp[nrm];omega
   unfold Znd;rw[e];clear e;generalize nrm (l.take i)=M at *
   generalize fz (fv (l[i]'hi))=z at *
   have hb:i<=4294967295:=by omega
   simp -implicitDefEqProofs[l420_0,hi,hg,hws,hn,hp,hml,hb]
  ·unfold Znd;rw[Ya (Ye _)];generalize nrm l=M;constructor<;>simp -implicitDefEqProofs[l420_0]
 unfold Znd at h;simp[nrm]at h;have ht:List.take l.length (List.map (fun x=>fz (fv x)) l)=List.map (fun x=>fz (fv x)) l:=Ya (by simp);rw[zaa Zbl.h420 rfl,b420];simp -implicitDefEqProofs[h,nrm,ht]
structure PoS (x:PoF) (B:Nat):Prop where
 t:fsz x.t<=B
 y:∀u∈x.y,fsz u<=B
 p:∀u∈x.p,fsz u<=B
 yl:x.y.length<=1000
 pl:x.p.length<=1000
def z8b(x:PoF):x.v.f=⟨fz (fv x.t),nrm x.y,nrm x.p⟩:=by
 unfold PoF.v Po.f;rw[zrt,zrt]
def zyy(x:PoF)(h:PoS x 1000):Za T 405 [ept x]=some (ept x.v.f):=by
 have h1:=zc6 (T:=T) x.t (Yd h.t (by decide));have h2:=zl3 (T:=T) x.y h.yl h.y;have h3:=zl3 (T:=T) x.p h.pl h.p;rw[z8b];obtain⟨t,y,p⟩:=x;dsimp only at *
 rw[zaa Zbl.h405 rfl,b405];generalize fz (fv t)=t' at *
 generalize nrm y=y' at *
 generalize nrm p=p' at *
 simp -implicitDefEqProofs[h1,h2,h3]
end
theorem z09{q:Rat}{e:Int}(h1:-8<=e)(h2:e<=8):Zfw q e=if e<0/\q=0 then (0,false) else (Ziv q e,true):=by
 unfold Zfw;by_cases h:e<0/\q=0
 ·rw[if_pos h,if_neg (by intro hh;exact hh.2.2 h)]
 ·rw[if_neg h,if_pos ⟨h1,h2,h⟩]
abbrev mD:AV:=.agg [.dead]
section
variable{T:Tbl}[Z2 T][Zu T][Zy T][Z0 T][Zt T][Zp T][Zi T][Zl T][Zs T][Zad T][Zap T][Zc5 T][Zah T][Zaf T][Zbl T][Zas T][Zd7 T]
def zaou(x:Fz)(hx:fsz x<=1000):Za T 445 [mD,efz x]=some (efz (fz (fv x))):=by
 have h:=zc6 (T:=T) x (by omega);rw[zaa Zas.h445 rfl,b445];generalize fz (fv x)=z at *
 simp -implicitDefEqProofs[h]
def zafr(x:Fz)(hx:fsz x<=1000):Za T 444 [mD,efz x]=some (efz (fz (-fv x))):=by
 have h:=z27 (T:=T) x (by omega);rw[zaa Zas.h444 rfl,b444];generalize fz (-fv x)=z at *
 simp -implicitDefEqProofs[h]
def zafs(x y:Fz)(hx:fsz x<=1000)(hy:fsz y<=1000):Za T 441 [mD,efz x,efz y]=some (efz (fz (fv x+fv y))):=by
 have h:=zfu (T:=T) x y hx hy;rw[zaa Zas.h441 rfl,b441];generalize fz (fv x+fv y)=z at *
 simp -implicitDefEqProofs[h]
def zaft(x y:Fz)(hx:fsz x<=1000)(hy:fsz y<=1000):Za T 448 [mD,efz x,efz y]=some (efz (fz (fv x-fv y))):=by
 have h:=z28 (T:=T) x y hx hy;rw[zaa Zas.h448 rfl,b448];generalize fz (fv x-fv y)=z at *
 simp -implicitDefEqProofs[h]
def zafu(x y:Fz)(hx:fsz x<=1000)(hy:fsz y<=1000):Za T 443 [mD,efz x,efz y]=some (efz (fz (fv x*fv y))):=by
 have h:=zin (T:=T) x y hx hy;rw[zaa Zas.h443 rfl,b443];generalize fz (fv x*fv y)=z at *
 simp -implicitDefEqProofs[h]
def zafv(x y:Fz)(hx:fsz x<=1000)(hy:fsz y<=1000):Za T 447 [mD,efz x,efz y]=some (.tup [efz (fz (fv x/fv y)),.b (decide (fv y≠0))]):=by
 have h:=z29 (T:=T) x y hx hy;rw[zaa Zas.h447 rfl,b447];generalize fz (fv x/fv y)=z at *
 generalize decide (fv y≠0)=ok at *
 simp -implicitDefEqProofs[h]
def zafw(x:Fz)(e:Int)(hx:fsz x<=1000):Za T 446 [mD,efz x,.i .i64 e]=some (.tup [efz (fz (Zfw (fv x) e).1),.b (Zfw (fv x) e).2]):=by
 have h:=z3a (T:=T) x e hx;rw[zaa Zas.h446 rfl,b446];generalize fz (Zfw (fv x) e).1=z at *
 generalize (Zfw (fv x) e).2=ok at *
 simp -implicitDefEqProofs[h]
def z1a(s p L:Int)(x:Fz)(hx:fsz x<=10000):Z4 T 442 [.agg [.ptr (.bor 0) 0 3 0 0],efz x] [(.bor 0,bxG 0 s p L)]=some (.b (decide ((Zcs x:Int)<=L)),[(.bor 0,bxG 0 (Zfa s) (Zfx p x) L)]):=by
 have h:=zhq (T:=T) s p L x hx;rw[zam Zas.h442 rfl,b442];generalize Zfa s=s' at *
 generalize Zfx p x=p' at *
 simp -implicitDefEqProofs[h]
def z43(i:Ins)(P:Po)(hop:i.op=1\/i.op=2\/i.op=3\/i.op=4)(hn:fsz i.n<=1000)(hy:i.op=3->0<=i.a/\i.a<P.y.length)(hp:i.op=4->0<=i.a/\i.a<P.p.length) :
  Za T 431 [mD,.agg (Zf0 i),ept P.f]=some (efz (fz (Z6 P [] i).1)):=by
 have h1:=zaou (T:=T) i.n hn;obtain⟨op,a,b,n⟩:=i;obtain⟨t,y,p⟩:=P;dsimp only at *
 unfold Z6 Po.f;dsimp only;rw[zaa Zas.h431 rfl,b431];rcases hop with rfl | rfl | rfl | rfl
 ·show _=some (efz (fz (fv n)));generalize fz (fv n)=z at *
  generalize fzs y=Y at *
  generalize fzs p=PP at *
  generalize fz t=tt at *
  simp -implicitDefEqProofs[h1]
 ·show _=some (efz (fz t));generalize fzs y=Y at *
  generalize fzs p=PP at *
  generalize fz t=tt at *
  simp -implicitDefEqProofs
 ·obtain⟨k,rfl⟩:∃k:Nat,a=k:=⟨a.toNat,by have:=(hy rfl).1;omega⟩;have hk:k<y.length:=by have:=(hy rfl).2;omega
  have hk':(k:Int)<y.length:=by omega
  have hg:(fzs y)[k]? = some (fz (y[k]'hk)):=zhy (Yb hk);have hge:=(Yc.1 hg).2;have hl:(fzs y).length=y.length:=zae y;have e:gI y (k:Int)=y[k]'hk:=by simp[gI,List.getD,Yb hk]
  show _=some (efz (fz (gI _ _)));rw[e];generalize fzs y=Y at *
  generalize fzs p=PP at *
  generalize fz t=tt at *
  generalize fz (y[k]'hk)=z at *
  simp -implicitDefEqProofs[hk,hk',hg,hge,hl]
 ·obtain⟨k,rfl⟩:∃k:Nat,a=k:=⟨a.toNat,by have:=(hp rfl).1;omega⟩;have hk:k<p.length:=by have:=(hp rfl).2;omega
  have hk':(k:Int)<p.length:=by omega
  have hg:(fzs p)[k]? = some (fz (p[k]'hk)):=zhy (Yb hk);have hge:=(Yc.1 hg).2;have hl:(fzs p).length=p.length:=zae p;have e:gI p (k:Int)=p[k]'hk:=by simp[gI,List.getD,Yb hk]
  show _=some (efz (fz (gI _ _)));rw[e];generalize fzs y=Y at *
  generalize fzs p=PP at *
  generalize fz t=tt at *
  generalize fz (p[k]'hk)=z at *
  simp -implicitDefEqProofs[hk,hk',hg,hge,hl]
def zid{D:List Rat}{a:Int}(h:0<=a/\a<D.length):∃k:Nat,a=k/\(k:Int)<D.length/\k<D.length/\(fzs D)[k]? = some (fz (gI D a)):=by
 obtain⟨k,rfl⟩:∃k:Nat,a=k:=⟨a.toNat,by omega⟩;have hk:k<D.length:=by omega
 refine⟨k,rfl,by omega,hk,?_⟩;have e:gI D (k:Int)=D[k]'hk:=by simp[gI,List.getD,Yb hk]
 rw[e];exact zhy (Yb hk)
def zla{D:List Rat}{a:Int}{B:Nat}(hB:1<=B)(h:∀q∈D,sz q<=B):sz (gI D a)<=B:=by
 unfold gI List.getD;cases hx:D[a.toNat]? with
 | none=>exact Yd (Nat.le_of_eq zh4) hB
 | some q=>exact h q (Yf hx)
def z44(i:Ins)(P:Po)(D:List Rat)(dim par:Int)(hm:Zc0 dim par D.length i=true)(hd:(P.y.length:Int)=dim)(hp:(P.p.length:Int)=par)(hn:fsz i.n<=1000)(hD:∀q∈D,sz q<=1000) :
  Za T 422 [mD,.agg (Zf0 i),ept P.f,.sl (Zb (fzs D)) .an]=some (.tup [efz (fz (Z6 P D i).1),.b (Z6 P D i).2]):=by
 have hop:=z2a hm;by_cases hleaf:i.op=1\/i.op=2\/i.op=3\/i.op=4
 ·have h1:=z43 (T:=T) i P hleaf hn (fun h=>by have:=zage hm h;omega) (fun h=>by have:=zagf hm h;omega);have e:Z6 P D i=((Z6 P [] i).1,true):=by
   unfold Z6;rcases hleaf with h | h | h | h<;>simp[h]
  rw[e];generalize fz (Z6 P [] i).1=z at *
  generalize fzs D=DD at *
  obtain⟨op,a,b,n⟩:=i;generalize P.f=Q at *
  obtain⟨⟨t0,t1,t2⟩,y,p⟩:=Q;dsimp only at *
  rw[zaa Zas.h422 rfl,b422];rcases hleaf with rfl | rfl | rfl | rfl<;>simp -implicitDefEqProofs[h1]
 have ha:=zagc hm (by omega);obtain⟨k,hk1,hk2,hk3,hka⟩:=zid ha;have sa:fsz (fz (gI D i.a))<=1000:=zla (by decide) hD;have hkae:=(Yc.1 hka).2;have hl:(fzs D).length=D.length:=zae D;have c6:=zafr (T:=T) (fz (gI D i.a)) sa;have c11:=zafw (T:=T) (fz (gI D i.a)) i.b sa;rw[zb6]at c6 c11;by_cases h6:i.op=6
 ·have e:Z6 P D i=(-gI D i.a,true):=by simp[Z6,h6]
  rw[e];generalize fz (-gI D i.a)=z at *
  generalize fz (gI D i.a)=u at *
  generalize fzs D=DD at *
  obtain⟨op,a,b,n⟩:=i;generalize P.f=Q at *
  obtain⟨⟨t0,t1,t2⟩,y,p⟩:=Q;dsimp only at *
  subst h6 hk1;rw[zaa Zas.h422 rfl,b422];simp -implicitDefEqProofs[hk2,hk3,hka,hkae,hl,c6]
 by_cases h11:i.op=11
 ·have hb:=z95 hm h11;have e:Z6 P D i=Zfw (gI D i.a) i.b:=by simp[Z6,h11,z09 hb.1 hb.2]
  rw[e];generalize fz (Zfw (gI D i.a) i.b).1=z at *
  generalize (Zfw (gI D i.a) i.b).2=ok at *
  generalize fz (gI D i.a)=u at *
  generalize fzs D=DD at *
  obtain⟨op,a,b,n⟩:=i;generalize P.f=Q at *
  obtain⟨⟨t0,t1,t2⟩,y,p⟩:=Q;dsimp only at *
  subst h11 hk1;rw[zaa Zas.h422 rfl,b422];simp -implicitDefEqProofs[hk2,hk3,hka,hkae,hl,c11]
 have hb:=zagd hm (by omega);obtain⟨j,hj1,hj2,hj3,hjb⟩:=zid hb;have sb:fsz (fz (gI D i.b))<=1000:=zla (by decide) hD;have hjbe:=(Yc.1 hjb).2;have c7:=zafs (T:=T) (fz (gI D i.a)) (fz (gI D i.b)) sa sb;have c8:=zaft (T:=T) (fz (gI D i.a)) (fz (gI D i.b)) sa sb;have c9:=zafu (T:=T) (fz (gI D i.a)) (fz (gI D i.b)) sa sb;have c10:=zafv (T:=T) (fz (gI D i.a)) (fz (gI D i.b)) sa sb;rw[zb6,zb6]at c7 c8 c9 c10;have e7:i.op=7->Z6 P D i=(gI D i.a+gI D i.b,true):=fun h=>by simp[Z6,h]
 have e8:i.op=8->Z6 P D i=(gI D i.a-gI D i.b,true):=fun h=>by simp[Z6,h]
 have e9:i.op=9->Z6 P D i=(gI D i.a*gI D i.b,true):=fun h=>by simp[Z6,h]
 have e10:i.op=10->Z6 P D i=(gI D i.a/gI D i.b,decide (gI D i.b≠0)):=fun h=>by simp[Z6,h]
 generalize gI D i.a=A at *
 generalize gI D i.b=B at *
 generalize fz A=u at *
 generalize fz B=v at *
 generalize Z6 P D i=V at *
 generalize fzs D=DD at *
 obtain⟨op,a,b,n⟩:=i;generalize P.f=Q at *
 obtain⟨⟨t0,t1,t2⟩,y,p⟩:=Q;dsimp only at *
 subst hk1 hj1;rw[zaa Zas.h422 rfl,b422];rcases(show op=7\/op=8\/op=9\/op=10 by omega) with rfl | rfl | rfl | rfl
 ·rw[e7 rfl];generalize fz (A+B)=z at *
  simp -implicitDefEqProofs[hk2,hk3,hka,hkae,hj2,hj3,hjb,hjbe,hl,c7]
 ·rw[e8 rfl];generalize fz (A-B)=z at *
  simp -implicitDefEqProofs[hk2,hk3,hka,hkae,hj2,hj3,hjb,hjbe,hl,c8]
 ·rw[e9 rfl];generalize fz (A*B)=z at *
  simp -implicitDefEqProofs[hk2,hk3,hka,hkae,hj2,hj3,hjb,hjbe,hl,c9]
 ·rw[e10 rfl];generalize fz (A/B)=z at *
  generalize decide (B≠0)=ok at *
  simp -implicitDefEqProofs[hk2,hk3,hka,hkae,hj2,hj3,hjb,hjbe,hl,c10]
end
def ztf{n b:Nat}(h:Zbe n<=b):(ofN n).length<=b/32+1:=by
 refine zas ?_;unfold Zbe at h;split at h
 ·grind
 ·rename_i h0;have h1:n<2^(n.log2+1):=(Yeq h0).1 (Y7 _);have h3:(4294967296:Nat)^(b/32+1)=2^(32*(b/32+1)):=by rw[Yfj]
  have h2:2^(n.log2+1)<=2^(32*(b/32+1)):=Y9 (by decide) (by omega);omega
def zkj{q:Rat}{b:Nat}(h:Zec q<=b):sz q<=b/32+1:=by
 unfold Zec Zcs fz at h;rw[zad,zad]at h;exact Yfl.2 ⟨ztf (Yd (Nat.le_add_right _ _) h),ztf (Yd (Nat.le_add_left _ _) h)⟩
def ztg(q:Rat)(n:Nat):sz (q^n)<=n*sz q+1:=by
 unfold sz;rw[Rat.num_pow,Rat.den_pow,Int.natAbs_pow];exact Yfl.2 ⟨zhp (Ye9 _ _) n,zhp (Yex _ _) n⟩
def z9m{q:Rat}{e:Int}{B:Nat}(hq:sz q<=B)(h1:-8<=e)(h2:e<=8):sz (Ziv q e)<=8*B+1:=by
 unfold Ziv;rcases Int.le_total 0 e with h | h
 ·obtain⟨n,rfl⟩:∃n:Nat,e=n:=⟨e.toNat,by omega⟩;rw[Ycq];have:=ztg q n;have h3:n*sz q<=8*B:=Ycg (by omega) hq;omega
 ·obtain⟨n,rfl⟩:∃n:Nat,e=-(n:Int):=⟨(-e).toNat,by omega⟩;rw[Rat.zpow_neg,Ycq];have:=ztg q n;have h3:n*sz q<=8*B:=Ycg (by omega) hq;have:=z1y (q^n);omega
structure PvS (P:Po) (B:Nat):Prop where
 t:sz P.t<=B
 y:∀q∈P.y,sz q<=B
 p:∀q∈P.p,sz q<=B
def z1b{P:Po}{D:List Rat}{i:Ins}{dim par:Int}{p:Nat}(hm:Zc0 dim par p i=true)(hP:PvS P 1000)(hn:fsz i.n<=1000)(hD:∀q∈D,sz q<=129):sz (Z6 P D i).1<=2000:=by
 have ga:=zla (D:=D) (a:=i.a) (B:=129) (by decide) hD;have gb:=zla (D:=D) (a:=i.b) (B:=129) (by decide) hD;have gy:=zla (D:=P.y) (a:=i.a) (B:=1000) (by decide) hP.y;have gp:=zla (D:=P.p) (a:=i.a) (B:=1000) (by decide) hP.p;have gn:=za2 (x:=i.n) (L:=1000) hn (by decide);have gt:=hP.t;rcases z2a hm with h | h | h | h | h | h | h | h | h | h
 ·simp[Z6,h];omega
 ·simp[Z6,h];omega
 ·simp[Z6,h];omega
 ·simp[Z6,h];omega
 ·simp[Z6,h,z1x];omega
 ·grind[zez,Z6]
 ·grind[zaf4,Z6]
 ·grind[zd8,Z6]
 ·grind[zaf5,Z6]
 ·obtain⟨e1,e2⟩:=z95 hm h;have h1:=z9m ga e1 e2
  grind[Z6]
def Zis(lim:Nat)(P:Po):List Ins->List Rat->Int->Int->Int×Int
 | [],_,s,p=>(s,p)
 | i::r,D,s,p=>if (Z6 P D i).2=false then (s,p) else if lim<Zec (Z6 P D i).1 then (Zfa s,Zfx p (fz (Z6 P D i).1)) else Zis lim P r (D++[(Z6 P D i).1]) (Zfa s) (Zfx p (fz (Z6 P D i).1))
theorem zkk(lim:Nat)(P:Po)(i:Ins)(r:List Ins)(D:List Rat)(s p:Int):Zis lim P (i::r) D s p=if (Z6 P D i).2=false then (s,p) else if lim<Zec (Z6 P D i).1 then (Zfa s,Zfx p (fz (Z6 P D i).1)) else Zis lim P r (D++[(Z6 P D i).1]) (Zfa s) (Zfx p (fz (Z6 P D i).1)):=rfl
abbrev bxM:Box:=⟨3,.str,1,[[.ptr (.bor 0) 0 3 0 0]]⟩
abbrev bxP(g:Nat)(x:PoF):Box:=⟨g,.str,5,[[.b x.t.1,.sl (Zc x.t.2.1) .an,.sl (Zc x.t.2.2) .an,.sl (Zb x.y) .an,.sl (Zb x.p) .an]]⟩
abbrev bxF(g:Nat)(a b c d:Int):Box:=⟨g,.str,4,[[.i .i64 a,.i .i64 b,.i .i64 c,.i .i64 d]]⟩
def Ze4(Q:PoF)(L:Int)(code:List Ins)(i:Nat)(D:List Fz)(s p:Int)(kd:Kind):St:=
 ⟨[(3,.ptr (.loc 3) 3 1 0 0),(5,.ptr (.loc 5) 4 5 0 0),(7,.ptr (.loc 7) 5 4 0 0),(8,.bs (.loc 8) 6 3 0 i),(34,.sl (Zdk code) .an),(35,.i .i64 code.length),(36,.i .i64 i)],
  [(.bor 0,bxG 0 s p L),(.loc 3,bxM),(.loc 5,bxP 4 Q),(.loc 7,bxF 5 0 0 0 0),(.loc 8,⟨6,kd,3,Zb D⟩)],8⟩
def Zos(n:Nat)(D:List Fz)(s p L:Int)(kd:Kind):Ex×St:=(.n,⟨[(7,.ptr (.loc 7) 3 4 0 0),(8,.bs (.loc 8) 4 3 0 n)],[(.bor 0,bxG 0 s p L),(.loc 7,bxF 3 0 0 0 0),(.loc 8,⟨4,kd,3,Zb D⟩)],6⟩)
def Zky(kind at_ s p L:Int):Ex×St:=(.r,⟨[(6,.sl [] .an),(7,.ptr (.loc 7) 3 4 0 0)],[(.bor 0,bxG 0 s p L),(.loc 7,bxF 3 kind 0 0 at_)],5⟩)
section
variable{T:Tbl}[Z2 T][Zu T][Zy T][Z0 T][Zt T][Zp T][Zi T][Zl T][Zs T][Zad T][Zap T][Zc5 T][Zah T][Zaf T][Zbl T][Zas T][Zd7 T]
def z45{kd:Kind}(hk:kd=.own\/kd=.sh)(x:Ins)(Q:PoF)(L:Int)(code:List Ins)(i:Nat)(D:List Fz)(s p:Int)(v:Fz)(hi:i<code.length)(hc:code.length<=1000)(hg:code[i]? = some x)(hdl:D.length=i)(hv:fsz v<=10000)
  (c:Za T 422 [mD,.agg (Zf0 x),ept Q,.sl (Zb D) .an]=some (.tup [efz v,.b true])) (hf:(Zcs v:Int)<=L) :
  evX (orc T) T 1 l407_0 (Ze4 Q L code i D s p kd)=some (.n,Ze4 Q L code (i+1) (D++[v]) (Zfa s) (Zfx p v) .sh):=by
 have hf2:=z1a (T:=T) s p L v hv;rw[decide_eq_true hf]at hf2;have hws:=zaw hi (by omega);have hge:=(Yc.1 hg).2;have ht:List.take i D=D:=Ya (by omega);have hp:wkL (Zb D++[Zau v])=Zb (D++[v]):=by rw[zd3,zey]
 have hi':(i:Int)<code.length:=by omega
 have hb:i<=4294967295:=by omega
 unfold Ze4;rcases hk with rfl | rfl<;>simp -implicitDefEqProofs[l407_0,hi,hi',hge,hws,c,hf2,hp,hdl,hb,ht]
def z9n{kd:Kind}(hk:kd=.own\/kd=.sh)(x:Ins)(Q:PoF)(L:Int)(code:List Ins)(i:Nat)(D:List Fz)(s p:Int)(v:Fz)(hi:i<code.length)(hc:code.length<=1000)(hg:code[i]? = some x)(hdl:D.length=i)
  (c:Za T 422 [mD,.agg (Zf0 x),ept Q,.sl (Zb D) .an]=some (.tup [efz v,.b false])) :
  evX (orc T) T 1 l407_0 (Ze4 Q L code i D s p kd)=some (Zky 3 i s p L):=by
 have hge:=(Yc.1 hg).2;have ht:List.take i D=D:=Ya (by omega);have hi':(i:Int)<code.length:=by omega
 unfold Ze4 Zky;rcases hk with rfl | rfl<;>simp -implicitDefEqProofs[l407_0,hi,hi',hge,c,hdl,ht]
def z9o{kd:Kind}(hk:kd=.own\/kd=.sh)(x:Ins)(Q:PoF)(L:Int)(code:List Ins)(i:Nat)(D:List Fz)(s p:Int)(v:Fz)(hi:i<code.length)(hc:code.length<=1000)(hg:code[i]? = some x)(hdl:D.length=i)(hv:fsz v<=10000)
  (c:Za T 422 [mD,.agg (Zf0 x),ept Q,.sl (Zb D) .an]=some (.tup [efz v,.b true])) (hf:¬ (Zcs v:Int)<=L) :
  evX (orc T) T 1 l407_0 (Ze4 Q L code i D s p kd)=some (Zky 6 i (Zfa s) (Zfx p v) L):=by
 have hf2:=z1a (T:=T) s p L v hv;rw[decide_eq_false hf]at hf2;have hge:=(Yc.1 hg).2;have ht:List.take i D=D:=Ya (by omega);have hi':(i:Int)<code.length:=by omega
 unfold Ze4 Zky;rcases hk with rfl | rfl<;>simp -implicitDefEqProofs[l407_0,hi,hi',hge,c,hf2,hdl,ht]
theorem zafx{kd:Kind}(hk:kd=.own\/kd=.sh)(Q:PoF)(L:Int)(code:List Ins)(D:List Fz)(s p:Int):Zb6 (evX (orc T) T 1 l407_0 (Ze4 Q L code code.length D s p kd))=true /\
  Zbs 1 0 (.norm false [7,8]) (evX (orc T) T 1 l407_0 (Ze4 Q L code code.length D s p kd))=some (Zos code.length D s p L kd):=by
 unfold Ze4 Zos;obtain⟨⟨q0,q1,q2⟩,qy,qp⟩:=Q;rcases hk with rfl | rfl<;>constructor<;>simp -implicitDefEqProofs[l407_0]
def z1c(kind at_ s p L:Int):Zbs 1 0 (.norm false [7,8]) (some (Zky kind at_ s p L))=some (Zky kind at_ s p L):=by
 unfold Zky
 simp_all
def kdE(kd:Kind)(l:List Ins):Kind:=if l=[] then kd else .sh
def Zfc(lim:Nat)(P:Po)(code l:List Ins)(D:List Rat)(s p:Int)(kd:Kind):Ex×St:=
 if (Zbj lim P l D).2.1=0 then Zos code.length (fzs (Zbj lim P l D).1) (Zis lim P l D s p).1 (Zis lim P l D s p).2 lim (kdE kd l)
 else Zky (Zbj lim P l D).2.1 (Zbj lim P l D).2.2 (Zis lim P l D s p).1 (Zis lim P l D s p).2 lim
def zth(P:Po)(lim:Nat)(hlim:lim<=4096)(t:Tp)(ht:OkTp t)(hn:∀i∈t.code,fsz i.n<=1000)(hd:(P.y.length:Int)=t.dim)(hp:(P.p.length:Int)=t.par)(hP:PvS P 1000)(s p:Int) :
  Ze T 1 0 (.norm false [7,8]) l407_0 (Ze4 P.f lim t.code 0 [] s p .own)=some (Zfc lim P t.code t.code [] s p .own):=by
 have hc:=ht.cl;have key:=za4 (T:=T) (k:=1) (id:=0) (g2:=.norm false [7,8]) (c:=l407_0) (fun x:Nat×List Rat×(Int×Int)×Kind=>Ze4 P.f lim t.code x.1 (fzs x.2.1) x.2.2.1.1 x.2.2.1.2 x.2.2.2)
  (fun x=>x.1<=t.code.length/\x.2.1.length=x.1/\(∀q∈x.2.1,sz q<=129)/\(x.2.2.2=.own\/x.2.2.2=.sh)) (fun x=>t.code.length-x.1)
  (fun x=>some (Zfc lim P t.code (t.code.drop x.1) x.2.1 x.2.2.1.1 x.2.2.1.2 x.2.2.2)) ?_ (0,[],(s,p),.own) ⟨Yv _,rfl,by simp,.inl rfl⟩
 ·exact key
 rintro⟨i,D,⟨s,p⟩,kd⟩ ⟨hi,hdl,hD,hk⟩
 by_cases hlt:i<t.code.length
 ·have hg:t.code[i]? = some (t.code[i]'hlt):=Yb hlt;have hmem:=Yi hlt;have hm:=ht.may i _ hg;have hdr:t.code.drop i=t.code[i]'hlt::t.code.drop (i+1):=Yg hlt;generalize hx:t.code[i]'hlt=x at *
  have hm':Zc0 t.dim t.par D.length x=true:=by grind
  have c:=z44 (T:=T) x P D t.dim t.par hm' hd hp (hn x hmem) (fun q hq=>Yd (hD q hq) (by decide));have hvs:fsz (fz (Z6 P D x).1)<=10000:=Yd (z1b hm' hP (hn x hmem) hD) (by decide);have hfl:(fzs D).length=i:=by simp_all
  have hout:Zfc lim P t.code (t.code.drop i) D s p kd=Zfc lim P t.code (x::t.code.drop (i+1)) D s p kd:=by grind
  cases hok:(Z6 P D x).2 with
  | false=>
   right;rw[hok]at c;have e:=z9n (T:=T) hk x P.f lim t.code i (fzs D) s p _ hlt (by omega) hg hfl c;rw[e,z1c];refine⟨rfl,?_⟩
   grind[zcr,zkk,Zfc]
  | true=>
   rw[hok]at c;by_cases hfit:Zec (Z6 P D x).1<=lim
   ·left;have e:=z45 (T:=T) hk x P.f lim t.code i (fzs D) s p _ hlt (by omega) hg hfl hvs c (by unfold Zec at hfit;omega);refine⟨(i+1,D++[(Z6 P D x).1],(Zfa s,Zfx p (fz (Z6 P D x).1)),.sh),⟨by omega,by grind,fun q hq=>?_,.inr rfl⟩,by omega,?_,?_⟩
    ·rcases Yag.1 hq with h | h
     ·grind
     ·rw[Ya1.1 h];have:=zkj hfit;omega
    ·rw[e];simp[fzs]
    ·congr 1;have hR:Zbj lim P (x::t.code.drop (i+1)) D=Zbj lim P (t.code.drop (i+1)) (D++[(Z6 P D x).1]):=by grind[zcr]
     grind[zkk,Zfc,kdE]
   ·right;have e:=z9o (T:=T) hk x P.f lim t.code i (fzs D) s p _ hlt (by omega) hg hfl hvs c (by unfold Zec at hfit;omega);rw[e,z1c];refine⟨rfl,?_⟩
    grind[zcr,zkk,Zfc]
 grind[zafx,Zfc,Zbj,Zis,kdE]
end
def Zjt(t:Tp)(y p:Nat):Bool:=okT t&&decide ((y:Int)=t.dim)&&decide ((p:Int)=t.par)
def Zdr(lim:Nat)(t:Tp)(P:Po):List Rat×Nat×Nat:=if Zjt t P.y.length P.p.length=true then Zbj lim P t.code [] else ([],2,0)
def Zda(t:Tp)(D:List Rat):List Rat:=t.outs.map (gI D)
def Zcz(lim:Nat)(t:Tp)(P:Po):List Rat×Nat×Nat:=if (Zdr lim t P).2.1=0 then (Zda t (Zdr lim t P).1,0,0) else ([],(Zdr lim t P).2)
structure TpS (t:Tp):Prop where
 small:Small t
 ns:∀i∈t.code,fsz i.n<=1000
abbrev Zb9(k s g a:Int):AV:=.agg [.i .i64 k,.i .i64 s,.i .i64 g,.i .i64 a]
def zkl{t:Tp}{y p:Nat}(h:Zjt t y p=true):OkTp t/\(y:Int)=t.dim/\(p:Int)=t.par:=by
 grind[Zjt,zcq]
section
variable{T:Tbl}[Z2 T][Zu T][Zy T][Z0 T][Zt T][Zp T][Zi T][Zl T][Zs T][Zad T][Zap T][Zc5 T][Zah T][Zaf T][Zbl T][Zas T][Zd7 T]
def z9p(t:Tp)(Q:PoF)(hs:TpS t)(s p L:Int)(h:Zjt t Q.y.length Q.p.length=false) :
  Z4 T 407 [.agg [.ptr (.bor 0) 0 3 0 0],etp t,ept Q] [(.bor 0,bxG 0 s p L)]=some (.tup [.sl [] .an,Zb9 2 0 0 0],[(.bor 0,bxG 0 s p L)]):=by
 have hr:=zeh (T:=T) t hs.small;unfold Zjt at h;rw[zam Zas.h407 rfl,b407];obtain⟨⟨q0,q1,q2⟩,qy,qp⟩:=Q;cases hok:okT t with
 | false=>
  rw[hok]at hr;simp -implicitDefEqProofs[hr]
 | true=>
  rw[hok]at hr h;obtain⟨code,outs,dim,par⟩:=t;by_cases h1:(qy.length:Int)=dim
  ·by_cases h2:(qp.length:Int)=par
   ·grind
   ·simp -implicitDefEqProofs[hr,h1,h2]
  ·simp -implicitDefEqProofs[hr,h1]
def z1d(t:Tp)(P:Po)(hs:TpS t)(lim:Nat)(hlim:lim<=4096)(s p:Int)(hP:PvS P 1000)(h:Zjt t P.y.length P.p.length=true)(hk:(Zbj lim P t.code []).2.1=0) :
  ∃(s' p':Int) (kd:Kind),(kd=.own\/kd=.sh)/\Z4 T 407 [.agg [.ptr (.bor 0) 0 3 0 0],etp t,ept P.f] [(.bor 0,bxG 0 s p lim)] =
   some (.tup [.bs (.loc 8) 3 3 0 t.code.length,Zb9 0 0 0 0],[(.bor 0,bxG 0 s' p' lim),(.loc 8,⟨3,kd,3,Zb (fzs (Zbj lim P t.code []).1)⟩)]):=by
 obtain⟨hok,h1,h2⟩:=zkl h;have hr:=zeh (T:=T) t hs.small;have hl:=zth (T:=T) P lim hlim t hok hs.ns h1 h2 hP s p;rw[(zcq t).2 hok]at hr;unfold Zfc at hl;rw[if_pos hk]at hl;unfold Ze4 Zos at hl;simp only[Yp,zay]at hl;have hkd:∃kd:Kind,kdE .own t.code=kd/\(kd=.own\/kd=.sh):=by
  grind[kdE]
 obtain⟨kd,hkd1,hkd2⟩:=hkd;rw[hkd1]at hl;have hy:(fzs P.y).length=P.y.length:=zae _;have hp':(fzs P.p).length=P.p.length:=zae _;unfold Po.f at *
 generalize (Zis lim P t.code [] s p).1=s' at *
 generalize (Zis lim P t.code [] s p).2=p' at *
 obtain⟨code,outs,dim,par⟩:=t;rw[zam Zas.h407 rfl,b407];rcases hkd2 with rfl | rfl
 ·simp -implicitDefEqProofs[hr,h1,h2,hy,hp',hl]
 ·simp -implicitDefEqProofs[hr,h1,h2,hy,hp',hl]
def z1e(t:Tp)(P:Po)(hs:TpS t)(lim:Nat)(hlim:lim<=4096)(s p:Int)(hP:PvS P 1000)(h:Zjt t P.y.length P.p.length=true)(hk:¬ (Zbj lim P t.code []).2.1=0) :
  ∃(s' p':Int),Z4 T 407 [.agg [.ptr (.bor 0) 0 3 0 0],etp t,ept P.f] [(.bor 0,bxG 0 s p lim)] =
   some (.tup [.sl [] .an,Zb9 (Zbj lim P t.code []).2.1 0 0 (Zbj lim P t.code []).2.2],[(.bor 0,bxG 0 s' p' lim)]):=by
 obtain⟨hok,h1,h2⟩:=zkl h;have hr:=zeh (T:=T) t hs.small;have hl:=zth (T:=T) P lim hlim t hok hs.ns h1 h2 hP s p;rw[(zcq t).2 hok]at hr;unfold Zfc at hl;rw[if_neg hk]at hl;unfold Ze4 Zky at hl;simp only[Yp,zay]at hl;have hy:(fzs P.y).length=P.y.length:=zae _;have hp':(fzs P.p).length=P.p.length:=zae _;unfold Po.f at *
 generalize (Zis lim P t.code [] s p).1=s' at *
 generalize (Zis lim P t.code [] s p).2=p' at *
 obtain⟨code,outs,dim,par⟩:=t;rw[zam Zas.h407 rfl,b407];simp -implicitDefEqProofs[hr,h1,h2,hy,hp',hl]
def zaov{x:PoF}(h:PoS x 1000):PvS x.v 1000:=by
 refine⟨za2 h.t (by decide),fun q hq=>?_,fun q hq=>?_⟩
 ·obtain⟨u,hu,rfl⟩:=Yl.1 hq;exact za2 (h.y u hu) (by decide)
 ·obtain⟨u,hu,rfl⟩:=Yl.1 hq;exact za2 (h.p u hu) (by decide)
def Zr(n:Int):Nat:=(Zk8 n).toNat
def zhd(n:Int):Zk8 n=(Zr n:Int)/\Zr n<=4096:=by
 grind[Zr,Zk8]
def z46(t:Tp)(x:PoF)(bits:Int)(hs:TpS t)(hx:PoS x 1000) :
  Za T 384 [etp t,ept x,.i .i64 bits]=some (.tup [.sl (Zb (fzs (Zdr (Zr bits) t x.v).1)) .an,Zb9 (Zdr (Zr bits) t x.v).2.1 0 0 (Zdr (Zr bits) t x.v).2.2]):=by
 have hn:=zyy (T:=T) x hx;have hg:=zo8 (T:=T) bits;obtain⟨hl1,hl2⟩:=zhd bits;rw[hl1]at hg;have hP:=zaov hx;have hlen:x.v.f.y.length=x.v.y.length/\x.v.f.p.length=x.v.p.length:=⟨zae _,zae _⟩;unfold Zdr;cases hf:Zjt t x.v.y.length x.v.p.length with
 | false=>
  have hm:=z9p (T:=T) t x.v.f hs 0 0 (Zr bits) (by grind);simp only[Yx,if_false];have e0:fzs []=[]:=rfl;rw[e0,zaa Zas.h384 rfl,b384];generalize x.v.f=Q at *
  obtain⟨⟨q0,q1,q2⟩,qy,qp⟩:=Q;simp -implicitDefEqProofs[hn,hg,hm]
 | true=>
  simp only[if_true];by_cases hk:(Zbj (Zr bits) x.v t.code []).2.1=0
  ·obtain⟨s',p',kd,hkd,hm⟩:=z1d (T:=T) t x.v hs (Zr bits) hl2 0 0 hP hf hk;have e2:=(zfk _ _ _ _ hk).1;have el:(Zbj (Zr bits) x.v t.code []).1.length=t.code.length:=by
    grind[zfk]
   rw[hk,e2];have hfl:(fzs (Zbj (Zr bits) x.v t.code []).1).length=t.code.length:=by simp_all
   generalize fzs (Zbj (Zr bits) x.v t.code []).1=D at *
   have ht:List.take t.code.length D=D:=Ya (by omega);rw[zaa Zas.h384 rfl,b384];generalize x.v.f=Q at *
   obtain⟨⟨q0,q1,q2⟩,qy,qp⟩:=Q;rcases hkd with rfl | rfl
   ·simp -implicitDefEqProofs[hn,hg,hm,hfl,ht]
   ·simp -implicitDefEqProofs[hn,hg,hm,hfl,ht]
  ·obtain⟨s',p',hm⟩:=z1e (T:=T) t x.v hs (Zr bits) hl2 0 0 hP hf hk;have e1:=(zr3 _ _ _ _ hk).1;have e0:fzs []=[]:=rfl;rw[e1,e0];rw[zaa Zas.h384 rfl,b384];generalize x.v.f=Q at *
   obtain⟨⟨q0,q1,q2⟩,qy,qp⟩:=Q;simp -implicitDefEqProofs[hn,hg,hm]
def Zny(D:List Fz)(outs:List Int)(E:List Fz)(i:Nat)(kd:Kind):St:=
 ⟨[(1,.sl (Zb D) .an),(5,.bs (.loc 5) 1 3 0 i),(20,.sl (ints outs) .an),(21,.i .i64 outs.length),(22,.i .i64 i)],[(.loc 5,⟨1,.own,3,Zb (E.take i)⟩)],3⟩
def z47(t:Tp)(D:List Rat)(hs:TpS t)(hok:okT t=true)(hl:D.length=t.code.length)(hD:∀q∈D,sz q<=1000) :
  Za T 409 [etp t,.sl (Zb (fzs D)) .an]=some (.sl (Zb (fzs (Zda t D))) .an):=by
 have hr:=zeh (T:=T) t hs.small;rw[hok]at hr;have hO:=(zcq t).1 hok;have hcl:=hO.cl;have hol:t.outs.length<=6:=by have:=hO.ol;have:=hO.d2;omega
 have hel:(Zda t D).length=t.outs.length:=by simp[Zda]
 have hloop:Ze T 0 0 (.norm false [5]) l409_0 (Zny (fzs D) t.outs (fzs (Zda t D)) 0 .own)=some (.n,⟨[(5,.bs (.loc 5) 1 3 0 t.outs.length)],[(.loc 5,⟨1,.own,3,Zb (fzs (Zda t D))⟩)],3⟩):=by
  refine zag (fun i=>Zny (fzs D) t.outs (fzs (Zda t D)) i .own) t.outs.length _ (fun i hi=>?_) ?_
  ·have hg:t.outs[i]? = some (t.outs[i]'hi):=Yb hi;have hge:=(Yc.1 hg).2;have hws:=zaw hi (by omega);have hmem:=Yi hi;obtain⟨o1,o2⟩:=hO.outs _ hmem;obtain⟨k,hk1,hk2,hk3,hka⟩:=zid (D:=D) (a:=t.outs[i]'hi) ⟨o1,by omega⟩;have hkae:=(Yc.1 hka).2;have sa:fsz (fz (gI D (t.outs[i]'hi)))<=1000:=zla (by decide) hD;have cn:=zc6 (T:=T) (fz (gI D (t.outs[i]'hi))) (by omega);rw[zb6]at cn;have hx:(fzs (Zda t D))[i]? = some (fz (gI D (t.outs[i]'hi))):=zhy (by simp[Zda,hg]);have e:(fzs (Zda t D)).take (i+1)=(fzs (Zda t D)).take i++[fz (gI D (t.outs[i]'hi))]:=by
    rw[Ybf,hx]
    rfl
   have hml:((fzs (Zda t D)).take i).length=i:=by grind
   have hp:=za6 (m:=(fzs (Zda t D)).take i) hml (fz (gI D (t.outs[i]'hi)));have hfl:(fzs D).length=D.length:=zae D;have hi':(i:Int)<t.outs.length:=by omega
   have hb:i<=4294967295:=by omega
   unfold Zny;rw[e];generalize t.outs[i]'hi=o at *
   subst hk1;simp -implicitDefEqProofs[l409_0,hi,hi',hge,hws,hk2,hk3,hkae,hfl,cn,hp,hml,hb]
  ·have e:(fzs (Zda t D)).take t.outs.length=fzs (Zda t D):=Ya (by simp_all);unfold Zny;rw[e];constructor<;>simp -implicitDefEqProofs[l409_0]
 unfold Zny at hloop;simp only[Yp,Yaz,zay]at hloop;have hfl:(fzs D).length=t.code.length:=by simp_all
 have hfo:(fzs (Zda t D)).length=t.outs.length:=by simp_all
 generalize fzs (Zda t D)=M at *
 have ht:List.take t.outs.length M=M:=Ya (by omega);obtain⟨code,outs,dim,par⟩:=t;rw[zaa Zas.h409 rfl,b409];simp -implicitDefEqProofs[hr,hfl,hloop,hfo,ht]
theorem zru{lim:Nat}{P:Po}(hlim:lim<=4096):∀(l:List Ins) (D:List Rat),(∀q∈D,sz q<=129)->∀q∈(Zbj lim P l D).1,sz q<=129
 | [],D,h=>h
 | i::r,D,h=>by
  rw[zcr];split
  ·simp
  ·split
   ·simp
   ·refine zru hlim r _ fun q hq=>?_;rcases Yag.1 hq with hq | hq
    ·exact h q hq
    ·rw[Ya1.1 hq];have:=zkj (q:=(Z6 P D i).1) (b:=lim) (by omega);omega
def z1f(t:Tp)(x:PoF)(bits:Int)(hs:TpS t)(hx:PoS x 1000) :
  Za T 389 [etp t,ept x,.i .i64 bits]=some (.tup [.sl (Zb (fzs (Zcz (Zr bits) t x.v).1)) .an,Zb9 (Zcz (Zr bits) t x.v).2.1 0 0 (Zcz (Zr bits) t x.v).2.2]):=by
 have h:=z46 (T:=T) t x bits hs hx;have hlim:=(zhd bits).2;have e0:fzs []=[]:=rfl;unfold Zcz;by_cases hk:(Zdr (Zr bits) t x.v).2.1=0
 ·rw[if_pos hk];have hf:Zjt t x.v.y.length x.v.p.length=true:=by
   grind[Zdr]
  have e1:Zdr (Zr bits) t x.v=Zbj (Zr bits) x.v t.code []:=by unfold Zdr;grind
  rw[e1]at h hk ⊢;have e2:=(zfk _ _ _ _ hk).1;have el:(Zbj (Zr bits) x.v t.code []).1.length=t.code.length:=by
   grind[zfk]
  have ho:=z47 (T:=T) t (Zbj (Zr bits) x.v t.code []).1 hs ((zcq t).2 (zkl hf).1) el (fun q hq=>Yd (zru hlim _ _ (by simp) q hq) (by decide));rw[hk,e2]at h;rw[zaa Zas.h389 rfl,b389];simp -implicitDefEqProofs[h,ho]
 ·rw[if_neg hk,e0];have hk':¬ (((Zdr (Zr bits) t x.v).2.1:Nat):Int)=0:=by omega
  generalize (((Zdr (Zr bits) t x.v).2.1:Nat):Int)=kk at *
  rw[zaa Zas.h389 rfl,b389];simp -implicitDefEqProofs[h,hk']
end
structure Sm where
 nm:List UInt8
 c:List Fz
 a:List (List Fz)
 b:List Fz
 e:List Fz
abbrev esm(s:Sm):AV:=.agg [.s s.nm,.sl (Zb s.c) .an,.sl (Zd s.a) .an,.sl (Zb s.b) .an,.sl (Zb s.e) .an]
def Zbc:List (List Fz)->Nat->Bool
 | [],_=>true
 | r::l,i=>decide (r.length=i)&&Zbc l (i+1)
def Zch(s:Sm):Bool:=decide (1<=s.b.length)&&decide (s.b.length<=8)&&decide (s.c.length=s.b.length)&&decide (s.a.length=s.b.length)&&(decide (s.e.length=s.b.length) || decide (s.e.length=0))&&Zbc s.a 0
def Zbn(x:Fz):Bool:=Zbv x&&decide (Zcs x<=190)
def Zdb(m:List (List Fz)):Bool:=m.all fun r=>r.all Zbn
def sumF(l:List Fz):Rat:=l.foldl (fun s x=>s+fv x) 0
def Zcm(a:List (List Fz))(c:List Fz):Bool:=(a.zip c).all fun p=>decide (sumF p.1=fv p.2)
def Zfz(s:Sm):Int:=
 if !Zbu 2 s.nm then 1 else if !Zch s then 2 else if !(Zdb s.a&&Zdb [s.b,s.c,s.e]) then 3
 else if !Zcm s.a s.c then 4 else if sumF s.b≠1 then 5 else if s.e≠[]/\sumF s.e≠1 then 6 else 0
def okS(s:Sm):Bool:=decide (Zfz s=0)
structure SmS (s:Sm):Prop where
 nm:s.nm.length<=1000
 cl:s.c.length<=1000
 al:s.a.length<=1000
 bl:s.b.length<=1000
 el:s.e.length<=1000
 c:∀x∈s.c,fsz x<=300
 a:∀r∈s.a,r.length<=1000/\∀x∈r,fsz x<=300
 b:∀x∈s.b,fsz x<=300
 e:∀x∈s.e,fsz x<=300
structure Pb where
 t:Tp
 s:Sm
 p:List Fz
 bits:Int
abbrev epb(p:Pb):AV:=.agg [.sl (Zdk p.t.code) .an,.sl (ints p.t.outs) .an,.i .i64 p.t.dim,.i .i64 p.t.par,.s p.s.nm,.sl (Zb p.s.c) .an,.sl (Zd p.s.a) .an,.sl (Zb p.s.b) .an,.sl (Zb p.s.e) .an,.sl (Zb p.p) .an,.i .i64 p.bits]
def okP(p:Pb):Bool:=okT p.t&&okS p.s&&decide ((p.p.length:Int)=p.t.par)
abbrev Zp7:Ty:=.cons .str (.cons (.sl tyF) (.cons (.sl (.sl tyF)) (.cons (.sl tyF) (.cons (.sl tyF) .nil))))
abbrev Zpi:Ty:=.cons tyT (.cons Zp7 (.cons (.sl tyF) (.cons (.int .i64) .nil)))
abbrev Zpj:Ty:=.cons tyF (.cons tyF (.cons tyF (.cons tyF (.cons (.sl tyF) (.cons .bool .nil)))))
abbrev Zpk:Ty:=.cons (.sl Zpj) (.cons tyF (.cons (.sl tyF) .nil))
def zlv{cs:List AV}(h:Ok (.sl (.sl tyF)) cs):∃m:List (List Fz),wkR cs=[.sl (Zd m) .an]:=by
 obtain⟨els,f,rfl,_,_,he⟩:=h;obtain⟨m,hm⟩:=zo6 els he;exact⟨m,by simp[wkR,wkA,hm]⟩
def z21{cs:List AV}(h:Ok Zp7 cs):∃s:Sm,wkR cs=[.s s.nm,.sl (Zb s.c) .an,.sl (Zd s.a) .an,.sl (Zb s.b) .an,.sl (Zb s.e) .an]:=by
 obtain⟨c1,c1',rfl,⟨nm,rfl,_⟩,c2,c2',rfl,h2,c3,c3',rfl,h3,c4,c4',rfl,h4,c5,c5',rfl,h5,rfl⟩:=h;obtain⟨c,e2⟩:=zdy h2;obtain⟨a,e3⟩:=zlv h3;obtain⟨b,e4⟩:=zdy h4;obtain⟨e,e5⟩:=zdy h5;refine⟨⟨nm,c,a,b,e⟩,?_⟩;simp only[zdm,e2,e3,e4,e5]
 rfl
def z22{cs:List AV}(h:Ok tyT cs):∃t:Tp,wkR cs=[.sl (Zdk t.code) .an,.sl (ints t.outs) .an,.i .i64 t.dim,.i .i64 t.par]/\-9223372036854775808<=t.dim/\t.dim<9223372036854775808:=by
 obtain⟨c1,c1',rfl,⟨els,f,rfl,_,_,he⟩,c2,c2',rfl,⟨els2,f2,rfl,_,_,he2⟩,c3,c3',rfl,⟨d,rfl,wd⟩,c4,c4',rfl,⟨p,rfl,wp⟩,rfl⟩:=h;obtain⟨l,hl⟩:=zs1 els he;obtain⟨m,hm⟩:=zs2 els2 he2;refine⟨⟨l,m,d,p⟩,?_,zaer wd⟩;simp[wkA,wkR,hl,hm]
def z23{x:AV}(h:Zk4 (true,Zpi) x):∃p:Pb,wkA x=epb p/\-9223372036854775808<=p.t.dim/\p.t.dim<9223372036854775808:=by
 obtain⟨cs,rfl,c1,c1',rfl,h1,c2,c2',rfl,h2,c3,c3',rfl,h3,c4,c4',rfl,⟨b,rfl,_⟩,rfl⟩:=h;obtain⟨t,e1,d1,d2⟩:=z22 h1;obtain⟨s,e2⟩:=z21 h2;obtain⟨q,e3⟩:=zdy h3;refine⟨⟨t,s,q,b⟩,?_,d1,d2⟩;rw[wkA];simp only[zdm,e1,e2,e3]
 rfl
def z24{cs:List AV}(h:Ok Zpj cs):∃r:Trr,wkR cs=Zll r:=by
 obtain⟨c1,c1',rfl,h1,c2,c2',rfl,h2,c3,c3',rfl,h3,c4,c4',rfl,h4,c5,c5',rfl,h5,c6,c6',rfl,⟨b,rfl⟩,rfl⟩:=h;obtain⟨t,e1⟩:=zjy h1;obtain⟨w,e2⟩:=zjy h2;obtain⟨hh,e3⟩:=zjy h3;obtain⟨e,e4⟩:=zjy h4;obtain⟨y,e5⟩:=zdy h5;refine⟨⟨t,w,hh,e,y,b⟩,?_⟩;simp only[zdm,e1,e2,e3,e4,e5]
 rfl
theorem zym:∀(els:List (List AV)),(∀r∈els,Ok Zpj r)->∃l:List Trr,wkL els=Za1 l
 | [],_=>⟨[],rfl⟩
 | r::els,h=>by
  obtain⟨l,hl⟩:=zym els fun r hr=>h r (Yn _ hr);obtain⟨x,hx⟩:=z24 (h r Yu);refine⟨x::l,?_⟩;simp only[wkL,hx,hl]
  rfl
def z25{x:AV}(h:Zk4 (true,Zpk) x):∃a:Hs,wkA x=ehs a:=by
 obtain⟨cs,rfl,c1,c1',rfl,⟨els,f,rfl,_,_,he⟩,c2,c2',rfl,h2,c3,c3',rfl,h3,rfl⟩:=h;obtain⟨l,hl⟩:=zym els he;obtain⟨t,e2⟩:=zjy h2;obtain⟨y,e3⟩:=zdy h3;refine⟨⟨l,t,y⟩,?_⟩;rw[wkA];simp only[zdm,e2,e3];simp[wkR,wkA,hl]
section
open Go.ChangeShapes Go.WideShapes Go.ChangeAt Go.RowKit Go.Proofs
def OkB(B:Nat):Ty->List AV->Prop
 | .int k,cs=>∃n,cs=[.i k n]/\(Lit.int k n).wf=true
 | .bool,cs=>∃b,cs=[.b b]
 | .str,cs=>∃l,cs=[.s l]/\l.length<=maxLen
 | .sl r,cs=>∃els f,cs=[.sl els f]/\els.length<=B/\(f=.nl/\els=[]\/f=.so)/\∀row∈els,OkB B r row
 | .nil,cs=>cs=[]
 | .cons a r,cs=>∃c1 c2,cs=c1++c2/\OkB B a c1/\OkB B r c2
theorem OkB.ok{B:Nat}(hB:B<=maxLen):∀{ty:Ty} {cs:List AV},OkB B ty cs->Ok ty cs
 | .int _,_,h=>h
 | .bool,_,h=>h
 | .str,_,h=>h
 | .sl _,_,⟨els,f,h1,h2,h3,h4⟩=>⟨els,f,h1,Yd h2 hB,h3,fun row hr=>OkB.ok hB (h4 row hr)⟩
 | .nil,_,h=>h
 | .cons _ _,_,⟨c1,c2,h,h1,h2⟩=>⟨c1,c2,h,OkB.ok hB h1,OkB.ok hB h2⟩
theorem OkB.len{B:Nat}:∀{ty:Ty} {cs:List AV},OkB B ty cs->cs.length=ty.z
 | .int _,_,⟨_,h,_⟩=>by rw[h];rfl
 | .bool,_,⟨_,h⟩=>by rw[h];rfl
 | .str,_,⟨_,h,_⟩=>by rw[h];rfl
 | .sl _,_,⟨_,_,h,_⟩=>by rw[h];rfl
 | .nil,_,h=>by rw[show _=[] from h];rfl
 | .cons _ _,_,⟨_,_,h,h1,h2⟩=>by rw[h,Yam,h1.len,h2.len];rfl
def Zh2(B:Nat):Bool×Ty->AV->Prop
 | (true,ty),x=>∃cs,x=.agg cs/\OkB B ty cs
 | (false,ty),x=>OkB B ty [x]
theorem Zh2.ok{B:Nat}(hB:B<=maxLen):∀{a:Bool×Ty} {x:AV},Zh2 B a x->Zk4 a x
 | (true,_),_,⟨cs,h,h1⟩=>⟨cs,h,h1.ok hB⟩
 | (false,_),_,h=>OkB.ok hB h
def Ziw(B:Nat):List (Bool×Ty)->List AV->Prop
 | [],xs=>xs=[]
 | a::r,xs=>∃x ys,xs=x::ys/\Zh2 B a x/\Ziw B r ys
def z78{B:Nat}(hB:B<=maxLen){cs:List AV}(h:OkB B tyF cs):∃x:Fz,wkR cs=Zau x/\x.2.1.length<=B/\x.2.2.length<=B:=by
 obtain⟨c1,c2,rfl,⟨b,rfl⟩,c3,c4,rfl,⟨els,f,rfl,l1,_,he⟩,c5,c6,rfl,⟨els2,f2,rfl,l2,_,he2⟩,rfl⟩:=h;obtain⟨l,rfl⟩:=zg1 els fun row hr=>(he row hr).ok hB;obtain⟨l3,rfl⟩:=zg1 els2 fun row hr=>(he2 row hr).ok hB;refine⟨(b,l,l3),?_,by simpa[Zc]using l1,by simpa[Zc]using l2⟩;simp[wkA,wkR]
theorem zlw{B:Nat}(hB:B<=maxLen):∀(els:List (List AV)),(∀r∈els,OkB B tyF r)->∃l:List Fz,wkL els=Zb l/\∀x∈l,x.2.1.length<=B/\x.2.2.length<=B
 | [],_=>⟨[],rfl,fun x h=>by cases h⟩
 | r::els,h=>by
  obtain⟨l,hl,hb⟩:=zlw hB els fun r hr=>h r (Yn _ hr);obtain⟨x,hx,b1⟩:=z78 hB (h r Yu);refine⟨x::l,?_,fun y hy=>?_⟩
  ·simp only[wkL,hx,hl]
   rfl
  ·rcases Yab.1 hy with rfl | hy
   ·exact b1
   ·exact hb y hy
def zlx{B:Nat}(hB:B<=maxLen){cs:List AV}(h:OkB B (.sl tyF) cs):∃l:List Fz,wkR cs=[.sl (Zb l) .an]/\∀x∈l,x.2.1.length<=B/\x.2.2.length<=B:=by
 obtain⟨els,f,rfl,_,_,he⟩:=h;obtain⟨l,hl,hb⟩:=zlw hB els he;exact⟨l,by simp[wkR,wkA,hl],hb⟩
end
end Go.Ab