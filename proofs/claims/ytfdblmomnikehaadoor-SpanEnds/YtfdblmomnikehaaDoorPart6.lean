/-
  A calculus of values, boxes and code, and what functions of the program compute, proved in it.
  Conditions: none beyond those that the theorems state. (Part 6.)
-/
import Derived.Test.YtfdblmomnikehaaDoorPart5

set_option linter.unusedSectionVars false
set_option linter.unusedVariables false
set_option linter.unusedSimpArgs false
set_option linter.unnecessarySimpa false
set_option linter.defProp false
set_option maxRecDepth 100000

namespace Go.Ab
section
def b365:AX:=QZ "1.PG.8eXEh_KvzXU1AeVJLAZ7YECAyKfIapDRh9NUo4SPRufAXBwawlGI6D0FDIUBL5CjzVXnbtJ8Y2yU5m.zTMMd_0xg5.pCvRhiWs6C3vKkLT157ori97WcazPqDvudKBrOoReZeaa3hQ_tbcrrN2Ku9jCezeVaSy99p2AWc7bTuvjGj9kabhClRVxRVW.M2gjIgoM_zIPQsKTSLJGNXPozPb86YMFIxKXxjBrh7vpYGmylFyGyH1KaPwtNLMFf_kaRGL.yc85jPQpWXi5H3l1lGBok46oZvOV1azx.Dm5DRToR8ku1PtnNAc.W_NmK93CMPpALq0.JfwjJJXlC9ZzgY"
abbrev row365:AFx:=⟨1,91,[.t 2],b365,none,false⟩
class Ze7 (T:Tbl):Prop where
 h365:Tr T 365=some row365
attribute [simp] Ze7.h365
end
section
open Go.RowKit
def opU:AOp->List Nat
 | .call u _=>[u]
 | .ifc k _=>[1000000+k]
 | .inv _ k u _ _=>[1000000+k,u]
 | .xop (.mkf k) _ | .xop (.mkv k) _=>[1000000+k]
 | _=>[]
def cXs:AX->List Nat
 | .reg l=>l.flatMap fun o=>opU o.op
 | .draw l=>l.flatMap fun o=>opU o.ao.op
 | .drawT hd tl=>(hd.flatMap fun o=>opU o.op)++tl.flatMap fun o=>opU o.op
 | .drawM hd tl=>(hd.flatMap fun o=>opU o.op)++tl.flatMap fun o=>opU o.op
 | .drawC l1 o l2 tl=>(l1.flatMap fun o=>opU o.op)++(opU o.op++((l2.flatMap fun o=>opU o.op)++tl.flatMap fun o=>opU o.op))
 | .drawN l1 o l2=>(l1.flatMap fun o=>opU o.ao.op)++(opU o.op++l2.flatMap fun o=>opU o.ao.op)
 | .drawR hd tl=>(hd.flatMap fun o=>opU o.op)++tl.flatMap fun o=>opU o.op
 | .drawP l1 o l2 _ _ _ _ _=>(l1.flatMap fun o=>opU o.ao.op)++(opU o.op++l2.flatMap fun o=>opU o.ao.op)
 | .seq a b=>cXs a++cXs b
 | .cond _ x y=>cXs x++cXs y
 | .block _ c | .loop c | .note c _ | .pre _ c | .scope c | .lp _ _ c _=>cXs c
 | .gsc _ c r=>cXs c++cXs r
 | _=>[]
structure Agr (R:Nat->Bool) (T T':Tbl) (O O':Orc):Prop where
 tbl:∀u,R u=true->T u=T' u
 call:∀u xs hb,R u=true->O.call u xs hb=O'.call u xs hb
 loop:∀k c st,(∀u∈cXs c,R u=true)->O.loop k c st=O'.loop k c st
section
variable{R:Nat->Bool}{T T':Tbl}{O O':Orc}
theorem zgo(h:Agr R T T' O O'){u:Nat}(hu:R u=true){xs:List AV}{d:Option Nat}{st:St}:Z3 O T u xs d st=Z3 O' T' u xs d st:=by
 unfold Z3;rw[h.tbl u hu];simp only[h.call u _ _ hu]
def zwr(h:Agr R T T' O O'){op:AOp}(hu:∀u∈opU op,R u=true){d:Option Nat}{st:St}:opX O T op d st=opX O' T' op d st:=by
 cases op<;>simp only[opX]
 case call u args=>exact zgo h (hu _ (by simp[opU]))
 case ifc k x=>unfold Zc;rw[h.tbl _ (hu _ (by simp[opU]))]
 case inv nm k u r args=>
  have e1:Zc T k=Zc T' k:=by unfold Zc;rw[h.tbl _ (hu _ (by simp[opU]))]
  have e2:Za9 T k=Za9 T' k:=by unfold Za9;rw[h.tbl _ (hu _ (by simp[opU]))]
  have e3:Ze1 T k=Ze1 T' k:=by unfold Ze1;rw[h.tbl _ (hu _ (by simp[opU]))]
  grind[zgo,opU]
 case xop k xs=>
  cases k<;>simp only
  all_goals rename_i k
  all_goals
   have e1:Zc T k=Zc T' k:=by unfold Zc;rw[h.tbl _ (hu _ (by simp[opU]))]
   rw[e1]
def zq6(h:Agr R T T' O O'){o:AO}(hu:∀u∈opU o.op,R u=true){st:St}:Zev O T o st=Zev O' T' o st:=by
 unfold Zev gX;simp only[zwr h hu]
theorem zd5(h:Agr R T T' O O'):∀(l:List AO),(∀o∈l,∀u∈opU o.op,R u=true)->∀st,Zcd O T l st=Zcd O' T' l st
 | [],_,st=>rfl
 | o::l,hu,st=>by
  simp only[Zcd];rw[zq6 h (hu o Yp)];congr 1
  funext s
  exact zd5 h l (fun o ho=>hu o (Yh _ ho)) s
def zws(h:Agr R T T' O O'){op:AOp}(hu:∀u∈opU op,R u=true){e:Env}{hp:Heap}{older:List Heap}:opD O T op e hp older=opD O' T' op e hp older:=by
 by_cases hap:∃z x0 y,op=.app z x0 y
 ·obtain⟨z,x0,y,rfl⟩:=hap;by_cases hc:x0=.c (.sl [] .nl)
  ·subst hc;rfl
  ·rw[zl8 hc,zl8 hc]
 cases op<;>(try exact absurd ⟨_,_,_,rfl⟩ hap)<;>simp only[opD]
 case call u args=>
  rw[h.tbl _ (hu _ (by simp[opU]))];simp only[h.call _ _ _ (hu _ (show u∈_ by simp[opU]))]
 case ifc k x=>unfold Zc;rw[h.tbl _ (hu _ (by simp[opU]))]
 case inv nm k u r args=>
  have e1:Zc T k=Zc T' k:=by unfold Zc;rw[h.tbl _ (hu _ (by simp[opU]))]
  have e2:Za9 T k=Za9 T' k:=by unfold Za9;rw[h.tbl _ (hu _ (by simp[opU]))]
  rw[e1,e2,h.tbl u (hu u (by simp[opU]))];simp only[h.call u _ _ (hu u (by simp[opU]))]
def zgp(h:Agr R T T' O O'){o:AO}(hu:∀u∈opU o.op,R u=true){e:Env}{hp:Heap}{older:List Heap}:qX O T o e hp older=qX O' T' o e hp older:=by
 unfold qX;simp only[zws h hu]
def zkf(h:Agr R T T' O O'){u:Nat}(hu:R u=true){ys:List AV}:Zct O T u ys=Zct O' T' u ys:=by
 unfold Zct;rw[h.tbl u hu];simp only[h.call u _ _ hu]
theorem zgq(h:Agr R T T' O O'):∀(l:List DO),(∀o∈l,∀u∈opU o.ao.op,R u=true)->∀e hp clk older pend,Zao O T l e hp clk older pend=Zao O' T' l e hp clk older pend
 | [],_,e,hp,clk,older,pend=>rfl
 | o::l,hu,e,hp,clk,older,pend=>by
  have ih:=zgq h l (fun o ho=>hu o (Yh _ ho));simp only[Zao];rw[zgp h (hu o Yp)];simp only[ih];cases o.ao.op.writes with
  | true=>rfl
  | false=>
   cases hrow:Zdw o.ao.guard o.ao.op.callN e hp (older.take (older.length-o.lo)) with
   | none=>rfl
   | some p=>
    obtain⟨_,args,hop,_⟩:=zex hrow;have hp:R p.1=true:=hu o Yp _ (by rw[hop];simp[opU]);simp only[zkf h hp]
theorem zkg(h:Agr R T T' O O')(tl:List AO)(ht:∀o∈tl,∀u∈opU o.op,R u=true):∀(l:List AO),(∀o∈l,∀u∈opU o.op,R u=true)->∀e hp clk,Zbi O T tl l e hp clk=Zbi O' T' tl l e hp clk
 | [],_,e,hp,clk=>zd5 h tl ht _
 | o::l,hu,e,hp,clk=>by
  have ih:=zkg h tl ht l (fun o ho=>hu o (Yh _ ho));simp only[Zbi];rw[zgp h (hu o Yp)];simp only[ih];cases hrow:Zdw o.guard o.op.callN e hp []with
  | none=>rfl
  | some p=>
   obtain⟨_,args,hop,_⟩:=zex hrow;have hp:R p.1=true:=hu o Yp _ (by rw[hop];simp[opU]);simp only[zkf h hp]
theorem zkh(h:Agr R T T' O O')(tl:List AO)(ht:∀o∈tl,∀u∈opU o.op,R u=true):∀(l:List AO),(∀o∈l,∀u∈opU o.op,R u=true)->∀e hp clk,Zcu O T tl l e hp clk=Zcu O' T' tl l e hp clk
 | [],_,e,hp,clk=>zd5 h tl ht _
 | o::l,hu,e,hp,clk=>by
  have ih:=zkh h tl ht l (fun o ho=>hu o (Yh _ ho));simp only[Zcu];rw[zgp h (hu o Yp)];simp only[ih]
def zq7(h:Agr R T T' O O'){u:Nat}(hu:R u=true){xs:List AV}{d clk:Nat}:Zdr O T u xs d clk=Zdr O' T' u xs d clk:=by
 unfold Zdr;rw[h.tbl u hu];simp only[h.call u _ _ hu]
theorem zki(h:Agr R T T' O O')(tl:List AO)(ht:∀o∈tl,∀u∈opU o.op,R u=true)(h0:Heap)(c0:Nat)(X:Heap):∀(l:List AO),(∀o∈l,∀u∈opU o.op,R u=true)->∀e hp clk,Zaf O T tl h0 c0 X l e hp clk=Zaf O' T' tl h0 c0 X l e hp clk
 | [],_,e,hp,clk=>zd5 h tl ht _
 | o::l,hu,e,hp,clk=>by
  have ih:=zki h tl ht h0 c0 X l (fun o ho=>hu o (Yh _ ho));simp only[Zaf];rw[zgp h (hu o Yp)];simp only[ih];cases hm:o.op.maker with
  | true=>rfl
  | false=>
   cases hst:o.op.isStore with
   | true=>rfl
   | false=>
   cases hl:o.op.lentN with
   | none=>rfl
   | some ua=>
    have hua:R ua.1=true:=hu o Yp _ (by rw[zh9 hl];simp[opU]);simp only[zq7 h hua]
theorem zfv(h:Agr R T T' O O'){K K':Env->Zz->Option St}(hK:∀e pend,K e pend=K' e pend)(hp:Heap):∀(l:List DO),(∀o∈l,∀u∈opU o.ao.op,R u=true)->∀e pend,Zb6 O T K hp l e pend=Zb6 O' T' K' hp l e pend
 | [],_,e,pend=>hK e pend
 | o::l,hu,e,pend=>by
  have ih:=zfv h hK hp l (fun o ho=>hu o (Yh _ ho));simp only[Zb6];rw[zgp h (hu o Yp)];simp only[ih]
theorem zkj(h:Agr R T T' O O'){K K':Env->Option St}(hK:∀e,K e=K' e)(h0 h1:Heap):∀(l:List AO),(∀o∈l,∀u∈opU o.op,R u=true)->∀e,Zb7 O T K h0 h1 l e=Zb7 O' T' K' h0 h1 l e
 | [],_,e=>hK e
 | o::l,hu,e=>by
  have ih:=zkj h hK h0 h1 l (fun o ho=>hu o (Yh _ ho));simp only[Zb7];rw[zgp h (hu o Yp)];simp only[ih]
def zgr(h:Agr R T T' O O'){o:AO}(hu:∀u∈opU o.op,R u=true){st:St}:Zc6 O T o st=Zc6 O' T' o st:=by
 obtain⟨d,g,op⟩:=o;cases op
 case call u args=>
  cases g<;>cases d<;>simp only[Zc6];exact zgo h (hu u (by simp[opU]))
 all_goals cases g<;>cases d<;>rfl
def zq8(h:Agr R T T' O O')(l1:List AO)(o:AO)(l2 tl:List AO)(hu:∀u∈cXs (.drawC l1 o l2 tl),R u=true)(st:St):Zex O T l1 o l2 tl st=Zex O' T' l1 o l2 tl st:=by
 have u1:∀o∈l1,∀u∈opU o.op,R u=true:=fun o ho u hou=>hu u (Yq _ (Yx.2 ⟨o,ho,hou⟩));have u2:∀u∈opU o.op,R u=true:=fun u hou=>hu u (Ym _ (Yq _ hou));have u3:∀o∈l2,∀u∈opU o.op,R u=true:=fun o ho u hou=>hu u (Ym _ (Ym _ (Yq _ (Yx.2 ⟨o,ho,hou⟩))));have u4:∀o∈tl,∀u∈opU o.op,R u=true:=fun o ho u hou=>hu u (Ym _ (Ym _ (Ym _ (Yx.2 ⟨o,ho,hou⟩))));unfold Zex;refine zfv h (fun e pend=>?_) _ _ (fun o ho=>?_) _ _
 ·rw[zgr h u2];congr 1
  funext s
  rw[zkj h (fun e=>zd5 h tl u4 _) _ _ l2 u3]
 ·obtain⟨o',ho',rfl⟩:=Yw.1 ho;exact u1 o' ho'
def zq9(h:Agr R T T' O O')(l1:List DO)(o:AO)(l2:List DO)(hu:∀u∈cXs (.drawN l1 o l2),R u=true)(st:St):Zey O T l1 o l2 st=Zey O' T' l1 o l2 st:=by
 have u1:∀o∈l1,∀u∈opU o.ao.op,R u=true:=fun o ho u hou=>hu u (Yq _ (Yx.2 ⟨o,ho,hou⟩));have u2:∀u∈opU o.op,R u=true:=fun u hou=>hu u (Ym _ (Yq _ hou));have u3:∀o∈l2,∀u∈opU o.ao.op,R u=true:=fun o ho u hou=>hu u (Ym _ (Ym _ (Yx.2 ⟨o,ho,hou⟩)));unfold Zey;congr 1;refine zfv h (fun e pend=>?_) _ _ (fun o ho=>?_) _ _
 ·rw[zgr h u2];congr 1
  funext s
  rw[zgq h _ fun o ho=>?_];obtain⟨o',ho',rfl⟩:=Yw.1 ho;exact u3 o' ho'
 ·obtain⟨o',ho',rfl⟩:=Yw.1 ho;exact u1 o' ho'
theorem zkk(h:Agr R T T' O O'){K K':Env->Option St}(hK:∀e,K e=K' e)(hs:List Heap)(h1:Heap):∀(l:List AO),(∀o∈l,∀u∈opU o.op,R u=true)->∀e,Zb8 O T K hs h1 l e=Zb8 O' T' K' hs h1 l e
 | [],_,e=>hK e
 | o::l,hu,e=>by
  have ih:=zkk h hK hs h1 l (fun o ho=>hu o (Yh _ ho));simp only[Zb8];rw[zgp h (hu o Yp)];simp only[ih]
def zra(h:Agr R T T' O O')(l1:List DO)(o:AO)(l2:List DO)(da:Nat)(cs:List AV)(n:Nat)(xs vs:Opd)(hu:∀u∈cXs (.drawP l1 o l2 da cs n xs vs),R u=true)(st:St):Zds O T l1 o l2 da cs n xs vs st=Zds O' T' l1 o l2 da cs n xs vs st:=by
 have u1:∀o∈l1,∀u∈opU o.ao.op,R u=true:=fun o ho u hou=>hu u (Yq _ (Yx.2 ⟨o,ho,hou⟩));have u2:∀u∈opU o.op,R u=true:=fun u hou=>hu u (Ym _ (Yq _ hou));have u3:∀o∈l2,∀u∈opU o.ao.op,R u=true:=fun o ho u hou=>hu u (Ym _ (Ym _ (Yx.2 ⟨o,ho,hou⟩)));unfold Zds;congr 1;refine zfv h (fun e pend=>?_) _ _ (fun o ho=>?_) _ _
 ·simp only[zgr h u2];congr 1
  funext s1
  congr 1
  funext s2
  rw[zkk h (fun e=>rfl) _ _ _ fun o ho=>?_];obtain⟨o',ho',rfl⟩:=Yw.1 ho;exact u3 o' ho'
 ·obtain⟨o',ho',rfl⟩:=Yw.1 ho;exact u1 o' ho'
theorem zby(h:Agr R T T' O O')(k:Nat):∀(c:AX),(∀u∈cXs c,R u=true)->∀st,evX O T k c st=evX O' T' k c st
 | .skip,_,st=>rfl
 | .reg l,hu,st=>by
  simp only[evX];rw[zd5 h l fun o ho u hou=>hu u (Yx.2 ⟨o,ho,hou⟩)]
 | .draw l,hu,st=>by
  simp only[evX];rw[zgq h l fun o ho u hou=>hu u (Yx.2 ⟨o,ho,hou⟩)]
 | .drawT hd tl,hu,st=>by
  simp only[evX];rw[zkh h tl (fun o ho u hou=>hu u (Ym _ (Yx.2 ⟨o,ho,hou⟩))) hd (fun o ho u hou=>hu u (Yq _ (Yx.2 ⟨o,ho,hou⟩)))]
 | .drawM hd tl,hu,st=>by
  simp only[evX];rw[zki h tl (fun o ho u hou=>hu u (Ym _ (Yx.2 ⟨o,ho,hou⟩))) _ _ _ hd (fun o ho u hou=>hu u (Yq _ (Yx.2 ⟨o,ho,hou⟩)))]
 | .drawC l1 o l2 tl,hu,st=>by
  simp only[evX];rw[zq8 h l1 o l2 tl hu]
 | .drawN l1 o l2,hu,st=>by
  simp only[evX];rw[zq9 h l1 o l2 hu]
 | .drawR hd tl,hu,st=>by
  simp only[evX];rw[zkg h tl (fun o ho u hou=>hu u (Ym _ (Yx.2 ⟨o,ho,hou⟩))) hd (fun o ho u hou=>hu u (Yq _ (Yx.2 ⟨o,ho,hou⟩)))]
 | .drawP l1 o l2 da cs n xs vs,hu,st=>by
  simp only[evX];rw[zra h l1 o l2 da cs n xs vs hu]
 | .bad,_,st=>rfl
 | .prim f,_,st=>rfl
 | .seq a b,hu,st=>by
  simp only[evX];rw[zby h k a fun u hm=>hu u (Yq _ hm)];congr 1
  funext r
  rw[zby h k b fun u hm=>hu u (Ym _ hm)]
 | .cond c x y,hu,st=>by
  simp only[evX];rw[zby h k x fun u hm=>hu u (Yq _ hm),zby h k y fun u hm=>hu u (Ym _ hm)]
 | .block id c,hu,st=>by
  simp only[evX];rw[zby h k c hu]
 | .loop c,hu,st=>h.loop k c st hu
 | .exit id,_,st=>rfl
 | .ret,_,st=>rfl
 | .note c g,hu,st=>by
  simp only[evX];rw[zby h k c hu]
 | .pre g c,hu,st=>by
  simp only[evX];congr 1
  funext s
  exact zby h k c hu s
 | .scope c,hu,st=>by
  simp only[evX];rw[zby h k c hu]
 | .label _,_,st=>rfl
 | .goto _,_,st=>rfl
 | .gsc l c r,hu,st=>by
  simp only[evX];rw[zby h k c fun u hm=>hu u (Yq _ hm)];congr 1
  funext s
  exact zby h k r (fun u hm=>hu u (Ym _ hm)) s
 | .lp id g c g2,hu,st=>by
  simp only[evX,h.loop k c _ hu]
def zrb(hc:∀u af,R u=true->T u=some af->∀v∈cXs af.body,R v=true)(h:Agr R T T' O O'):Agr R T T' (Zbx T O) (Zbx T' O') where
 tbl:=h.tbl
 call u xs hb hu:=by
  simp only[Zbx];rw[<-h.tbl u hu];cases ht:T u with
  | none=>rfl
  | some af=>
   grind[zby]
 loop k c st hu:=by
  simp only[Zbx];rw[zby h k c hu];congr 1
  funext r
  rw[h.loop k c _ hu]
theorem ziz(ht:∀u,R u=true->T u=T' u)(hc:∀u af,R u=true->T u=some af->∀v∈cXs af.body,R v=true):∀n,Agr R T T' (orcN T n) (orcN T' n)
 | 0=>⟨ht,fun _ _ _ _=>rfl,fun _ _ _ _=>rfl⟩
 | n+1=>zrb hc (ziz ht hc n)
def zwt(ht:∀u,R u=true->T u=T' u)(hc:∀u af,R u=true->T u=some af->∀v∈cXs af.body,R v=true):Agr R T T' (orc T) (orc T'):=by
 refine⟨ht,fun u xs hb hu=>?_,fun k c st hu=>?_⟩
 ·simp only[orc];congr 1
  funext n
  exact(ziz ht hc n).call u xs hb hu
 ·simp only[orc];congr 1
  funext n
  exact(ziz ht hc n).loop k c st hu
end
def zdh{l:List (Nat×AFx)}{u:Nat}{af:AFx}(h:l.lookup u=some af):(u,af)∈l:=by
 induction l with
 | nil=>cases h
 | cons q l ih=>
  grind
structure Part (l l':List (Nat×AFx)):Prop where
 sub:∀p∈l',l.lookup p.1=some p.2
 clo:(l'.all fun p=>(cXs p.2.body).all fun v=>(l'.lookup v).isSome || (l.lookup v).isNone)=true
def Part.agr{l l':List (Nat×AFx)}(h:Part l l'):Agr (fun u=>(l'.lookup u).isSome || (l.lookup u).isNone) (fun u=>l.lookup u) (fun u=>l'.lookup u) (orc fun u=>l.lookup u) (orc fun u=>l'.lookup u):=by
 refine zwt (fun v hv=>?_) (fun v a hv hva w hw=>?_)
 ·cases hv2:l'.lookup v with
  | none=>
   cases hv3:l.lookup v with
   | none=>rfl
   | some a=>grind
  | some a=>exact h.sub _ (zdh hv2)
 ·cases hv2:l'.lookup v with
  | none=>grind
  | some b=>
   have hb:=zdh hv2;have h1:=h.sub _ hb;rw[hva]at h1;cases h1;exact Yi.1 (Yi.1 h.clo _ hb) w hw
def Part.ev{l l':List (Nat×AFx)}(h:Part l l'){c:AX}(hc:((cXs c).all fun v=>(l'.lookup v).isSome)=true){st:St}{r:Option (Ex×St)}
  (he:evX (orc fun u=>l.lookup u) (fun u=>l.lookup u) 0 c st=r):evX (orc fun u=>l'.lookup u) (fun u=>l'.lookup u) 0 c st=r:=by
 rw[<-zby h.agr 0 c (fun v hv=>by grind) st];omega
def Part.call{l l':List (Nat×AFx)}(h:Part l l'){u:Nat}(hu:(l'.lookup u).isSome=true){xs:List AV}{r:Option AV}(he:Zb (fun u=>l.lookup u) u xs=r):Zb (fun u=>l'.lookup u) u xs=r:=by
 rw[<-he];unfold Zb;rw[h.agr.call u xs [] (by grind)]
end
end Go.Ab