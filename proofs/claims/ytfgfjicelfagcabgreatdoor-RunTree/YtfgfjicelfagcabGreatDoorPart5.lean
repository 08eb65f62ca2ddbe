/-
  A calculus of values, boxes and code, and what functions of the program compute, proved in it.
  Conditions: none beyond those that the theorems state. (Part 5.)
-/
import Derived.Test.YtfgfjicelfagcabGreatDoorPart4

set_option linter.unusedSectionVars false
set_option linter.unusedVariables false
set_option linter.unusedSimpArgs false
set_option linter.unnecessarySimpa false

namespace Go.Ab
section
open Go.RowKit
def opU:AOp→List Nat
 | .call u _=>[u]
 | .ifc k _=>[1000000+k]
 | .inv _ k u _ _=>[1000000+k,u]
 | .xop (.mkf k) _ | .xop (.mkv k) _=>[1000000+k]
 | _=>[]
def cXs:AX→List Nat
 | .reg l=>l.flatMap fun o=>opU o.op
 | .draw l=>l.flatMap fun o=>opU o.ao.op
 | .drawT hd tl=>(hd.flatMap fun o=>opU o.op)++tl.flatMap fun o=>opU o.op
 | .drawM hd tl=>(hd.flatMap fun o=>opU o.op)++tl.flatMap fun o=>opU o.op
 | .drawC l1 o l2 tl=>(l1.flatMap fun o=>opU o.op)++(opU o.op++((l2.flatMap fun o=>opU o.op)++tl.flatMap fun o=>opU o.op))
 | .drawN l1 o l2=>(l1.flatMap fun o=>opU o.ao.op)++(opU o.op++l2.flatMap fun o=>opU o.ao.op)
 | .seq a b=>cXs a++cXs b
 | .cond _ x y=>cXs x++cXs y
 | .block _ c | .loop c | .note c _ | .pre _ c | .scope c | .lp _ _ c _=>cXs c
 | .gsc _ c r=>cXs c++cXs r
 | _=>[]
structure Agr (R:Nat→Bool) (T T':Tbl) (O O':Orc):Prop where
 tbl:∀u,R u=true→T u=T' u
 call:∀u xs hb,R u=true→O.call u xs hb=O'.call u xs hb
 loop:∀k c st,(∀u∈cXs c,R u=true)→O.loop k c st=O'.loop k c st
section
variable{R:Nat→Bool}{T T':Tbl}{O O':Orc}
theorem zhi(h:Agr R T T' O O'){u:Nat}(hu:R u=true){xs:List AV}{d:Option Nat}{st:St}:Zc O T u xs d st=Zc O' T' u xs d st:=by
 unfold Zc;rw[h.tbl u hu];simp only[h.call u _ _ hu]
theorem z15(h:Agr R T T' O O'){op:AOp}(hu:∀u∈opU op,R u=true){d:Option Nat}{st:St}:opX O T op d st=opX O' T' op d st:=by
 cases op<;>simp only[opX]
 case call u args=>exact zhi h (hu _ (by simp[opU]))
 case ifc k x=>unfold Ze;rw[h.tbl _ (hu _ (by simp[opU]))]
 case inv nm k u r args=>
  have e1:Ze T k=Ze T' k:=by unfold Ze;rw[h.tbl _ (hu _ (by simp[opU]))]
  have e2:Zae T k=Zae T' k:=by unfold Zae;rw[h.tbl _ (hu _ (by simp[opU]))]
  have e3:Zg2 T k=Zg2 T' k:=by unfold Zg2;rw[h.tbl _ (hu _ (by simp[opU]))]
  grind[zhi,opU]
 case xop k xs=>
  cases k<;>simp only
  all_goals rename_i k
  all_goals
   have e1:Ze T k=Ze T' k:=by unfold Ze;rw[h.tbl _ (hu _ (by simp[opU]))]
   rw[e1]
theorem zu0(h:Agr R T T' O O'){o:AO}(hu:∀u∈opU o.op,R u=true){st:St}:Zgu O T o st=Zgu O' T' o st:=by
 unfold Zgu gX;simp only[z15 h hu]
theorem zfb(h:Agr R T T' O O'):∀(l:List AO),(∀o∈l,∀u∈opU o.op,R u=true)→∀st,Zd4 O T l st=Zd4 O' T' l st
 | [],_,st=>rfl
 | o::l,hu,st=>by
  simp only[Zd4];rw[zu0 h (hu o Yp)];congr 1
  funext s
  exact zfb h l (fun o ho=>hu o (Yj _ ho)) s
theorem z16(h:Agr R T T' O O'){op:AOp}(hu:∀u∈opU op,R u=true){e:Env}{hp:Heap}{older:List Heap}:opD O T op e hp older=opD O' T' op e hp older:=by
 by_cases hap:∃z x0 y,op=.app z x0 y
 ·obtain⟨z,x0,y,rfl⟩:=hap;by_cases hc:x0=.c (.sl [] .nl)
  ·subst hc;rfl
  ·rw[zoj hc,zoj hc]
 cases op<;>(try exact absurd ⟨_,_,_,rfl⟩ hap)<;>simp only[opD]
 case call u args=>
  rw[h.tbl _ (hu _ (by simp[opU]))];simp only[h.call _ _ _ (hu _ (show u∈_ by simp[opU]))]
 case ifc k x=>unfold Ze;rw[h.tbl _ (hu _ (by simp[opU]))]
 case inv nm k u r args=>
  have e1:Ze T k=Ze T' k:=by unfold Ze;rw[h.tbl _ (hu _ (by simp[opU]))]
  have e2:Zae T k=Zae T' k:=by unfold Zae;rw[h.tbl _ (hu _ (by simp[opU]))]
  rw[e1,e2,h.tbl u (hu u (by simp[opU]))];simp only[h.call u _ _ (hu u (by simp[opU]))]
theorem zl8(h:Agr R T T' O O'){o:AO}(hu:∀u∈opU o.op,R u=true){e:Env}{hp:Heap}{older:List Heap}:qX O T o e hp older=qX O' T' o e hp older:=by
 unfold qX;simp only[z16 h hu]
theorem zu1(h:Agr R T T' O O'){u:Nat}(hu:R u=true){ys:List AV}:Zga O T u ys=Zga O' T' u ys:=by
 unfold Zga;rw[h.tbl u hu];simp only[h.call u _ _ hu]
theorem zhj(h:Agr R T T' O O'):∀(l:List DO),(∀o∈l,∀u∈opU o.ao.op,R u=true)→∀e hp clk older pend,Zbk O T l e hp clk older pend=Zbk O' T' l e hp clk older pend
 | [],_,e,hp,clk,older,pend=>rfl
 | o::l,hu,e,hp,clk,older,pend=>by
  have ih:=zhj h l (fun o ho=>hu o (Yj _ ho));simp only[Zbk];rw[zl8 h (hu o Yp)];simp only[ih];cases o.ao.op.writes with
  | true=>rfl
  | false=>
   cases hrow:Zhn o.ao.guard o.ao.op.callN e hp (older.take (older.length-o.lo)) with
   | none=>rfl
   | some p=>
    obtain⟨_,args,hop,_⟩:=zl7 hrow;have hp:R p.1=true:=hu o Yp _ (by rw[hop];simp[opU]);simp only[zu1 h hp]
theorem zl9(h:Agr R T T' O O')(tl:List AO)(ht:∀o∈tl,∀u∈opU o.op,R u=true):∀(l:List AO),(∀o∈l,∀u∈opU o.op,R u=true)→∀e hp clk,Zd5 O T tl l e hp clk=Zd5 O' T' tl l e hp clk
 | [],_,e,hp,clk=>zfb h tl ht _
 | o::l,hu,e,hp,clk=>by
  have ih:=zl9 h tl ht l (fun o ho=>hu o (Yj _ ho));simp only[Zd5];rw[zl8 h (hu o Yp)];simp only[ih]
theorem zu2(h:Agr R T T' O O'){u:Nat}(hu:R u=true){xs:List AV}{d clk:Nat}:Zfr O T u xs d clk=Zfr O' T' u xs d clk:=by
 unfold Zfr;rw[h.tbl u hu];simp only[h.call u _ _ hu]
theorem zma(h:Agr R T T' O O')(tl:List AO)(ht:∀o∈tl,∀u∈opU o.op,R u=true)(h0:Heap)(c0:Nat)(X:Heap):∀(l:List AO),(∀o∈l,∀u∈opU o.op,R u=true)→∀e hp clk,Za7 O T tl h0 c0 X l e hp clk=Za7 O' T' tl h0 c0 X l e hp clk
 | [],_,e,hp,clk=>zfb h tl ht _
 | o::l,hu,e,hp,clk=>by
  have ih:=zma h tl ht h0 c0 X l (fun o ho=>hu o (Yj _ ho));simp only[Za7];rw[zl8 h (hu o Yp)];simp only[ih];cases hm:o.op.maker with
  | true=>rfl
  | false=>
   cases hst:o.op.isStore with
   | true=>rfl
   | false=>
   cases hl:o.op.lentN with
   | none=>rfl
   | some ua=>
    have hua:R ua.1=true:=hu o Yp _ (by rw[zje hl];simp[opU]);simp only[zu2 h hua]
theorem zkf(h:Agr R T T' O O'){K K':Env→Zah→Option St}(hK:∀e pend,K e pend=K' e pend)(hp:Heap):∀(l:List DO),(∀o∈l,∀u∈opU o.ao.op,R u=true)→∀e pend,Zeh O T K hp l e pend=Zeh O' T' K' hp l e pend
 | [],_,e,pend=>hK e pend
 | o::l,hu,e,pend=>by
  have ih:=zkf h hK hp l (fun o ho=>hu o (Yj _ ho));simp only[Zeh];rw[zl8 h (hu o Yp)];simp only[ih]
theorem zmb(h:Agr R T T' O O'){K K':Env→Option St}(hK:∀e,K e=K' e)(h0 h1:Heap):∀(l:List AO),(∀o∈l,∀u∈opU o.op,R u=true)→∀e,Zcy O T K h0 h1 l e=Zcy O' T' K' h0 h1 l e
 | [],_,e=>hK e
 | o::l,hu,e=>by
  have ih:=zmb h hK h0 h1 l (fun o ho=>hu o (Yj _ ho));simp only[Zcy];rw[zl8 h (hu o Yp)];simp only[ih]
theorem zmc(h:Agr R T T' O O'){o:AO}(hu:∀u∈opU o.op,R u=true){st:St}:Zgb O T o st=Zgb O' T' o st:=by
 obtain⟨d,g,op⟩:=o;cases op
 case call u args=>
  cases g<;>cases d<;>simp only[Zgb];exact zhi h (hu u (by simp[opU]))
 all_goals cases g<;>cases d<;>rfl
theorem zu3(h:Agr R T T' O O')(l1:List AO)(o:AO)(l2 tl:List AO)(hu:∀u∈cXs (.drawC l1 o l2 tl),R u=true)(st:St):Zgw O T l1 o l2 tl st=Zgw O' T' l1 o l2 tl st:=by
 have u1:∀o∈l1,∀u∈opU o.op,R u=true:=fun o ho u hou=>hu u (Y4 _ (Yag.2 ⟨o,ho,hou⟩));have u2:∀u∈opU o.op,R u=true:=fun u hou=>hu u (Yw _ (Y4 _ hou));have u3:∀o∈l2,∀u∈opU o.op,R u=true:=fun o ho u hou=>hu u (Yw _ (Yw _ (Y4 _ (Yag.2 ⟨o,ho,hou⟩))));have u4:∀o∈tl,∀u∈opU o.op,R u=true:=fun o ho u hou=>hu u (Yw _ (Yw _ (Yw _ (Yag.2 ⟨o,ho,hou⟩))));unfold Zgw;refine zkf h (fun e pend=>?_) _ _ (fun o ho=>?_) _ _
 ·rw[zmc h u2];congr 1
  funext s
  rw[zmb h (fun e=>zfb h tl u4 _) _ _ l2 u3]
 ·obtain⟨o',ho',rfl⟩:=Yz.1 ho;exact u1 o' ho'
theorem zu4(h:Agr R T T' O O')(l1:List DO)(o:AO)(l2:List DO)(hu:∀u∈cXs (.drawN l1 o l2),R u=true)(st:St):Zgx O T l1 o l2 st=Zgx O' T' l1 o l2 st:=by
 have u1:∀o∈l1,∀u∈opU o.ao.op,R u=true:=fun o ho u hou=>hu u (Y4 _ (Yag.2 ⟨o,ho,hou⟩));have u2:∀u∈opU o.op,R u=true:=fun u hou=>hu u (Yw _ (Y4 _ hou));have u3:∀o∈l2,∀u∈opU o.ao.op,R u=true:=fun o ho u hou=>hu u (Yw _ (Yw _ (Yag.2 ⟨o,ho,hou⟩)));unfold Zgx;congr 1;refine zkf h (fun e pend=>?_) _ _ (fun o ho=>?_) _ _
 ·rw[zmc h u2];congr 1
  funext s
  rw[zhj h _ fun o ho=>?_];obtain⟨o',ho',rfl⟩:=Yz.1 ho;exact u3 o' ho'
 ·obtain⟨o',ho',rfl⟩:=Yz.1 ho;exact u1 o' ho'
theorem zb7(h:Agr R T T' O O')(k:Nat):∀(c:AX),(∀u∈cXs c,R u=true)→∀st,evX O T k c st=evX O' T' k c st
 | .skip,_,st=>rfl
 | .reg l,hu,st=>by
  simp only[evX];rw[zfb h l fun o ho u hou=>hu u (Yag.2 ⟨o,ho,hou⟩)]
 | .draw l,hu,st=>by
  simp only[evX];rw[zhj h l fun o ho u hou=>hu u (Yag.2 ⟨o,ho,hou⟩)]
 | .drawT hd tl,hu,st=>by
  simp only[evX];rw[zl9 h tl (fun o ho u hou=>hu u (Yw _ (Yag.2 ⟨o,ho,hou⟩))) hd (fun o ho u hou=>hu u (Y4 _ (Yag.2 ⟨o,ho,hou⟩)))]
 | .drawM hd tl,hu,st=>by
  simp only[evX];rw[zma h tl (fun o ho u hou=>hu u (Yw _ (Yag.2 ⟨o,ho,hou⟩))) _ _ _ hd (fun o ho u hou=>hu u (Y4 _ (Yag.2 ⟨o,ho,hou⟩)))]
 | .drawC l1 o l2 tl,hu,st=>by
  simp only[evX];rw[zu3 h l1 o l2 tl hu]
 | .drawN l1 o l2,hu,st=>by
  simp only[evX];rw[zu4 h l1 o l2 hu]
 | .bad,_,st=>rfl
 | .prim f,_,st=>rfl
 | .seq a b,hu,st=>by
  simp only[evX];rw[zb7 h k a fun u hm=>hu u (Y4 _ hm)];congr 1
  funext r
  rw[zb7 h k b fun u hm=>hu u (Yw _ hm)]
 | .cond c x y,hu,st=>by
  simp only[evX];rw[zb7 h k x fun u hm=>hu u (Y4 _ hm),zb7 h k y fun u hm=>hu u (Yw _ hm)]
 | .block id c,hu,st=>by
  simp only[evX];rw[zb7 h k c hu]
 | .loop c,hu,st=>h.loop k c st hu
 | .exit id,_,st=>rfl
 | .ret,_,st=>rfl
 | .note c g,hu,st=>by
  simp only[evX];rw[zb7 h k c hu]
 | .pre g c,hu,st=>by
  simp only[evX];congr 1
  funext s
  exact zb7 h k c hu s
 | .scope c,hu,st=>by
  simp only[evX];rw[zb7 h k c hu]
 | .label _,_,st=>rfl
 | .goto _,_,st=>rfl
 | .gsc l c r,hu,st=>by
  simp only[evX];rw[zb7 h k c fun u hm=>hu u (Y4 _ hm)];congr 1
  funext s
  exact zb7 h k r (fun u hm=>hu u (Yw _ hm)) s
 | .lp id g c g2,hu,st=>by
  simp only[evX,h.loop k c _ hu]
theorem zu5(hc:∀u af,R u=true→T u=some af→∀v∈cXs af.body,R v=true)(h:Agr R T T' O O'):Agr R T T' (Zc7 T O) (Zc7 T' O') where
 tbl:=h.tbl
 call u xs hb hu:=by
  simp only[Zc7];rw[←h.tbl u hu];cases ht:T u with
  | none=>rfl
  | some af=>
   grind[zb7]
 loop k c st hu:=by
  simp only[Zc7];rw[zb7 h k c hu];congr 1
  funext r
  rw[h.loop k c _ hu]
theorem zkg(ht:∀u,R u=true→T u=T' u)(hc:∀u af,R u=true→T u=some af→∀v∈cXs af.body,R v=true):∀n,Agr R T T' (orcN T n) (orcN T' n)
 | 0=>⟨ht,fun _ _ _ _=>rfl,fun _ _ _ _=>rfl⟩
 | n+1=>zu5 hc (zkg ht hc n)
theorem z17(ht:∀u,R u=true→T u=T' u)(hc:∀u af,R u=true→T u=some af→∀v∈cXs af.body,R v=true):Agr R T T' (orc T) (orc T'):=by
 refine⟨ht,fun u xs hb hu=>?_,fun k c st hu=>?_⟩
 ·simp only[orc];congr 1
  funext n
  exact(zkg ht hc n).call u xs hb hu
 ·simp only[orc];congr 1
  funext n
  exact(zkg ht hc n).loop k c st hu
end
theorem zdk{l:List (Nat×AFx)}{u:Nat}{af:AFx}(h:l.lookup u=some af):(u,af)∈l:=by
 induction l with
 | nil=>cases h
 | cons q l ih=>
  grind
structure Part (l l':List (Nat×AFx)):Prop where
 sub:∀p∈l',l.lookup p.1=some p.2
 clo:(l'.all fun p=>(cXs p.2.body).all fun v=>(l'.lookup v).isSome || (l.lookup v).isNone)=true
theorem Part.agr{l l':List (Nat×AFx)}(h:Part l l'):Agr (fun u=>(l'.lookup u).isSome || (l.lookup u).isNone) (fun u=>l.lookup u) (fun u=>l'.lookup u) (orc fun u=>l.lookup u) (orc fun u=>l'.lookup u):=by
 refine z17 (fun v hv=>?_) (fun v a hv hva w hw=>?_)
 ·cases hv2:l'.lookup v with
  | none=>
   cases hv3:l.lookup v with
   | none=>rfl
   | some a=>grind
  | some a=>exact h.sub _ (zdk hv2)
 ·cases hv2:l'.lookup v with
  | none=>grind
  | some b=>
   have hb:=zdk hv2;have h1:=h.sub _ hb;rw[hva]at h1;cases h1;exact Yn.1 (Yn.1 h.clo _ hb) w hw
theorem Part.ev{l l':List (Nat×AFx)}(h:Part l l'){c:AX}(hc:((cXs c).all fun v=>(l'.lookup v).isSome)=true){st:St}{r:Option (Ex×St)}
  (he:evX (orc fun u=>l.lookup u) (fun u=>l.lookup u) 0 c st=r):evX (orc fun u=>l'.lookup u) (fun u=>l'.lookup u) 0 c st=r:=by
 rw[←zb7 h.agr 0 c (fun v hv=>by grind) st];omega
theorem Part.call{l l':List (Nat×AFx)}(h:Part l l'){u:Nat}(hu:(l'.lookup u).isSome=true){xs:List AV}{r:Option AV}(he:Za (fun u=>l.lookup u) u xs=r):Za (fun u=>l'.lookup u) u xs=r:=by
 rw[←he];unfold Za;rw[h.agr.call u xs [] (by grind)]
end
end Go.Ab