/-
  A calculus of values, boxes and code, and what functions of the program compute, proved in it.
  Conditions: none beyond those that the theorems state. (Part 5.)
-/
import Derived.Test.YtajopjoiaogapaaGreatDoorPart4

set_option linter.unusedSectionVars false
set_option linter.unusedVariables false
set_option linter.unusedSimpArgs false
set_option linter.unnecessarySimpa false

namespace Go.Ab
def b588:AX:=
 (.seq
 (.reg [rg 0 (.mov (.c (.b false)))])
 (.seq
 (.reg [rg 6 (.call 603 [(.c (.s [104,101,117,110]))]),mv 5 6,rg 7 (.ext (.t 5) 0),rg 8 (.ext (.t 5) 1),rg 1 (.alloc [(.s []),(.sl [] .nl),(.sl [] .nl),(.sl [] .nl),(.sl [] .nl)]),so (.store 5 (.t 1) (.t 7)),mv 2 8])
 (.seq
 (.reg [rg 10 (.load (some 5) (.t 1)),rg 11 (.call 604 [(.t 10)]),mv 9 11,rg 12 (.ext (.t 9) 0),rg 13 (.ext (.t 9) 1),mv 3 12,mv 4 13])
 (.seq
 (.reg [mv 14 2,mv 15 14,gd 16 15 true (.call 589 [(.c (.i .i64 3))]),gd 17 15 true (.len (.t 16)),gd 18 15 true (.bin .eql (.t 17) (.c (.i .i64 2))),rg 19 (.pick (.t 15) (.t 18) (.c (.b false))),mv 20 19,gd 21 20 true (.bsl 1 [(.i .i64 0)] 3 [(0,(.c (.i .i64 0))),(1,(.c (.i .i64 1))),(2,(.c (.i .i64 2)))]),gd 22 20 true (.call 595 [(.t 21)]),gd 23 20 true (.bin .eql (.t 22) (.c (.i .i64 6))),rg 24 (.pick (.t 20) (.t 23) (.c (.b false))),mv 25 24,gd 26 25 true (.mov (.t 3)),gd 27 25 true (.bin .eql (.t 26) (.c (.i .i64 2))),rg 28 (.pick (.t 25) (.t 27) (.c (.b false))),mv 29 28,gd 30 29 true (.mov (.t 4)),gd 31 29 true (.bin .eql (.t 30) (.c (.i .i64 1))),rg 32 (.pick (.t 29) (.t 31) (.c (.b false))),mv 0 32])
 (.pre (.norm false [0]) .ret)))))
def row588:AFx:=⟨0,33,[.t 0],b588,none,false⟩
class Zgf (T:Tbl):Prop where
 h588:T 588=some row588
section
variable{T:Tbl}[Zgf T]{d:Option Nat}{st:St}{xs:List AV}{ps:List Opd}{e:Env}{h:Heap}{ol:List Heap}
@[simp] theorem x588:Zc (orc T) T 588 xs d st=cP T 588 false xs d st:=zaa Zgf.h588
end
def b638:AX:=
 (.seq
 (.reg [rg 3 (.xop (.box 5) [(.t 0)]),rg 6 (.mov (.c (.b false)))])
 (.seq
 (.seq
 (.reg [rg 16 (.load (some 5) (.t 3)),rg 17 (.call 515 [(.t 16),(.c (.i .i64 4)),(.c (.i .i64 2))]),mv 18 17,gd 19 18 false (.mov (.t 1)),gd 20 18 false (.call 286 [(.t 19),(.c (.i .i64 6)),(.c (.i .i64 2))]),rg 21 (.pick (.t 18) (.c (.b true)) (.t 20)),mv 22 21,gd 23 22 false (.mov (.t 2)),gd 24 22 false (.len (.t 23)),gd 25 22 false (.bin .gtr (.t 24) (.c (.i .i64 10))),rg 26 (.pick (.t 22) (.c (.b true)) (.t 25))])
 (.cond (.t 26)
 (.seq
 (.reg [rg 27 (.call 588 []),mv 6 27])
 (.pre (.norm false [6]) .ret))
 .skip))
 (.seq
 (.reg [rg 28 (.load (some 5) (.t 3)),rg 29 (.call 527 [(.t 28)]),rg 7 (.alloc [(.s []),(.sl [] .nl),(.sl [] .nl),(.sl [] .nl),(.sl [] .nl)]),so (.store 5 (.t 7) (.t 29))])
 (.seq
 (.draw [⟨rg 31 (.load (some 5) (.t 7)),0,1⟩,⟨mv 32 1,0,1⟩,⟨rg 33 (.call 287 [(.t 32)]),0,1⟩,⟨mv 34 2,0,1⟩,⟨rg 35 (.call 617 [(.t 31),(.t 33),(.t 34)]),0,1⟩,⟨mv 30 35,0,1⟩,⟨rg 36 (.ext (.t 30) 0),0,1⟩,⟨rg 37 (.ext (.t 30) 1),0,2⟩,⟨rg 8 (.alloc [(.b false),(.sl [] .nl),(.sl [] .nl)]),0,1⟩,⟨so (.store 3 (.t 8) (.t 36)),1,2⟩,⟨mv 9 37,2,2⟩])
 (.seq
 (.reg [rg 39 (.load (some 5) (.t 7)),rg 40 (.call 604 [(.t 39)]),mv 38 40,rg 41 (.ext (.t 38) 0),rg 42 (.ext (.t 38) 1),mv 10 41,mv 11 42])
 (.seq
 (.reg [rg 43 (.load (some 5) (.t 3)),rg 44 (.call 529 [(.t 43)]),rg 45 (.bin .eql (.t 44) (.c (.i .i64 0))),mv 12 45])
 (.seq
 (.reg [mv 46 12,mv 47 46,gd 48 47 true (.mov (.t 1)),gd 49 47 true (.len (.t 48)),gd 50 47 true (.fad 3 (.t 3)),gd 51 47 true (.load none (.t 50)),gd 52 47 true (.len (.t 51)),gd 53 47 true (.bin .eql (.t 49) (.t 52)),rg 54 (.pick (.t 47) (.t 53) (.c (.b false))),mv 55 54,gd 56 55 true (.mov (.t 2)),gd 57 55 true (.call 592 [(.t 56)]),rg 58 (.pick (.t 55) (.t 57) (.c (.b false))),mv 59 58,gd 60 59 true (.mov (.t 2)),gd 61 59 true (.len (.t 60)),gd 62 59 true (.bin .leq (.t 61) (.c (.i .i64 8))),rg 63 (.pick (.t 59) (.t 62) (.c (.b false))),mv 13 63])
 (.seq
 (.reg [rg 64 (.call 232 [(.c (.i .i64 0))]),rg 14 (.alloc [(.b false),(.sl [] .nl),(.sl [] .nl)]),so (.store 3 (.t 14) (.t 64))])
 (.seq
 (.seq
 (.reg [mv 65 13])
 (.cond (.t 65)
 (.drawT [rg 66 (.load (some 5) (.t 3)),mv 67 1,rg 68 (.call 278 [(.t 67)]),mv 69 2]
 [rg 70 (.call 641 [(.t 66),(.t 68),(.t 69)]),so (.store 3 (.t 14) (.t 70))])
 .skip))
 (.seq
 (.seq
 (.reg [rg 71 (.load (some 3) (.t 8)),rg 72 (.load (some 3) (.t 14)),rg 73 (.call 250 [(.t 71),(.t 72)]),rg 74 (.un .not (.t 73)),mv 75 74,gd 76 75 false (.mov (.t 9)),gd 77 75 false (.mov (.t 13)),gd 78 75 false (.eqb true (.t 76) (.t 77)),rg 79 (.pick (.t 75) (.c (.b true)) (.t 78))])
 (.cond (.t 79)
 (.seq
 (.reg [rg 6 (.mov (.c (.b false)))])
 (.pre (.norm false [6]) .ret))
 .skip))
 (.seq
 (.seq
 (.reg [mv 80 12,rg 81 (.un .not (.t 80))])
 (.cond (.t 81)
 (.seq
 (.reg [mv 82 10,rg 83 (.bin .eql (.t 82) (.c (.i .i64 0))),mv 84 83,gd 85 84 true (.mov (.t 11)),gd 86 84 true (.bin .eql (.t 85) (.c (.i .i64 0))),rg 87 (.pick (.t 84) (.t 86) (.c (.b false))),mv 88 87,gd 89 88 true (.load (some 5) (.t 7)),gd 90 88 true (.fad 3 (.t 7)),gd 91 88 true (.load none (.t 90)),gd 92 88 true (.call 611 [(.t 89),(.t 91)]),gd 93 88 true (.bin .eql (.t 92) (.c (.i .i64 0))),rg 94 (.pick (.t 88) (.t 93) (.c (.b false))),mv 95 94,gd 96 95 true (.call 588 []),rg 97 (.pick (.t 95) (.t 96) (.c (.b false))),mv 6 97])
 (.pre (.norm false [6]) .ret))
 .skip))
 (.seq
 (.reg [rg 15 (.mov (.c (.i .i64 0)))])
 (.seq
 (.seq
 (.reg [rg 98 (.fad 4 (.t 3)),rg 99 (.load none (.t 98)),rg 100 (.len (.t 99)),rg 101 (.bin .gtr (.t 100) (.c (.i .i64 0)))])
 (.cond (.t 101)
 (.reg [rg 102 (.load (some 5) (.t 3)),rg 103 (.fad 4 (.t 3)),rg 104 (.load none (.t 103)),rg 105 (.call 642 [(.t 102),(.t 104)]),mv 15 105])
 .skip))
 (.seq
 (.reg [mv 106 10,rg 107 (.load (some 5) (.t 3)),rg 108 (.fad 3 (.t 3)),rg 109 (.load none (.t 108)),rg 110 (.call 642 [(.t 107),(.t 109)]),rg 111 (.bin .eql (.t 106) (.t 110)),mv 112 111,gd 113 112 true (.mov (.t 11)),gd 114 112 true (.mov (.t 15)),gd 115 112 true (.bin .eql (.t 113) (.t 114)),rg 116 (.pick (.t 112) (.t 115) (.c (.b false))),mv 117 116,gd 118 117 true (.call 588 []),rg 119 (.pick (.t 117) (.t 118) (.c (.b false))),mv 6 119])
 (.pre (.norm false [6]) .ret)))))))))))))))
def row638:AFx:=⟨3,120,[.t 6],b638,none,false⟩
class Zd3 (T:Tbl):Prop where
 h638:T 638=some row638
section
variable{T:Tbl}[Zd3 T]{d:Option Nat}{st:St}{xs:List AV}{ps:List Opd}{e:Env}{h:Heap}{ol:List Heap}
end
section
open Go.RowKit
def opU:AOp→List Nat
 | .call u _=>[u]
 | .ifc k _=>[1000000+k]
 | .inv _ k u _ _=>[1000000+k,u]
 | .xop (.mkf k) _ | .xop (.mkv k) _=>[1000000+k]
 | _=>[]
def cXs:AX→List Nat
 | .reg l=>l.flatMap fun o=>opU o.op
 | .draw l=>l.flatMap fun o=>opU o.ao.op
 | .drawT hd tl=>(hd.flatMap fun o=>opU o.op)++tl.flatMap fun o=>opU o.op
 | .drawM hd tl=>(hd.flatMap fun o=>opU o.op)++tl.flatMap fun o=>opU o.op
 | .seq a b=>cXs a++cXs b
 | .cond _ x y=>cXs x++cXs y
 | .block _ c | .loop c | .note c _ | .pre _ c | .scope c | .lp _ _ c _=>cXs c
 | .gsc _ c r=>cXs c++cXs r
 | _=>[]
structure Agr (R:Nat→Bool) (T T':Tbl) (O O':Orc):Prop where
 tbl:∀u,R u=true→T u=T' u
 call:∀u xs hb,R u=true→O.call u xs hb=O'.call u xs hb
 loop:∀k c st,(∀u∈cXs c,R u=true)→O.loop k c st=O'.loop k c st
section
variable{R:Nat→Bool}{T T':Tbl}{O O':Orc}
theorem zma(h:Agr R T T' O O'){u:Nat}(hu:R u=true){xs:List AV}{d:Option Nat}{st:St}:Zc O T u xs d st=Zc O' T' u xs d st:=by
 unfold Zc;rw[h.tbl u hu];simp only[h.call u _ _ hu]
theorem z1y(h:Agr R T T' O O'){op:AOp}(hu:∀u∈opU op,R u=true){d:Option Nat}{st:St}:opX O T op d st=opX O' T' op d st:=by
 cases op<;>simp only[opX]
 case call u args=>exact zma h (hu _ (by simp[opU]))
 case ifc k x=>unfold Zu;rw[h.tbl _ (hu _ (by simp[opU]))]
 case inv nm k u r args=>
  have e1:Zu T k=Zu T' k:=by unfold Zu;rw[h.tbl _ (hu _ (by simp[opU]))]
  have e2:Zcp T k=Zcp T' k:=by unfold Zcp;rw[h.tbl _ (hu _ (by simp[opU]))]
  have e3:Zhu T k=Zhu T' k:=by unfold Zhu;rw[h.tbl _ (hu _ (by simp[opU]))]
  grind[zma,opU]
 case xop k xs=>
  cases k<;>simp only
  all_goals rename_i k
  all_goals
   have e1:Zu T k=Zu T' k:=by unfold Zu;rw[h.tbl _ (hu _ (by simp[opU]))]
   rw[e1]
theorem zum(h:Agr R T T' O O'){o:AO}(hu:∀u∈opU o.op,R u=true){st:St}:Zgq O T o st=Zgq O' T' o st:=by
 unfold Zgq gX;simp only[z1y h hu]
theorem zg0(h:Agr R T T' O O'):∀(l:List AO),(∀o∈l,∀u∈opU o.op,R u=true)→∀st,Zev O T l st=Zev O' T' l st
 | [],_,st=>rfl
 | o::l,hu,st=>by
  simp only[Zev];rw[zum h (hu o Y9)];congr 1
  funext s
  exact zg0 h l (fun o ho=>hu o (Ys _ ho)) s
theorem z1z(h:Agr R T T' O O'){op:AOp}(hu:∀u∈opU op,R u=true){e:Env}{hp:Heap}{older:List Heap}:opD O T op e hp older=opD O' T' op e hp older:=by
 by_cases hap:∃z x0 y,op=.app z x0 y
 ·obtain⟨z,x0,y,rfl⟩:=hap;by_cases hc:x0=.c (.sl [] .nl)
  ·subst hc;rfl
  ·rw[zoh hc,zoh hc]
 cases op<;>(try exact absurd ⟨_,_,_,rfl⟩ hap)<;>simp only[opD]
 case call u args=>
  rw[h.tbl _ (hu _ (by simp[opU]))];simp only[h.call _ _ _ (hu _ (show u∈_ by simp[opU]))]
 case ifc k x=>unfold Zu;rw[h.tbl _ (hu _ (by simp[opU]))]
 case inv nm k u r args=>
  have e1:Zu T k=Zu T' k:=by unfold Zu;rw[h.tbl _ (hu _ (by simp[opU]))]
  have e2:Zcp T k=Zcp T' k:=by unfold Zcp;rw[h.tbl _ (hu _ (by simp[opU]))]
  rw[e1,e2,h.tbl u (hu u (by simp[opU]))];simp only[h.call u _ _ (hu u (by simp[opU]))]
theorem zun(h:Agr R T T' O O'){o:AO}(hu:∀u∈opU o.op,R u=true){e:Env}{hp:Heap}{older:List Heap}:qX O T o e hp older=qX O' T' o e hp older:=by
 unfold qX;simp only[z1z h hu]
theorem zuo(h:Agr R T T' O O'){u:Nat}(hu:R u=true){ys:List AV}:Ze3 O T u ys=Ze3 O' T' u ys:=by
 unfold Ze3;rw[h.tbl u hu];simp only[h.call u _ _ hu]
theorem zmb(h:Agr R T T' O O'):∀(l:List DO),(∀o∈l,∀u∈opU o.ao.op,R u=true)→∀e hp clk older pend,Zcg O T l e hp clk older pend=Zcg O' T' l e hp clk older pend
 | [],_,e,hp,clk,older,pend=>rfl
 | o::l,hu,e,hp,clk,older,pend=>by
  have ih:=zmb h l (fun o ho=>hu o (Ys _ ho));simp only[Zcg];rw[zun h (hu o Y9)];simp only[ih];cases o.ao.op.writes with
  | true=>rfl
  | false=>
   cases hrow:Zhc o.ao.guard o.ao.op.callN e hp (older.take (older.length-o.lo)) with
   | none=>rfl
   | some p=>
    obtain⟨_,args,hop,_⟩:=zl9 hrow;have hp:R p.1=true:=hu o Y9 _ (by rw[hop];simp[opU]);simp only[zuo h hp]
theorem zmc(h:Agr R T T' O O')(tl:List AO)(ht:∀o∈tl,∀u∈opU o.op,R u=true):∀(l:List AO),(∀o∈l,∀u∈opU o.op,R u=true)→∀e hp clk,Zeg O T tl l e hp clk=Zeg O' T' tl l e hp clk
 | [],_,e,hp,clk=>zg0 h tl ht _
 | o::l,hu,e,hp,clk=>by
  have ih:=zmc h tl ht l (fun o ho=>hu o (Ys _ ho));simp only[Zeg];rw[zun h (hu o Y9)];simp only[ih]
theorem zup(h:Agr R T T' O O'){u:Nat}(hu:R u=true){xs:List AV}{d clk:Nat}:Zfh O T u xs d clk=Zfh O' T' u xs d clk:=by
 unfold Zfh;rw[h.tbl u hu];simp only[h.call u _ _ hu]
theorem zmd(h:Agr R T T' O O')(tl:List AO)(ht:∀o∈tl,∀u∈opU o.op,R u=true)(h0:Heap)(c0:Nat)(X:Heap):∀(l:List AO),(∀o∈l,∀u∈opU o.op,R u=true)→∀e hp clk,Zbp O T tl h0 c0 X l e hp clk=Zbp O' T' tl h0 c0 X l e hp clk
 | [],_,e,hp,clk=>zg0 h tl ht _
 | o::l,hu,e,hp,clk=>by
  have ih:=zmd h tl ht h0 c0 X l (fun o ho=>hu o (Ys _ ho));simp only[Zbp];rw[zun h (hu o Y9)];simp only[ih];cases hm:o.op.maker with
  | true=>rfl
  | false=>
   cases hst:o.op.isStore with
   | true=>rfl
   | false=>
   cases hl:o.op.lentN with
   | none=>rfl
   | some ua=>
    have hua:R ua.1=true:=hu o Y9 _ (by rw[zjk hl];simp[opU]);simp only[zup h hua]
theorem zb2(h:Agr R T T' O O')(k:Nat):∀(c:AX),(∀u∈cXs c,R u=true)→∀st,evX O T k c st=evX O' T' k c st
 | .skip,_,st=>rfl
 | .reg l,hu,st=>by
  simp only[evX];rw[zg0 h l fun o ho u hou=>hu u (Yap.2 ⟨o,ho,hou⟩)]
 | .draw l,hu,st=>by
  simp only[evX];rw[zmb h l fun o ho u hou=>hu u (Yap.2 ⟨o,ho,hou⟩)]
 | .drawT hd tl,hu,st=>by
  simp only[evX];rw[zmc h tl (fun o ho u hou=>hu u (Yba _ (Yap.2 ⟨o,ho,hou⟩))) hd (fun o ho u hou=>hu u (Ya4 _ (Yap.2 ⟨o,ho,hou⟩)))]
 | .drawM hd tl,hu,st=>by
  simp only[evX];rw[zmd h tl (fun o ho u hou=>hu u (Yba _ (Yap.2 ⟨o,ho,hou⟩))) _ _ _ hd (fun o ho u hou=>hu u (Ya4 _ (Yap.2 ⟨o,ho,hou⟩)))]
 | .bad,_,st=>rfl
 | .prim f,_,st=>rfl
 | .seq a b,hu,st=>by
  simp only[evX];rw[zb2 h k a fun u hm=>hu u (Ya4 _ hm)];congr 1
  funext r
  rw[zb2 h k b fun u hm=>hu u (Yba _ hm)]
 | .cond c x y,hu,st=>by
  simp only[evX];rw[zb2 h k x fun u hm=>hu u (Ya4 _ hm),zb2 h k y fun u hm=>hu u (Yba _ hm)]
 | .block id c,hu,st=>by
  simp only[evX];rw[zb2 h k c hu]
 | .loop c,hu,st=>h.loop k c st hu
 | .exit id,_,st=>rfl
 | .ret,_,st=>rfl
 | .note c g,hu,st=>by
  simp only[evX];rw[zb2 h k c hu]
 | .pre g c,hu,st=>by
  simp only[evX];congr 1
  funext s
  exact zb2 h k c hu s
 | .scope c,hu,st=>by
  simp only[evX];rw[zb2 h k c hu]
 | .label _,_,st=>rfl
 | .goto _,_,st=>rfl
 | .gsc l c r,hu,st=>by
  simp only[evX];rw[zb2 h k c fun u hm=>hu u (Ya4 _ hm)];congr 1
  funext s
  exact zb2 h k r (fun u hm=>hu u (Yba _ hm)) s
 | .lp id g c g2,hu,st=>by
  simp only[evX,h.loop k c _ hu]
theorem zuq(hc:∀u af,R u=true→T u=some af→∀v∈cXs af.body,R v=true)(h:Agr R T T' O O'):Agr R T T' (Zdh T O) (Zdh T' O') where
 tbl:=h.tbl
 call u xs hb hu:=by
  simp only[Zdh];rw[←h.tbl u hu];cases ht:T u with
  | none=>rfl
  | some af=>
   grind[zb2]
 loop k c st hu:=by
  simp only[Zdh];rw[zb2 h k c hu];congr 1
  funext r
  rw[h.loop k c _ hu]
theorem zkj(ht:∀u,R u=true→T u=T' u)(hc:∀u af,R u=true→T u=some af→∀v∈cXs af.body,R v=true):∀n,Agr R T T' (orcN T n) (orcN T' n)
 | 0=>⟨ht,fun _ _ _ _=>rfl,fun _ _ _ _=>rfl⟩
 | n+1=>zuq hc (zkj ht hc n)
theorem z10(ht:∀u,R u=true→T u=T' u)(hc:∀u af,R u=true→T u=some af→∀v∈cXs af.body,R v=true):Agr R T T' (orc T) (orc T'):=by
 refine⟨ht,fun u xs hb hu=>?_,fun k c st hu=>?_⟩
 ·simp only[orc];congr 1
  funext n
  exact(zkj ht hc n).call u xs hb hu
 ·simp only[orc];congr 1
  funext n
  exact(zkj ht hc n).loop k c st hu
end
theorem zdm{l:List (Nat×AFx)}{u:Nat}{af:AFx}(h:l.lookup u=some af):(u,af)∈l:=by
 induction l with
 | nil=>cases h
 | cons q l ih=>
  grind
structure Part (l l':List (Nat×AFx)):Prop where
 sub:∀p∈l',l.lookup p.1=some p.2
 clo:(l'.all fun p=>(cXs p.2.body).all fun v=>(l'.lookup v).isSome || (l.lookup v).isNone)=true
theorem Part.agr{l l':List (Nat×AFx)}(h:Part l l'):Agr (fun u=>(l'.lookup u).isSome || (l.lookup u).isNone) (fun u=>l.lookup u) (fun u=>l'.lookup u) (orc fun u=>l.lookup u) (orc fun u=>l'.lookup u):=by
 refine z10 (fun v hv=>?_) (fun v a hv hva w hw=>?_)
 ·cases hv2:l'.lookup v with
  | none=>
   cases hv3:l.lookup v with
   | none=>rfl
   | some a=>grind
  | some a=>exact h.sub _ (zdm hv2)
 ·cases hv2:l'.lookup v with
  | none=>grind
  | some b=>
   have hb:=zdm hv2;have h1:=h.sub _ hb;rw[hva]at h1;cases h1;exact Yf.1 (Yf.1 h.clo _ hb) w hw
theorem Part.ev{l l':List (Nat×AFx)}(h:Part l l'){c:AX}(hc:((cXs c).all fun v=>(l'.lookup v).isSome)=true){st:St}{r:Option (Ex×St)}
  (he:evX (orc fun u=>l.lookup u) (fun u=>l.lookup u) 0 c st=r):evX (orc fun u=>l'.lookup u) (fun u=>l'.lookup u) 0 c st=r:=by
 rw[←zb2 h.agr 0 c (fun v hv=>by grind) st];omega
theorem Part.call{l l':List (Nat×AFx)}(h:Part l l'){u:Nat}(hu:(l'.lookup u).isSome=true){xs:List AV}{r:Option AV}(he:Za (fun u=>l.lookup u) u xs=r):Za (fun u=>l'.lookup u) u xs=r:=by
 rw[←he];unfold Za;rw[h.agr.call u xs [] (by grind)]
end
end Go.Ab