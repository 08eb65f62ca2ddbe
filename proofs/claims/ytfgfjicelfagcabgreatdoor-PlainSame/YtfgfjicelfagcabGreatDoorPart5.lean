/-
  A calculus of values, boxes and code, and what functions of the program compute, proved in it.
  Conditions: none beyond those that the theorems state. (Part 5.)
-/
import Derived.Test.YtfgfjicelfagcabGreatDoorPart4

set_option linter.unusedSectionVars false
set_option linter.unusedVariables false
set_option linter.unusedSimpArgs false
set_option linter.unnecessarySimpa false

namespace Go.Ab
def l670_0:AX:=
 (.note
 (.seq
 (.seq
 (.reg [mv 83 13,rg 84 (.fad 1 (.t 6)),rg 85 (.load none (.t 84)),rg 86 (.len (.t 85)),rg 87 (.bin .lss (.t 83) (.t 86))])
 (.cond (.t 87)
 .skip
 (.exit 0)))
 (.seq
 (.block 1
 (.seq
 (.drawM [rg 91 (.fad 1 (.t 6)),rg 92 (.load none (.t 91)),mv 93 13,rg 94 (.iad 1 (.t 92) (.t 93)),rg 95 (.load none (.t 94)),rg 96 (.load (some 5) (.t 3)),rg 97 (.call 383 [(.t 96)]),rg 98 (.call 462 [(.t 95),(.t 97),(.c (.sl [] .nl)),(.c (.i .i64 400))]),mv 90 98,rg 99 (.ext (.t 90) 0),rg 100 (.ext (.t 90) 1),rg 14 (.alloc [(.b false),(.sl [] .nl),(.sl [] .nl)]),rg 15 (.alloc [(.i .i64 0),(.i .i64 0),(.i .i64 0),(.i .i64 0)]),so (.store 3 (.t 14) (.t 99))]
 [so (.store 4 (.t 15) (.t 100))])
 (.seq
 (.drawT [rg 101 (.load (some 4) (.t 15)),rg 102 (.build [(.i .i64 0),(.i .i64 0),(.i .i64 0),(.i .i64 0)] []),rg 103 (.eqs true [(0,.int),(1,.int),(2,.int),(3,.int)] (.t 101) (.t 102)),mv 104 103,gd 105 104 false (.load (some 3) (.t 14)),gd 106 104 false (.mov (.t 11)),gd 107 104 false (.mov (.t 13)),gd 108 104 false (.iad 3 (.t 106) (.t 107)),gd 109 104 false (.load (some 3) (.t 108))]
 [gd 110 104 false (.call 212 [(.t 105),(.t 109)]),gd 111 104 false (.un .not (.t 110)),rg 112 (.pick (.t 104) (.c (.b true)) (.t 111))])
 (.cond (.t 112)
 (.seq
 (.reg [rg 4 (.mov (.c (.b false)))])
 (.pre (.norm false [4]) .ret))
 .skip))))
 (.reg [mv 88 13,rg 89 (.bin .add (.t 88) (.c (.i .i64 1))),mv 13 89])))
 (.norm false [3,6,11,13]))
def b670:AX:=
 (.seq
 (.reg [rg 2 (.xop (.box 2) [(.t 0)]),rg 3 (.xop (.box 5) [(.t 1)]),rg 4 (.mov (.c (.b false)))])
 (.seq
 (.seq
 (.reg [rg 16 (.load (some 2) (.t 2)),rg 17 (.call 466 [(.t 16),(.c (.i .i64 6)),(.c (.i .i64 12)),(.c (.i .i64 4))]),mv 18 17,gd 19 18 false (.load (some 5) (.t 3)),gd 20 18 false (.call 380 [(.t 19),(.c (.i .i64 6)),(.c (.i .i64 2))]),rg 21 (.pick (.t 18) (.c (.b true)) (.t 20))])
 (.cond (.t 21)
 (.seq
 (.reg [rg 22 (.call 671 []),mv 4 22])
 (.pre (.norm false [4]) .ret))
 .skip))
 (.seq
 (.reg [rg 23 (.load (some 2) (.t 2)),rg 24 (.call 468 [(.t 23)]),rg 5 (.alloc [(.sl [] .nl),(.sl [] .nl)]),so (.store 2 (.t 5) (.t 24))])
 (.seq
 (.reg [rg 26 (.load (some 2) (.t 5)),rg 27 (.call 666 [(.t 26)]),mv 25 27,rg 28 (.ext (.t 25) 0),rg 29 (.ext (.t 25) 1),rg 6 (.alloc [(.sl [] .nl),(.sl [] .nl)]),so (.store 2 (.t 6) (.t 28)),mv 7 29])
 (.seq
 (.seq
 (.reg [mv 30 7,rg 31 (.un .not (.t 30)),mv 32 31,gd 33 32 false (.load (some 2) (.t 6)),gd 34 32 false (.call 491 [(.t 33)]),gd 35 32 false (.bin .gtr (.t 34) (.c (.i .i64 100))),rg 36 (.pick (.t 32) (.c (.b true)) (.t 35))])
 (.cond (.t 36)
 (.seq
 (.reg [rg 37 (.call 671 []),mv 4 37])
 (.pre (.norm false [4]) .ret))
 .skip))
 (.seq
 (.reg [rg 39 (.load (some 2) (.t 6)),rg 40 (.call 666 [(.t 39)]),mv 38 40,rg 41 (.ext (.t 38) 0),rg 42 (.ext (.t 38) 1),rg 8 (.alloc [(.sl [] .nl),(.sl [] .nl)]),so (.store 2 (.t 8) (.t 41)),mv 9 42])
 (.seq
 (.reg [rg 43 (.load (some 2) (.t 6)),rg 44 (.fad 1 (.t 6)),rg 45 (.load none (.t 44)),rg 46 (.len (.t 45)),rg 47 (.call 477 [(.t 43),(.t 46),(.c (.i .i64 6))]),rg 48 (.build [(.i .i64 0),(.i .i64 0),(.i .i64 0),(.i .i64 0)] []),rg 49 (.eqs false [(0,.int),(1,.int),(2,.int),(3,.int)] (.t 47) (.t 48)),mv 10 49])
 (.seq
 (.seq
 (.reg [rg 50 (.load (some 2) (.t 6)),rg 51 (.call 659 [(.t 50)]),mv 52 51,gd 53 52 false (.mov (.t 9)),gd 54 52 false (.mov (.t 10)),gd 55 52 false (.eqb true (.t 53) (.t 54)),rg 56 (.pick (.t 52) (.c (.b true)) (.t 55)),mv 57 56,gd 58 57 false (.mov (.t 10)),gd 59 57 false (.mov (.t 58)),gd 60 59 true (.load (some 2) (.t 6)),gd 61 59 true (.load (some 2) (.t 8)),gd 62 59 true (.call 681 [(.t 60),(.t 61)]),gd 63 59 true (.un .not (.t 62)),gd 64 57 false (.pick (.t 59) (.t 63) (.c (.b false))),rg 65 (.pick (.t 57) (.c (.b true)) (.t 64))])
 (.cond (.t 65)
 (.seq
 (.reg [rg 4 (.mov (.c (.b false)))])
 (.pre (.norm false [4]) .ret))
 .skip))
 (.seq
 (.draw [⟨rg 67 (.load (some 2) (.t 5)),0,1⟩,⟨rg 68 (.load (some 5) (.t 3)),0,1⟩,⟨rg 69 (.call 383 [(.t 68)]),0,1⟩,⟨rg 70 (.call 467 [(.t 67),(.t 69),(.c (.i .i64 400))]),0,1⟩,⟨mv 66 70,0,1⟩,⟨rg 71 (.ext (.t 66) 0),0,1⟩,⟨rg 72 (.ext (.t 66) 1),0,1⟩,⟨rg 12 (.alloc [(.i .i64 0),(.i .i64 0),(.i .i64 0),(.i .i64 0)]),0,1⟩,⟨mv 11 71,1,1⟩,⟨so (.store 4 (.t 12) (.t 72)),1,2⟩])
 (.seq
 (.seq
 (.reg [rg 73 (.load (some 4) (.t 12)),rg 74 (.build [(.i .i64 0),(.i .i64 0),(.i .i64 0),(.i .i64 0)] []),rg 75 (.eqs true [(0,.int),(1,.int),(2,.int),(3,.int)] (.t 73) (.t 74))])
 (.cond (.t 75)
 (.seq
 (.reg [rg 76 (.call 671 []),mv 4 76])
 (.pre (.norm false [4]) .ret))
 .skip))
 (.seq
 (.seq
 (.reg [mv 77 11,rg 78 (.len (.t 77)),rg 79 (.fad 1 (.t 6)),rg 80 (.load none (.t 79)),rg 81 (.len (.t 80)),rg 82 (.bin .neq (.t 78) (.t 81))])
 (.cond (.t 82)
 (.seq
 (.reg [rg 4 (.mov (.c (.b false)))])
 (.pre (.norm false [4]) .ret))
 .skip))
 (.seq
 (.seq
 (.reg [rg 13 (.mov (.c (.i .i64 0)))])
 (.lp 0 (.norm false [3,6,11,13]) l670_0 (.norm false [11])))
 (.seq
 (.reg [mv 113 11,rg 114 (.call 273 [(.t 113)]),rg 115 (.bin .leq (.t 114) (.c (.i .i64 400))),mv 116 115,gd 117 116 true (.call 671 []),rg 118 (.pick (.t 116) (.t 117) (.c (.b false))),mv 4 118])
 (.pre (.norm false [4]) .ret))))))))))))))
def b671:AX:=
 (.seq
 (.reg [rg 0 (.mov (.c (.b false)))])
 (.seq
 (.reg [rg 6 (.build [(.i .i64 0),(.i .i64 0),(.sl [] .nl)] [(0,1,(.c (.i .i64 2)))]),rg 7 (.bsl 1 [(u32 0)] 1 [(0,(.c (u32 1)))]),rg 8 (.build [(.i .i64 0),(.i .i64 0),(.sl [] .nl)] [(0,1,(.c (.i .i64 1))),(2,1,(.t 7))]),rg 9 (.build [(.i .i64 0),(.i .i64 0),(.sl [] .nl)] [(0,1,(.c (.i .i64 7)))]),rg 10 (.bsl 3 [(.i .i64 0),(.i .i64 0),(.sl [] .nl)] 3 [(0,(.t 6)),(1,(.t 8)),(2,(.t 9))]),mv 1 10])
 (.seq
 (.reg [mv 11 1,rg 12 (.build [(.s []),(.sl [] .nl)] [(0,1,(.c (.s [97]))),(1,1,(.t 11))]),rg 13 (.bsl 2 [(.s []),(.sl [] .nl)] 1 [(0,(.t 12))]),rg 14 (.build [(.i .i64 0),(.i .i64 0),(.sl [] .nl)] [(0,1,(.c (.i .i64 5)))]),rg 15 (.build [(.i .i64 0),(.i .i64 0),(.sl [] .nl)] [(0,1,(.c (.i .i64 5)))]),rg 16 (.build [(.i .i64 0),(.i .i64 0),(.sl [] .nl)] [(0,1,(.c (.i .i64 9)))]),rg 17 (.bsl 3 [(.i .i64 0),(.i .i64 0),(.sl [] .nl)] 3 [(0,(.t 14)),(1,(.t 15)),(2,(.t 16))]),rg 18 (.bsl 1 [(.sl [] .nl)] 1 [(0,(.t 17))]),rg 19 (.build [(.sl [] .nl),(.sl [] .nl)] [(0,1,(.t 13)),(1,1,(.t 18))]),rg 2 (.alloc [(.sl [] .nl),(.sl [] .nl)]),so (.store 2 (.t 2) (.t 19))])
 (.seq
 (.reg [rg 21 (.load (some 2) (.t 2)),rg 22 (.call 665 [(.t 21)]),mv 20 22,rg 23 (.ext (.t 20) 0),rg 24 (.ext (.t 20) 1),mv 3 23,mv 4 24])
 (.seq
 (.reg [rg 25 (.load (some 2) (.t 2)),rg 26 (.call 668 [(.t 25)]),mv 5 26])
 (.seq
 (.reg [mv 27 4,mv 28 27,gd 29 28 true (.mov (.t 3)),gd 30 28 true (.len (.t 29)),gd 31 28 true (.bin .eql (.t 30) (.c (.i .i64 1))),rg 32 (.pick (.t 28) (.t 31) (.c (.b false))),mv 33 32,gd 34 33 true (.mov (.t 3)),gd 35 33 true (.iad 1 (.t 34) (.c (.i .i64 0))),gd 36 33 true (.load none (.t 35)),gd 37 33 true (.len (.t 36)),gd 38 33 true (.bin .eql (.t 37) (.c (.i .i64 7))),rg 39 (.pick (.t 33) (.t 38) (.c (.b false))),mv 40 39,gd 41 40 true (.mov (.t 5)),gd 42 40 true (.len (.t 41)),gd 43 40 true (.bin .eql (.t 42) (.c (.i .i64 1))),rg 44 (.pick (.t 40) (.t 43) (.c (.b false))),mv 45 44,gd 46 45 true (.mov (.t 5)),gd 47 45 true (.iad 1 (.t 46) (.c (.i .i64 0))),gd 48 45 true (.load none (.t 47)),gd 49 45 true (.bin .eql (.t 48) (.c (.i .i64 2))),rg 50 (.pick (.t 45) (.t 49) (.c (.b false))),mv 51 50,gd 52 51 true (.load (some 2) (.t 2)),gd 53 51 true (.call 659 [(.t 52)]),rg 54 (.pick (.t 51) (.t 53) (.c (.b false))),mv 0 54])
 (.pre (.norm false [0]) .ret)))))))
class CLaw22 (T:Tbl):Prop where
 h670:T 670=some ⟨2,119,[.t 4],b670,none,false⟩
 h671:T 671=some ⟨0,55,[.t 0],b671,none,false⟩
section
variable{T:Tbl}[CLaw22 T]{d:Option Nat}{st:St}{xs:List AV}{ps:List Opd}{e:Env}{h:Heap}{ol:List Heap}
theorem f670(xs:List AV)(hn:xs.length=2):callF T 670 xs=retF [.t 4] false (evX (orc T) T 0 b670 ⟨argEnv xs,[],1⟩):=zab CLaw22.h670 hn
@[simp] theorem x671:callX (orc T) T 671 xs d st=cP T 671 false xs d st:=zaa CLaw22.h671
theorem f671(xs:List AV)(hn:xs.length=0):callF T 671 xs=retF [.t 0] false (evX (orc T) T 0 b671 ⟨argEnv xs,[],1⟩):=zab CLaw22.h671 hn
end
section
open Go.RowKit
def opU:AOp→List Nat
 | .call u _=>[u]
 | .ifc k _=>[1000000+k]
 | .inv _ k u _ _=>[1000000+k,u]
 | .xop (.mkf k) _ | .xop (.mkv k) _=>[1000000+k]
 | _=>[]
def cXs:AX→List Nat
 | .reg l=>l.flatMap fun o=>opU o.op
 | .draw l=>l.flatMap fun o=>opU o.ao.op
 | .drawT hd tl=>(hd.flatMap fun o=>opU o.op)++tl.flatMap fun o=>opU o.op
 | .drawM hd tl=>(hd.flatMap fun o=>opU o.op)++tl.flatMap fun o=>opU o.op
 | .drawC l1 o l2 tl=>(l1.flatMap fun o=>opU o.op)++(opU o.op++((l2.flatMap fun o=>opU o.op)++tl.flatMap fun o=>opU o.op))
 | .drawN l1 o l2=>(l1.flatMap fun o=>opU o.ao.op)++(opU o.op++l2.flatMap fun o=>opU o.ao.op)
 | .seq a b=>cXs a++cXs b
 | .cond _ x y=>cXs x++cXs y
 | .block _ c | .loop c | .note c _ | .pre _ c | .scope c | .lp _ _ c _=>cXs c
 | .gsc _ c r=>cXs c++cXs r
 | _=>[]
structure Agr (R:Nat→Bool) (T T':Tbl) (O O':Orc):Prop where
 tbl:∀u,R u=true→T u=T' u
 call:∀u xs hb,R u=true→O.call u xs hb=O'.call u xs hb
 loop:∀k c st,(∀u∈cXs c,R u=true)→O.loop k c st=O'.loop k c st
section
variable{R:Nat→Bool}{T T':Tbl}{O O':Orc}
theorem zg7(h:Agr R T T' O O'){u:Nat}(hu:R u=true){xs:List AV}{d:Option Nat}{st:St}:callX O T u xs d st=callX O' T' u xs d st:=by
 unfold callX
 rw[h.tbl u hu]
 simp only[h.call u _ _ hu]
theorem z0m(h:Agr R T T' O O'){op:AOp}(hu:∀u∈opU op,R u=true){d:Option Nat}{st:St}:opX O T op d st=opX O' T' op d st:=by
 cases op<;>simp only[opX]
 case call u args=>exact zg7 h (hu _ (by simp[opU]))
 case ifc k x=>unfold tyNum;rw[h.tbl _ (hu _ (by simp[opU]))]
 case inv nm k u r args=>
  have e1:tyNum T k=tyNum T' k:=by unfold tyNum;rw[h.tbl _ (hu _ (by simp[opU]))]
  have e2:methsT T k=methsT T' k:=by unfold methsT;rw[h.tbl _ (hu _ (by simp[opU]))]
  have e3:funT T k=funT T' k:=by unfold funT;rw[h.tbl _ (hu _ (by simp[opU]))]
  grind[zg7,opU]
 case xop k xs=>
  cases k<;>simp only
  all_goals rename_i k
  all_goals
   have e1:tyNum T k=tyNum T' k:=by unfold tyNum;rw[h.tbl _ (hu _ (by simp[opU]))]
   rw[e1]
theorem zt9(h:Agr R T T' O O'){o:AO}(hu:∀u∈opU o.op,R u=true){st:St}:stepX O T o st=stepX O' T' o st:=by
 unfold stepX gX
 simp only[z0m h hu]
theorem ze3(h:Agr R T T' O O'):∀(l:List AO),(∀o∈l,∀u∈opU o.op,R u=true)→∀st,runX O T l st=runX O' T' l st
 | [],_,st=>rfl
 | o::l,hu,st=>by
  simp only[runX]
  rw[zt9 h (hu o List.mem_cons_self)]
  congr 1
  funext s
  exact ze3 h l (fun o ho=>hu o (List.mem_cons_of_mem _ ho)) s
theorem z0n(h:Agr R T T' O O'){op:AOp}(hu:∀u∈opU op,R u=true){e:Env}{hp:Heap}{older:List Heap}:opD O T op e hp older=opD O' T' op e hp older:=by
 by_cases hap:∃z x0 y,op=.app z x0 y
 ·obtain⟨z,x0,y,rfl⟩:=hap
  by_cases hc:x0=.c (.sl [] .nl)
  ·subst hc;rfl
  ·rw[zn1 hc,zn1 hc]
 cases op<;>(try exact absurd ⟨_,_,_,rfl⟩ hap)<;>simp only[opD]
 case call u args=>
  rw[h.tbl _ (hu _ (by simp[opU]))]
  simp only[h.call _ _ _ (hu _ (show u∈_ by simp[opU]))]
 case ifc k x=>unfold tyNum;rw[h.tbl _ (hu _ (by simp[opU]))]
 case inv nm k u r args=>
  have e1:tyNum T k=tyNum T' k:=by unfold tyNum;rw[h.tbl _ (hu _ (by simp[opU]))]
  have e2:methsT T k=methsT T' k:=by unfold methsT;rw[h.tbl _ (hu _ (by simp[opU]))]
  rw[e1,e2,h.tbl u (hu u (by simp[opU]))]
  simp only[h.call u _ _ (hu u (by simp[opU]))]
theorem zlx(h:Agr R T T' O O'){o:AO}(hu:∀u∈opU o.op,R u=true){e:Env}{hp:Heap}{older:List Heap}:qX O T o e hp older=qX O' T' o e hp older:=by
 unfold qX
 simp only[z0n h hu]
theorem zua(h:Agr R T T' O O'){u:Nat}(hu:R u=true){ys:List AV}:callR O T u ys=callR O' T' u ys:=by
 unfold callR
 rw[h.tbl u hu]
 simp only[h.call u _ _ hu]
theorem zg8(h:Agr R T T' O O'):∀(l:List DO),(∀o∈l,∀u∈opU o.ao.op,R u=true)→∀e hp clk older pend,drawX O T l e hp clk older pend=drawX O' T' l e hp clk older pend
 | [],_,e,hp,clk,older,pend=>rfl
 | o::l,hu,e,hp,clk,older,pend=>by
  have ih:=zg8 h l (fun o ho=>hu o (List.mem_cons_of_mem _ ho))
  simp only[drawX]
  rw[zlx h (hu o List.mem_cons_self)]
  simp only[ih]
  cases o.ao.op.writes with
  | true=>rfl
  | false=>
   cases hrow:rowQ o.ao.guard o.ao.op.callN e hp (older.take (older.length-o.lo)) with
   | none=>rfl
   | some p=>
    obtain⟨_,args,hop,_⟩:=zlw hrow
    have hp:R p.1=true:=hu o List.mem_cons_self _ (by rw[hop];simp[opU])
    simp only[zua h hp]
theorem zly(h:Agr R T T' O O')(tl:List AO)(ht:∀o∈tl,∀u∈opU o.op,R u=true):∀(l:List AO),(∀o∈l,∀u∈opU o.op,R u=true)→∀e hp clk,headX O T tl l e hp clk=headX O' T' tl l e hp clk
 | [],_,e,hp,clk=>ze3 h tl ht _
 | o::l,hu,e,hp,clk=>by
  have ih:=zly h tl ht l (fun o ho=>hu o (List.mem_cons_of_mem _ ho))
  simp only[headX]
  rw[zlx h (hu o List.mem_cons_self)]
  simp only[ih]
theorem zub(h:Agr R T T' O O'){u:Nat}(hu:R u=true){xs:List AV}{d clk:Nat}:callM O T u xs d clk=callM O' T' u xs d clk:=by
 unfold callM
 rw[h.tbl u hu]
 simp only[h.call u _ _ hu]
theorem zlz(h:Agr R T T' O O')(tl:List AO)(ht:∀o∈tl,∀u∈opU o.op,R u=true)(h0:Heap)(c0:Nat)(X:Heap):∀(l:List AO),(∀o∈l,∀u∈opU o.op,R u=true)→∀e hp clk,headM O T tl h0 c0 X l e hp clk=headM O' T' tl h0 c0 X l e hp clk
 | [],_,e,hp,clk=>ze3 h tl ht _
 | o::l,hu,e,hp,clk=>by
  have ih:=zlz h tl ht h0 c0 X l (fun o ho=>hu o (List.mem_cons_of_mem _ ho))
  simp only[headM]
  rw[zlx h (hu o List.mem_cons_self)]
  simp only[ih]
  cases hm:o.op.maker with
  | true=>rfl
  | false=>
   cases hst:o.op.isStore with
   | true=>rfl
   | false=>
   cases hl:o.op.lentN with
   | none=>rfl
   | some ua=>
    have hua:R ua.1=true:=hu o List.mem_cons_self _ (by rw[zi5 hl];simp[opU])
    simp only[zub h hua]
theorem zj8(h:Agr R T T' O O'){K K':Env→PendX→Option St}(hK:∀e pend,K e pend=K' e pend)(hp:Heap):∀(l:List DO),(∀o∈l,∀u∈opU o.ao.op,R u=true)→∀e pend,preC O T K hp l e pend=preC O' T' K' hp l e pend
 | [],_,e,pend=>hK e pend
 | o::l,hu,e,pend=>by
  have ih:=zj8 h hK hp l (fun o ho=>hu o (List.mem_cons_of_mem _ ho))
  simp only[preC]
  rw[zlx h (hu o List.mem_cons_self)]
  simp only[ih]
theorem zl0(h:Agr R T T' O O'){K K':Env→Option St}(hK:∀e,K e=K' e)(h0 h1:Heap):∀(l:List AO),(∀o∈l,∀u∈opU o.op,R u=true)→∀e,postC O T K h0 h1 l e=postC O' T' K' h0 h1 l e
 | [],_,e=>hK e
 | o::l,hu,e=>by
  have ih:=zl0 h hK h0 h1 l (fun o ho=>hu o (List.mem_cons_of_mem _ ho))
  simp only[postC]
  rw[zlx h (hu o List.mem_cons_self)]
  simp only[ih]
theorem zl1(h:Agr R T T' O O'){o:AO}(hu:∀u∈opU o.op,R u=true){st:St}:callC O T o st=callC O' T' o st:=by
 obtain⟨d,g,op⟩:=o
 cases op
 case call u args=>
  cases g<;>cases d<;>simp only[callC]
  exact zg7 h (hu u (by simp[opU]))
 all_goals cases g<;>cases d<;>rfl
theorem zuc(h:Agr R T T' O O')(l1:List AO)(o:AO)(l2 tl:List AO)(hu:∀u∈cXs (.drawC l1 o l2 tl),R u=true)(st:St):headC O T l1 o l2 tl st=headC O' T' l1 o l2 tl st:=by
 have u1:∀o∈l1,∀u∈opU o.op,R u=true:=fun o ho u hou=>hu u (List.mem_append_left _ (List.mem_flatMap.2 ⟨o,ho,hou⟩))
 have u2:∀u∈opU o.op,R u=true:=fun u hou=>hu u (List.mem_append_right _ (List.mem_append_left _ hou))
 have u3:∀o∈l2,∀u∈opU o.op,R u=true:=fun o ho u hou=>hu u (List.mem_append_right _ (List.mem_append_right _ (List.mem_append_left _ (List.mem_flatMap.2 ⟨o,ho,hou⟩))))
 have u4:∀o∈tl,∀u∈opU o.op,R u=true:=fun o ho u hou=>hu u (List.mem_append_right _ (List.mem_append_right _ (List.mem_append_right _ (List.mem_flatMap.2 ⟨o,ho,hou⟩))))
 unfold headC
 refine zj8 h (fun e pend=>?_) _ _ (fun o ho=>?_) _ _
 ·rw[zl1 h u2]
  congr 1
  funext s
  rw[zl0 h (fun e=>ze3 h tl u4 _) _ _ l2 u3]
 ·obtain⟨o',ho',rfl⟩:=List.mem_map.1 ho
  exact u1 o' ho'
theorem zud(h:Agr R T T' O O')(l1:List DO)(o:AO)(l2:List DO)(hu:∀u∈cXs (.drawN l1 o l2),R u=true)(st:St):headN O T l1 o l2 st=headN O' T' l1 o l2 st:=by
 have u1:∀o∈l1,∀u∈opU o.ao.op,R u=true:=fun o ho u hou=>hu u (List.mem_append_left _ (List.mem_flatMap.2 ⟨o,ho,hou⟩))
 have u2:∀u∈opU o.op,R u=true:=fun u hou=>hu u (List.mem_append_right _ (List.mem_append_left _ hou))
 have u3:∀o∈l2,∀u∈opU o.ao.op,R u=true:=fun o ho u hou=>hu u (List.mem_append_right _ (List.mem_append_right _ (List.mem_flatMap.2 ⟨o,ho,hou⟩)))
 unfold headN
 congr 1
 refine zj8 h (fun e pend=>?_) _ _ (fun o ho=>?_) _ _
 ·rw[zl1 h u2]
  congr 1
  funext s
  rw[zg8 h _ fun o ho=>?_]
  obtain⟨o',ho',rfl⟩:=List.mem_map.1 ho
  exact u3 o' ho'
 ·obtain⟨o',ho',rfl⟩:=List.mem_map.1 ho
  exact u1 o' ho'
theorem zb4(h:Agr R T T' O O')(k:Nat):∀(c:AX),(∀u∈cXs c,R u=true)→∀st,evX O T k c st=evX O' T' k c st
 | .skip,_,st=>rfl
 | .reg l,hu,st=>by
  simp only[evX]
  rw[ze3 h l fun o ho u hou=>hu u (List.mem_flatMap.2 ⟨o,ho,hou⟩)]
 | .draw l,hu,st=>by
  simp only[evX]
  rw[zg8 h l fun o ho u hou=>hu u (List.mem_flatMap.2 ⟨o,ho,hou⟩)]
 | .drawT hd tl,hu,st=>by
  simp only[evX]
  rw[zly h tl (fun o ho u hou=>hu u (List.mem_append_right _ (List.mem_flatMap.2 ⟨o,ho,hou⟩))) hd (fun o ho u hou=>hu u (List.mem_append_left _ (List.mem_flatMap.2 ⟨o,ho,hou⟩)))]
 | .drawM hd tl,hu,st=>by
  simp only[evX]
  rw[zlz h tl (fun o ho u hou=>hu u (List.mem_append_right _ (List.mem_flatMap.2 ⟨o,ho,hou⟩))) _ _ _ hd (fun o ho u hou=>hu u (List.mem_append_left _ (List.mem_flatMap.2 ⟨o,ho,hou⟩)))]
 | .drawC l1 o l2 tl,hu,st=>by
  simp only[evX]
  rw[zuc h l1 o l2 tl hu]
 | .drawN l1 o l2,hu,st=>by
  simp only[evX]
  rw[zud h l1 o l2 hu]
 | .bad,_,st=>rfl
 | .prim f,_,st=>rfl
 | .seq a b,hu,st=>by
  simp only[evX]
  rw[zb4 h k a fun u hm=>hu u (List.mem_append_left _ hm)]
  congr 1
  funext r
  rw[zb4 h k b fun u hm=>hu u (List.mem_append_right _ hm)]
 | .cond c x y,hu,st=>by
  simp only[evX]
  rw[zb4 h k x fun u hm=>hu u (List.mem_append_left _ hm),zb4 h k y fun u hm=>hu u (List.mem_append_right _ hm)]
 | .block id c,hu,st=>by
  simp only[evX]
  rw[zb4 h k c hu]
 | .loop c,hu,st=>h.loop k c st hu
 | .exit id,_,st=>rfl
 | .ret,_,st=>rfl
 | .note c g,hu,st=>by
  simp only[evX]
  rw[zb4 h k c hu]
 | .pre g c,hu,st=>by
  simp only[evX]
  congr 1
  funext s
  exact zb4 h k c hu s
 | .scope c,hu,st=>by
  simp only[evX]
  rw[zb4 h k c hu]
 | .label _,_,st=>rfl
 | .goto _,_,st=>rfl
 | .gsc l c r,hu,st=>by
  simp only[evX]
  rw[zb4 h k c fun u hm=>hu u (List.mem_append_left _ hm)]
  congr 1
  funext s
  exact zb4 h k r (fun u hm=>hu u (List.mem_append_right _ hm)) s
 | .lp id g c g2,hu,st=>by
  simp only[evX,h.loop k c _ hu]
theorem zue(hc:∀u af,R u=true→T u=some af→∀v∈cXs af.body,R v=true)(h:Agr R T T' O O'):Agr R T T' (nextO T O) (nextO T' O') where
 tbl:=h.tbl
 call u xs hb hu:=by
  simp only[nextO]
  rw[←h.tbl u hu]
  cases ht:T u with
  | none=>rfl
  | some af=>
   grind[zb4]
 loop k c st hu:=by
  simp only[nextO]
  rw[zb4 h k c hu]
  congr 1
  funext r
  rw[h.loop k c _ hu]
theorem zj9(ht:∀u,R u=true→T u=T' u)(hc:∀u af,R u=true→T u=some af→∀v∈cXs af.body,R v=true):∀n,Agr R T T' (orcN T n) (orcN T' n)
 | 0=>⟨ht,fun _ _ _ _=>rfl,fun _ _ _ _=>rfl⟩
 | n+1=>zue hc (zj9 ht hc n)
theorem z0o(ht:∀u,R u=true→T u=T' u)(hc:∀u af,R u=true→T u=some af→∀v∈cXs af.body,R v=true):Agr R T T' (orc T) (orc T'):=by
 refine⟨ht,fun u xs hb hu=>?_,fun k c st hu=>?_⟩
 ·simp only[orc]
  congr 1
  funext n
  exact(zj9 ht hc n).call u xs hb hu
 ·simp only[orc]
  congr 1
  funext n
  exact(zj9 ht hc n).loop k c st hu
end
theorem zde{l:List (Nat×AFx)}{u:Nat}{af:AFx}(h:l.lookup u=some af):(u,af)∈l:=by
 induction l with
 | nil=>cases h
 | cons q l ih=>
  grind
structure Part (l l':List (Nat×AFx)):Prop where
 sub:∀p∈l',l.lookup p.1=some p.2
 clo:(l'.all fun p=>(cXs p.2.body).all fun v=>(l'.lookup v).isSome || (l.lookup v).isNone)=true
theorem Part.agr{l l':List (Nat×AFx)}(h:Part l l'):Agr (fun u=>(l'.lookup u).isSome || (l.lookup u).isNone) (fun u=>l.lookup u) (fun u=>l'.lookup u) (orc fun u=>l.lookup u) (orc fun u=>l'.lookup u):=by
 refine z0o (fun v hv=>?_) (fun v a hv hva w hw=>?_)
 ·cases hv2:l'.lookup v with
  | none=>
   cases hv3:l.lookup v with
   | none=>rfl
   | some a=>grind
  | some a=>exact h.sub _ (zde hv2)
 ·cases hv2:l'.lookup v with
  | none=>grind
  | some b=>
   have hb:=zde hv2
   have h1:=h.sub _ hb
   rw[hva]at h1
   cases h1
   exact List.all_eq_true.1 (List.all_eq_true.1 h.clo _ hb) w hw
theorem Part.ev{l l':List (Nat×AFx)}(h:Part l l'){c:AX}(hc:((cXs c).all fun v=>(l'.lookup v).isSome)=true){st:St}{r:Option (Ex×St)}
  (he:evX (orc fun u=>l.lookup u) (fun u=>l.lookup u) 0 c st=r):evX (orc fun u=>l'.lookup u) (fun u=>l'.lookup u) 0 c st=r:=by
 rw[←zb4 h.agr 0 c (fun v hv=>by grind) st]
 omega
theorem Part.call{l l':List (Nat×AFx)}(h:Part l l'){u:Nat}(hu:(l'.lookup u).isSome=true){xs:List AV}{r:Option AV}(he:callF (fun u=>l.lookup u) u xs=r):callF (fun u=>l'.lookup u) u xs=r:=by
 rw[←he]
 unfold callF
 rw[h.agr.call u xs [] (by grind)]
end
end Go.Ab