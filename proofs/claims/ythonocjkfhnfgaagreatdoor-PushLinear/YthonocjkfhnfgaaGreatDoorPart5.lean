/-
  A calculus of values, boxes and code, and what functions of the program compute, proved in it.
  Conditions: none beyond those that the theorems state. (Part 5.)
-/
import Derived.Test.YthonocjkfhnfgaaGreatDoorPart4

set_option linter.unusedSectionVars false
set_option linter.unusedVariables false
set_option linter.unusedSimpArgs false
set_option linter.unnecessarySimpa false

namespace Go.Ab
def b373:AX:=
 (.seq
 (.reg [rg 4 (.xop (.box 4) [(.t 0)]),rg 5 (.xop (.box 11) [(.t 1)]),rg 6 (.xop (.box 5) [(.t 2)]),rg 7 (.xop (.box 3) [(.t 3)]),rg 8 (.mov (.c (.b false)))])
 (.seq
 (.seq
 (.reg [rg 27 (.load (some 4) (.t 4)),rg 28 (.call 379 [(.t 27),(.c (.i .i64 12)),(.c (.i .i64 2))]),mv 29 28,gd 30 29 false (.load (some 11) (.t 5)),gd 31 29 false (.call 385 [(.t 30)]),rg 32 (.pick (.t 29) (.c (.b true)) (.t 31)),mv 33 32,gd 34 33 false (.load (some 5) (.t 6)),gd 35 33 false (.call 380 [(.t 34),(.c (.i .i64 6)),(.c (.i .i64 2))]),rg 36 (.pick (.t 33) (.c (.b true)) (.t 35)),mv 37 36,gd 38 37 false (.load (some 3) (.t 7)),gd 39 37 false (.call 247 [(.t 38),(.c (.i .i64 2))]),rg 40 (.pick (.t 37) (.c (.b true)) (.t 39))])
 (.cond (.t 40)
 (.seq
 (.reg [rg 41 (.call 386 []),mv 8 41])
 (.pre (.norm false [8]) .ret))
 .skip))
 (.seq
 (.reg [rg 42 (.load (some 4) (.t 4)),rg 43 (.call 382 [(.t 42)]),rg 9 (.alloc [(.sl [] .nl),(.sl [] .nl),(.i .i64 0),(.i .i64 0)]),so (.store 4 (.t 9) (.t 43))])
 (.seq
 (.reg [rg 44 (.fad 0 (.t 5)),rg 45 (.load (some 5) (.t 44)),rg 46 (.call 383 [(.t 45)]),rg 10 (.alloc [(.b false),(.sl [] .nl),(.sl [] .nl),(.sl [] .nl),(.sl [] .nl)]),so (.store 5 (.t 10) (.t 46))])
 (.seq
 (.reg [rg 47 (.load (some 3) (.t 7)),rg 48 (.call 248 [(.t 47)]),rg 11 (.alloc [(.b false),(.sl [] .nl),(.sl [] .nl)]),so (.store 3 (.t 11) (.t 48))])
 (.seq
 (.draw [⟨rg 50 (.fad 5 (.t 5)),0,1⟩,⟨rg 51 (.load (some 5) (.t 50)),0,1⟩,⟨rg 52 (.call 383 [(.t 51)]),0,1⟩,⟨rg 53 (.load (some 3) (.t 11)),0,1⟩,⟨rg 54 (.load (some 5) (.t 6)),0,1⟩,⟨rg 55 (.call 383 [(.t 54)]),0,1⟩,⟨rg 56 (.call 387 [(.t 52),(.t 53),(.t 55)]),0,1⟩,⟨mv 49 56,0,1⟩,⟨rg 57 (.ext (.t 49) 0),0,1⟩,⟨rg 58 (.ext (.t 49) 1),0,2⟩,⟨rg 12 (.alloc [(.b false),(.sl [] .nl),(.sl [] .nl),(.sl [] .nl),(.sl [] .nl)]),0,1⟩,⟨so (.store 5 (.t 12) (.t 57)),1,2⟩,⟨mv 13 58,2,2⟩])
 (.seq
 (.draw [⟨rg 60 (.load (some 4) (.t 9)),0,1⟩,⟨rg 61 (.load (some 5) (.t 10)),0,1⟩,⟨rg 62 (.fad 5 (.t 5)),0,1⟩,⟨rg 63 (.load (some 5) (.t 62)),0,1⟩,⟨rg 64 (.call 383 [(.t 63)]),0,1⟩,⟨rg 65 (.call 388 [(.t 60),(.t 61),(.t 64),(.c (.i .i64 1500))]),0,1⟩,⟨mv 59 65,0,1⟩,⟨rg 66 (.ext (.t 59) 0),0,1⟩,⟨rg 67 (.ext (.t 59) 1),0,1⟩,⟨rg 68 (.ext (.t 59) 2),0,1⟩,⟨rg 16 (.alloc [(.i .i64 0),(.i .i64 0),(.i .i64 0),(.i .i64 0)]),0,1⟩,⟨mv 14 66,1,1⟩,⟨mv 15 67,1,1⟩,⟨so (.store 4 (.t 16) (.t 68)),1,2⟩])
 (.seq
 (.draw [⟨rg 70 (.load (some 4) (.t 9)),0,1⟩,⟨rg 71 (.load (some 5) (.t 10)),0,1⟩,⟨rg 72 (.load (some 5) (.t 6)),0,1⟩,⟨rg 73 (.call 383 [(.t 72)]),0,1⟩,⟨rg 74 (.call 388 [(.t 70),(.t 71),(.t 73),(.c (.i .i64 1500))]),0,1⟩,⟨mv 69 74,0,1⟩,⟨rg 75 (.ext (.t 69) 0),0,1⟩,⟨rg 76 (.ext (.t 69) 1),0,1⟩,⟨rg 77 (.ext (.t 69) 2),0,1⟩,⟨rg 19 (.alloc [(.i .i64 0),(.i .i64 0),(.i .i64 0),(.i .i64 0)]),0,1⟩,⟨mv 17 75,1,1⟩,⟨mv 18 76,1,1⟩,⟨so (.store 4 (.t 19) (.t 77)),1,2⟩])
 (.seq
 (.reg [rg 79 (.load (some 4) (.t 9)),rg 80 (.load (some 5) (.t 10)),rg 81 (.load (some 5) (.t 12)),rg 82 (.call 388 [(.t 79),(.t 80),(.t 81),(.c (.i .i64 1500))]),mv 78 82,rg 83 (.ext (.t 78) 0),rg 84 (.ext (.t 78) 1),rg 85 (.ext (.t 78) 2),rg 22 (.alloc [(.i .i64 0),(.i .i64 0),(.i .i64 0),(.i .i64 0)]),mv 20 83,mv 21 84,so (.store 4 (.t 22) (.t 85))])
 (.seq
 (.reg [rg 87 (.load (some 4) (.t 9)),rg 88 (.load (some 5) (.t 10)),rg 89 (.call 389 [(.t 87),(.t 88),(.c (.i .i64 1500))]),mv 86 89,rg 90 (.ext (.t 86) 0),rg 91 (.ext (.t 86) 1),rg 24 (.alloc [(.i .i64 0),(.i .i64 0),(.i .i64 0),(.i .i64 0)]),mv 23 90,so (.store 4 (.t 24) (.t 91))])
 (.seq
 (.seq
 (.reg [mv 92 13,rg 93 (.un .not (.t 92)),mv 94 93,gd 95 94 false (.load (some 4) (.t 16)),gd 96 94 false (.build [(.i .i64 0),(.i .i64 0),(.i .i64 0),(.i .i64 0)] []),gd 97 94 false (.eqs true [(0,.int),(1,.int),(2,.int),(3,.int)] (.t 95) (.t 96)),rg 98 (.pick (.t 94) (.c (.b true)) (.t 97)),mv 99 98,gd 100 99 false (.load (some 4) (.t 19)),gd 101 99 false (.build [(.i .i64 0),(.i .i64 0),(.i .i64 0),(.i .i64 0)] []),gd 102 99 false (.eqs true [(0,.int),(1,.int),(2,.int),(3,.int)] (.t 100) (.t 101)),rg 103 (.pick (.t 99) (.c (.b true)) (.t 102)),mv 104 103,gd 105 104 false (.load (some 4) (.t 22)),gd 106 104 false (.build [(.i .i64 0),(.i .i64 0),(.i .i64 0),(.i .i64 0)] []),gd 107 104 false (.eqs true [(0,.int),(1,.int),(2,.int),(3,.int)] (.t 105) (.t 106)),rg 108 (.pick (.t 104) (.c (.b true)) (.t 107))])
 (.cond (.t 108)
 (.seq
 (.reg [rg 109 (.call 386 []),mv 8 109])
 (.pre (.norm false [8]) .ret))
 .skip))
 (.seq
 (.reg [rg 111 (.load (some 3) (.t 11)),mv 112 15,rg 113 (.call 269 [(.t 111),(.t 112)]),mv 114 18,rg 115 (.bsl 1 [(.sl [] .nl)] 2 [(0,(.t 113)),(1,(.t 114))]),rg 116 (.call 267 [(.t 115)]),mv 110 116,rg 117 (.ext (.t 110) 0),rg 118 (.ext (.t 110) 1),mv 25 117,mv 26 118])
 (.seq
 (.reg [mv 119 26,mv 120 119,gd 121 120 true (.mov (.t 21)),gd 122 120 true (.mov (.t 25)),gd 123 120 true (.call 265 [(.t 121),(.t 122)]),rg 124 (.pick (.t 120) (.t 123) (.c (.b false))),mv 125 124,gd 126 125 true (.mov (.t 20)),gd 127 125 true (.mov (.t 14)),gd 128 125 true (.call 265 [(.t 126),(.t 127)]),rg 129 (.pick (.t 125) (.t 128) (.c (.b false))),mv 130 129,gd 131 130 true (.mov (.t 23)),gd 132 130 true (.mov (.t 14)),gd 133 130 true (.call 265 [(.t 131),(.t 132)]),rg 134 (.pick (.t 130) (.t 133) (.c (.b false))),mv 135 134,gd 136 135 true (.load (some 4) (.t 24)),gd 137 135 true (.build [(.i .i64 0),(.i .i64 0),(.i .i64 0),(.i .i64 0)] []),gd 138 135 true (.eqs false [(0,.int),(1,.int),(2,.int),(3,.int)] (.t 136) (.t 137)),rg 139 (.pick (.t 135) (.t 138) (.c (.b false))),mv 140 139,gd 141 140 true (.call 386 []),rg 142 (.pick (.t 140) (.t 141) (.c (.b false))),mv 8 142])
 (.pre (.norm false [8]) .ret))))))))))))))
def b386:AX:=
 (.seq
 (.reg [rg 0 (.mov (.c (.b false)))])
 (.seq
 (.reg [rg 7 (.build [(.i .i64 0),(.i .i64 0),(.i .i64 0),(.b false),(.sl [] .nl),(.sl [] .nl)] [(0,1,(.c (.i .i64 3)))]),rg 8 (.build [(.i .i64 0),(.i .i64 0),(.i .i64 0),(.b false),(.sl [] .nl),(.sl [] .nl)] [(0,1,(.c (.i .i64 11))),(2,1,(.c (.i .i64 2)))]),rg 9 (.bsl 6 [(.i .i64 0),(.i .i64 0),(.i .i64 0),(.b false),(.sl [] .nl),(.sl [] .nl)] 2 [(0,(.t 7)),(1,(.t 8))]),rg 10 (.bsl 1 [(.i .i64 0)] 1 [(0,(.c (.i .i64 1)))]),rg 11 (.build [(.sl [] .nl),(.sl [] .nl),(.i .i64 0),(.i .i64 0)] [(0,1,(.t 9)),(1,1,(.t 10)),(2,1,(.c (.i .i64 1)))]),rg 1 (.alloc [(.sl [] .nl),(.sl [] .nl),(.i .i64 0),(.i .i64 0)]),so (.store 4 (.t 1) (.t 11))])
 (.seq
 (.reg [rg 12 (.call 205 [(.c (.i .i64 3))]),rg 13 (.bsl 3 [(.b false),(.sl [] .nl),(.sl [] .nl)] 1 [(0,(.t 12))]),rg 14 (.build [(.b false),(.sl [] .nl),(.sl [] .nl),(.sl [] .nl),(.sl [] .nl)] [(3,1,(.t 13))]),rg 2 (.alloc [(.b false),(.sl [] .nl),(.sl [] .nl),(.sl [] .nl),(.sl [] .nl)]),so (.store 5 (.t 2) (.t 14))])
 (.seq
 (.reg [rg 15 (.call 205 [(.c (.i .i64 1))]),rg 16 (.bsl 3 [(.b false),(.sl [] .nl),(.sl [] .nl)] 1 [(0,(.t 15))]),rg 17 (.build [(.b false),(.sl [] .nl),(.sl [] .nl),(.sl [] .nl),(.sl [] .nl)] [(3,1,(.t 16))]),rg 3 (.alloc [(.b false),(.sl [] .nl),(.sl [] .nl),(.sl [] .nl),(.sl [] .nl)]),so (.store 5 (.t 3) (.t 17))])
 (.seq
 (.reg [rg 19 (.load (some 4) (.t 1)),rg 20 (.load (some 5) (.t 2)),rg 21 (.load (some 5) (.t 3)),rg 22 (.call 388 [(.t 19),(.t 20),(.t 21),(.c (.i .i64 100))]),mv 18 22,rg 23 (.ext (.t 18) 0),rg 24 (.ext (.t 18) 1),rg 25 (.ext (.t 18) 2),rg 6 (.alloc [(.i .i64 0),(.i .i64 0),(.i .i64 0),(.i .i64 0)]),mv 4 23,mv 5 24,so (.store 4 (.t 6) (.t 25))])
 (.seq
 (.reg [mv 26 4,rg 27 (.call 274 [(.t 26)]),rg 28 (.bin .eql (.t 27) (.c (.s [57]))),mv 29 28,gd 30 29 true (.mov (.t 5)),gd 31 29 true (.call 274 [(.t 30)]),gd 32 29 true (.bin .eql (.t 31) (.c (.s [54]))),rg 33 (.pick (.t 29) (.t 32) (.c (.b false))),mv 34 33,gd 35 34 true (.load (some 4) (.t 6)),gd 36 34 true (.build [(.i .i64 0),(.i .i64 0),(.i .i64 0),(.i .i64 0)] []),gd 37 34 true (.eqs false [(0,.int),(1,.int),(2,.int),(3,.int)] (.t 35) (.t 36)),rg 38 (.pick (.t 34) (.t 37) (.c (.b false))),mv 0 38])
 (.pre (.norm false [0]) .ret)))))))
def b387:AX:=
 (.seq
 (.reg [rg 3 (.xop (.box 5) [(.t 0)]),rg 4 (.xop (.box 3) [(.t 1)]),rg 5 (.xop (.box 5) [(.t 2)]),rg 6 (.alloc [(.b false),(.sl [] .nl),(.sl [] .nl),(.sl [] .nl),(.sl [] .nl)]),rg 7 (.mov (.c (.b false)))])
 (.seq
 (.drawT [rg 13 (.load (some 3) (.t 4)),rg 14 (.fad 3 (.t 3)),rg 15 (.load none (.t 14)),rg 16 (.call 269 [(.t 13),(.t 15)]),rg 17 (.fad 3 (.t 5)),rg 18 (.load none (.t 17)),rg 19 (.bsl 1 [(.sl [] .nl)] 2 [(0,(.t 16)),(1,(.t 18))]),rg 20 (.call 267 [(.t 19)]),mv 12 20,rg 21 (.ext (.t 12) 0),rg 22 (.ext (.t 12) 1),mv 8 21]
 [mv 9 22])
 (.seq
 (.drawT [rg 24 (.load (some 3) (.t 4)),rg 25 (.fad 4 (.t 3)),rg 26 (.load none (.t 25)),rg 27 (.call 269 [(.t 24),(.t 26)]),rg 28 (.fad 4 (.t 5)),rg 29 (.load none (.t 28)),rg 30 (.bsl 1 [(.sl [] .nl)] 2 [(0,(.t 27)),(1,(.t 29))]),rg 31 (.call 267 [(.t 30)]),mv 23 31,rg 32 (.ext (.t 23) 0),rg 33 (.ext (.t 23) 1),mv 10 32]
 [mv 11 33])
 (.seq
 (.draw [⟨rg 34 (.load (some 3) (.t 4)),0,0⟩,⟨rg 35 (.fad 0 (.t 3)),0,0⟩,⟨rg 36 (.load (some 3) (.t 35)),0,0⟩,⟨rg 37 (.call 217 [(.t 34),(.t 36)]),0,0⟩,⟨rg 38 (.fad 0 (.t 5)),0,0⟩,⟨rg 39 (.load (some 3) (.t 38)),0,0⟩,⟨rg 40 (.call 215 [(.t 37),(.t 39)]),0,0⟩,⟨mv 41 8,0,0⟩,⟨mv 42 10,0,0⟩,⟨rg 43 (.build [(.b false),(.sl [] .nl),(.sl [] .nl),(.sl [] .nl),(.sl [] .nl)] [(0,3,(.t 40)),(3,1,(.t 41)),(4,1,(.t 42))]),0,0⟩,⟨mv 44 9,0,0⟩,⟨mv 45 44,0,0⟩,⟨gd 46 45 true (.mov (.t 11)),0,1⟩,⟨rg 47 (.pick (.t 45) (.t 46) (.c (.b false))),0,1⟩,⟨so (.store 5 (.t 6) (.t 43)),0,1⟩,⟨mv 7 47,1,1⟩])
 (.pre (.norm false [6,7]) .ret)))))
class CLaw27 (T:Tbl):Prop where
 h373:T 373=some ⟨4,143,[.t 8],b373,none,false⟩
 h386:T 386=some ⟨0,39,[.t 0],b386,none,false⟩
 h387:T 387=some ⟨3,48,[.cell 6 (some 5),.t 7],b387,none,false⟩
section
variable{T:Tbl}[CLaw27 T]{d:Option Nat}{st:St}{xs:List AV}{ps:List Opd}{e:Env}{h:Heap}{ol:List Heap}
theorem f373(xs:List AV)(hn:xs.length=4):callF T 373 xs=retF [.t 8] false (evX (orc T) T 0 b373 ⟨argEnv xs,[],1⟩):=zab CLaw27.h373 hn
@[simp] theorem x386:callX (orc T) T 386 xs d st=cP T 386 false xs d st:=zaa CLaw27.h386
theorem f386(xs:List AV)(hn:xs.length=0):callF T 386 xs=retF [.t 0] false (evX (orc T) T 0 b386 ⟨argEnv xs,[],1⟩):=zab CLaw27.h386 hn
@[simp] theorem y387:opD (orc T) T (.call 387 ps) e h ol=dP T 387 false ps e:=zao CLaw27.h387
theorem f387(xs:List AV)(hn:xs.length=3):callF T 387 xs=retF [.cell 6 (some 5),.t 7] false (evX (orc T) T 0 b387 ⟨argEnv xs,[],1⟩):=zab CLaw27.h387 hn
end
section
open Go.RowKit
def opU:AOp→List Nat
 | .call u _=>[u]
 | .ifc k _=>[1000000+k]
 | .inv _ k u _ _=>[1000000+k,u]
 | .xop (.mkf k) _ | .xop (.mkv k) _=>[1000000+k]
 | _=>[]
def cXs:AX→List Nat
 | .reg l=>l.flatMap fun o=>opU o.op
 | .draw l=>l.flatMap fun o=>opU o.ao.op
 | .drawT hd tl=>(hd.flatMap fun o=>opU o.op)++tl.flatMap fun o=>opU o.op
 | .drawM hd tl=>(hd.flatMap fun o=>opU o.op)++tl.flatMap fun o=>opU o.op
 | .seq a b=>cXs a++cXs b
 | .cond _ x y=>cXs x++cXs y
 | .block _ c | .loop c | .note c _ | .pre _ c | .scope c | .lp _ _ c _=>cXs c
 | _=>[]
structure Agr (R:Nat→Bool) (T T':Tbl) (O O':Orc):Prop where
 tbl:∀u,R u=true→T u=T' u
 call:∀u xs hb,R u=true→O.call u xs hb=O'.call u xs hb
 loop:∀k c st,(∀u∈cXs c,R u=true)→O.loop k c st=O'.loop k c st
section
variable{R:Nat→Bool}{T T':Tbl}{O O':Orc}
theorem zkd(h:Agr R T T' O O'){u:Nat}(hu:R u=true){xs:List AV}{d:Option Nat}{st:St}:callX O T u xs d st=callX O' T' u xs d st:=by
 unfold callX
 rw[h.tbl u hu]
 simp only[h.call u _ _ hu]
theorem zwu(h:Agr R T T' O O'){op:AOp}(hu:∀u∈opU op,R u=true){d:Option Nat}{st:St}:opX O T op d st=opX O' T' op d st:=by
 cases op<;>simp only[opX]
 case call u args=>exact zkd h (hu _ (by simp[opU]))
 case ifc k x=>unfold tyNum;rw[h.tbl _ (hu _ (by simp[opU]))]
 case inv nm k u r args=>
  have e1:tyNum T k=tyNum T' k:=by unfold tyNum;rw[h.tbl _ (hu _ (by simp[opU]))]
  have e2:methsT T k=methsT T' k:=by unfold methsT;rw[h.tbl _ (hu _ (by simp[opU]))]
  have e3:funT T k=funT T' k:=by unfold funT;rw[h.tbl _ (hu _ (by simp[opU]))]
  rw[e1,e2,e3]
  simp only[zkd h (hu u (by simp[opU]))]
 case xop k xs=>
  cases k<;>simp only
  all_goals rename_i k
  all_goals
   have e1:tyNum T k=tyNum T' k:=by unfold tyNum;rw[h.tbl _ (hu _ (by simp[opU]))]
   rw[e1]
theorem zq0(h:Agr R T T' O O'){o:AO}(hu:∀u∈opU o.op,R u=true){st:St}:stepX O T o st=stepX O' T' o st:=by
 unfold stepX gX
 simp only[zwu h hu]
theorem zf0(h:Agr R T T' O O'):∀(l:List AO),(∀o∈l,∀u∈opU o.op,R u=true)→∀st,runX O T l st=runX O' T' l st
 | [],_,st=>rfl
 | o::l,hu,st=>by
  simp only[runX]
  rw[zq0 h (hu o List.mem_cons_self)]
  congr 1
  funext s
  exact zf0 h l (fun o ho=>hu o (List.mem_cons_of_mem _ ho)) s
theorem zwv(h:Agr R T T' O O'){op:AOp}(hu:∀u∈opU op,R u=true){e:Env}{hp:Heap}{older:List Heap}:opD O T op e hp older=opD O' T' op e hp older:=by
 by_cases hap:∃z x0 y,op=.app z x0 y
 ·obtain⟨z,x0,y,rfl⟩:=hap
  by_cases hc:x0=.c (.sl [] .nl)
  ·subst hc;rfl
  ·rw[zl4 hc,zl4 hc]
 cases op<;>(try exact absurd ⟨_,_,_,rfl⟩ hap)<;>simp only[opD]
 case call u args=>
  rw[h.tbl _ (hu _ (by simp[opU]))]
  simp only[h.call _ _ _ (hu _ (show u∈_ by simp[opU]))]
 case ifc k x=>unfold tyNum;rw[h.tbl _ (hu _ (by simp[opU]))]
 case inv nm k u r args=>
  have e1:tyNum T k=tyNum T' k:=by unfold tyNum;rw[h.tbl _ (hu _ (by simp[opU]))]
  have e2:methsT T k=methsT T' k:=by unfold methsT;rw[h.tbl _ (hu _ (by simp[opU]))]
  rw[e1,e2,h.tbl u (hu u (by simp[opU]))]
  simp only[h.call u _ _ (hu u (by simp[opU]))]
theorem zq1(h:Agr R T T' O O'){o:AO}(hu:∀u∈opU o.op,R u=true){e:Env}{hp:Heap}{older:List Heap}:qX O T o e hp older=qX O' T' o e hp older:=by
 unfold qX
 simp only[zwv h hu]
theorem zke(h:Agr R T T' O O'):∀(l:List DO),(∀o∈l,∀u∈opU o.ao.op,R u=true)→∀e hp clk older pend,drawX O T l e hp clk older pend=drawX O' T' l e hp clk older pend
 | [],_,e,hp,clk,older,pend=>rfl
 | o::l,hu,e,hp,clk,older,pend=>by
  have ih:=zke h l (fun o ho=>hu o (List.mem_cons_of_mem _ ho))
  simp only[drawX]
  rw[zq1 h (hu o List.mem_cons_self)]
  simp only[ih]
theorem zkf(h:Agr R T T' O O')(tl:List AO)(ht:∀o∈tl,∀u∈opU o.op,R u=true):∀(l:List AO),(∀o∈l,∀u∈opU o.op,R u=true)→∀e hp clk,headX O T tl l e hp clk=headX O' T' tl l e hp clk
 | [],_,e,hp,clk=>zf0 h tl ht _
 | o::l,hu,e,hp,clk=>by
  have ih:=zkf h tl ht l (fun o ho=>hu o (List.mem_cons_of_mem _ ho))
  simp only[headX]
  rw[zq1 h (hu o List.mem_cons_self)]
  simp only[ih]
theorem zq2(h:Agr R T T' O O'){u:Nat}(hu:R u=true){xs:List AV}{d clk:Nat}:callM O T u xs d clk=callM O' T' u xs d clk:=by
 unfold callM
 rw[h.tbl u hu]
 simp only[h.call u _ _ hu]
theorem zkg(h:Agr R T T' O O')(tl:List AO)(ht:∀o∈tl,∀u∈opU o.op,R u=true)(h0:Heap)(c0:Nat):∀(l:List AO),(∀o∈l,∀u∈opU o.op,R u=true)→∀e hp clk,headM O T tl h0 c0 l e hp clk=headM O' T' tl h0 c0 l e hp clk
 | [],_,e,hp,clk=>zf0 h tl ht _
 | o::l,hu,e,hp,clk=>by
  have ih:=zkg h tl ht h0 c0 l (fun o ho=>hu o (List.mem_cons_of_mem _ ho))
  simp only[headM]
  rw[zq1 h (hu o List.mem_cons_self)]
  simp only[ih]
  cases hm:o.op.maker with
  | true=>rfl
  | false=>
   cases hst:o.op.isStore with
   | true=>rfl
   | false=>
   cases hl:o.op.lentN with
   | none=>rfl
   | some ua=>
    have hua:R ua.1=true:=hu o List.mem_cons_self _ (by rw[zh8 hl];simp[opU])
    simp only[zq2 h hua]
theorem zcg(h:Agr R T T' O O')(k:Nat):∀(c:AX),(∀u∈cXs c,R u=true)→∀st,evX O T k c st=evX O' T' k c st
 | .skip,_,st=>rfl
 | .reg l,hu,st=>by
  simp only[evX]
  rw[zf0 h l fun o ho u hou=>hu u (List.mem_flatMap.2 ⟨o,ho,hou⟩)]
 | .draw l,hu,st=>by
  simp only[evX]
  rw[zke h l fun o ho u hou=>hu u (List.mem_flatMap.2 ⟨o,ho,hou⟩)]
 | .drawT hd tl,hu,st=>by
  simp only[evX]
  rw[zkf h tl (fun o ho u hou=>hu u (List.mem_append_right _ (List.mem_flatMap.2 ⟨o,ho,hou⟩))) hd (fun o ho u hou=>hu u (List.mem_append_left _ (List.mem_flatMap.2 ⟨o,ho,hou⟩)))]
 | .drawM hd tl,hu,st=>by
  simp only[evX]
  rw[zkg h tl (fun o ho u hou=>hu u (List.mem_append_right _ (List.mem_flatMap.2 ⟨o,ho,hou⟩))) _ _ hd (fun o ho u hou=>hu u (List.mem_append_left _ (List.mem_flatMap.2 ⟨o,ho,hou⟩)))]
 | .bad,_,st=>rfl
 | .prim f,_,st=>rfl
 | .seq a b,hu,st=>by
  simp only[evX]
  rw[zcg h k a fun u hm=>hu u (List.mem_append_left _ hm)]
  congr 1
  funext r
  rw[zcg h k b fun u hm=>hu u (List.mem_append_right _ hm)]
 | .cond c x y,hu,st=>by
  simp only[evX]
  rw[zcg h k x fun u hm=>hu u (List.mem_append_left _ hm),zcg h k y fun u hm=>hu u (List.mem_append_right _ hm)]
 | .block id c,hu,st=>by
  simp only[evX]
  rw[zcg h k c hu]
 | .loop c,hu,st=>h.loop k c st hu
 | .exit id,_,st=>rfl
 | .ret,_,st=>rfl
 | .note c g,hu,st=>by
  simp only[evX]
  rw[zcg h k c hu]
 | .pre g c,hu,st=>by
  simp only[evX]
  congr 1
  funext s
  exact zcg h k c hu s
 | .scope c,hu,st=>by
  simp only[evX]
  exact zcg h k c hu st
 | .lp id g c g2,hu,st=>by
  simp only[evX,h.loop k c _ hu]
theorem zq3(hc:∀u af,R u=true→T u=some af→∀v∈cXs af.body,R v=true)(h:Agr R T T' O O'):Agr R T T' (nextO T O) (nextO T' O') where
 tbl:=h.tbl
 call u xs hb hu:=by
  simp only[nextO]
  rw[←h.tbl u hu]
  cases ht:T u with
  | none=>rfl
  | some af=>
   simp only
   rw[zcg h hb.length af.body (hc u af hu ht)]
 loop k c st hu:=by
  simp only[nextO]
  rw[zcg h k c hu]
  congr 1
  funext r
  rw[h.loop k c _ hu]
theorem zix(ht:∀u,R u=true→T u=T' u)(hc:∀u af,R u=true→T u=some af→∀v∈cXs af.body,R v=true):∀n,Agr R T T' (orcN T n) (orcN T' n)
 | 0=>⟨ht,fun _ _ _ _=>rfl,fun _ _ _ _=>rfl⟩
 | n+1=>zq3 hc (zix ht hc n)
theorem zww(ht:∀u,R u=true→T u=T' u)(hc:∀u af,R u=true→T u=some af→∀v∈cXs af.body,R v=true):Agr R T T' (orc T) (orc T'):=by
 refine⟨ht,fun u xs hb hu=>?_,fun k c st hu=>?_⟩
 ·simp only[orc]
  congr 1
  funext n
  exact(zix ht hc n).call u xs hb hu
 ·simp only[orc]
  congr 1
  funext n
  exact(zix ht hc n).loop k c st hu
end
theorem zda{l:List (Nat×AFx)}{u:Nat}{af:AFx}(h:l.lookup u=some af):(u,af)∈l:=by
 induction l with
 | nil=>cases h
 | cons q l ih=>
  obtain⟨q1,q2⟩:=q
  simp only[List.lookup_cons]at h
  split at h
  ·rename_i he
   have:=eq_of_beq he
   subst this
   cases h
   exact List.mem_cons_self
  ·exact List.mem_cons_of_mem _ (ih h)
structure Part (l l':List (Nat×AFx)):Prop where
 sub:∀p∈l',l.lookup p.1=some p.2
 clo:(l'.all fun p=>(cXs p.2.body).all fun v=>(l'.lookup v).isSome || (l.lookup v).isNone)=true
theorem Part.agr{l l':List (Nat×AFx)}(h:Part l l'):Agr (fun u=>(l'.lookup u).isSome || (l.lookup u).isNone) (fun u=>l.lookup u) (fun u=>l'.lookup u) (orc fun u=>l.lookup u) (orc fun u=>l'.lookup u):=by
 refine zww (fun v hv=>?_) (fun v a hv hva w hw=>?_)
 ·cases hv2:l'.lookup v with
  | none=>
   simp only[hv2]at hv
   cases hv3:l.lookup v with
   | none=>rfl
   | some a=>rw[hv3]at hv;cases hv
  | some a=>exact h.sub _ (zda hv2)
 ·cases hv2:l'.lookup v with
  | none=>simp only[hv2,hva]at hv;cases hv
  | some b=>
   have hb:=zda hv2
   have h1:=h.sub _ hb
   simp only at hva h1
   rw[hva]at h1
   cases h1
   exact List.all_eq_true.1 (List.all_eq_true.1 h.clo _ hb) w hw
theorem Part.ev{l l':List (Nat×AFx)}(h:Part l l'){c:AX}(hc:((cXs c).all fun v=>(l'.lookup v).isSome)=true){st:St}{r:Option (Ex×St)}
  (he:evX (orc fun u=>l.lookup u) (fun u=>l.lookup u) 0 c st=r):evX (orc fun u=>l'.lookup u) (fun u=>l'.lookup u) 0 c st=r:=by
 rw[←zcg h.agr 0 c (fun v hv=>by rw[List.all_eq_true.1 hc v hv];rfl) st]
 exact he
theorem Part.call{l l':List (Nat×AFx)}(h:Part l l'){u:Nat}(hu:(l'.lookup u).isSome=true){xs:List AV}{r:Option AV}(he:callF (fun u=>l.lookup u) u xs=r):callF (fun u=>l'.lookup u) u xs=r:=by
 rw[←he]
 unfold callF
 rw[h.agr.call u xs [] (by rw[hu];rfl)]
end
end Go.Ab