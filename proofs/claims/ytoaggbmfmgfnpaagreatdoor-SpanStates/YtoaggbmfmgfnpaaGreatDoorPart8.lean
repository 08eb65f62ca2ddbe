/-
  For every problem, history, moment and number: the place of the moment, the span, and the state, or why there is none, are as the document has them: the function answers true
  Conditions: none beyond those that the theorems state. (Part 8: QhSpanStates.)
-/
import Derived.Test.YtoaggbmfmgfnpaaGreatDoorPart7

set_option linter.unusedSectionVars false
set_option linter.unusedVariables false
set_option linter.unusedSimpArgs false
set_option linter.unnecessarySimpa false

section
namespace Go.Proofs.YtoaggbmfmgfnpaaGreatDoor
open Go Go.Ab Go.ChangeShapes Go.WideShapes Go.ChangeAt Go.RowKit
theorem spanStates_all(xs:List AV)(h:Zjl [(true,Zn4),(true,Zn6),(true,tyF),(false,.int .i64)] xs):Za8 Tryz.prog 4 xs (·=.b true):=by
 obtain⟨x,l0,rfl,hx,y,l1,rfl,hy,z,l2,rfl,hz,u,l3,rfl,hu,rfl⟩:=h;obtain⟨ax,ex,bx_,cx⟩:=z2i hx;obtain⟨ay,ey⟩:=z2k hy;obtain⟨az,ez⟩:=z2l hz;obtain⟨au,rfl,bu_,cu⟩:=z6v hu;exact zt4 (u:=566) (af:=row566) tab_all lTab_part Tryz.mixed (by kernel_rfl) rfl (zoi (T:=tab) ax ay az au bx_ cx bu_ cu) (by simp[ex,ey,ez,wkA])
set_option maxRecDepth 100000 in
theorem spanStates_lifted(os:Os)(started:os.Started)(H:Type)(enc:TypeId×Value→H) :
  ReturnsInHanded {} Tryz.checked os 4 .any (fun w args=>(Rows.spanStatesSpec.pre enc Tryz.prog Tryz.f4 [] false w args∧laidMetH Tryz.prog laid2 w)∧sizedMet enc Tryz.prog Tryz.f4 (OpenSpec.ofChange Rows.spanStatesSpec) false w args)
   (Rows.spanStatesSpec.post enc Tryz.prog Tryz.f4 false true false false):=by
 refine returnsInHanded_of_change_and (C:=Tryz.checked) (X:=fun w _=>laidMetH Tryz.prog laid2 w) (fun _ _ _ hh h=>h.of_heap hh) Tryz.own started (by kernel_rfl) Tryz.func4
  (ChangeSpec.witness_shaped (enc:=enc) (C:=Tryz.checked) (os:=os) (X:=fun w _=>laidMetH Tryz.prog laid2 w) false (laidWorld os) #[.agg #[.slice none 0 0,.slice none 0 0,.int .i64 0,.int .i64 0,.string ⟨#[]⟩,.slice none 0 0,.slice none 0 0,.slice none 0 0,.slice none 0 0,.slice none 0 0,.int .i64 0],.agg #[.slice none 0 0,.bool false,.slice none 0 0,.slice none 0 0,.slice none 0 0],.agg #[.bool false,.slice none 0 0,.slice none 0 0],.int .i64 0] 8 rfl (laid_shaped os) (by kernel_rfl) (by kernel_rfl) (by kernel_rfl) (laid_met os _)) ?_
 intro W base args ds gs before hval hW _ _ hL _;exact z13 (P:=Tryz.prog) (m:=8) (tb:=4) (tys:=[(true,Zn4),(true,Zn6),(true,tyF),(false,.int .i64)]) rfl (by kernel_rfl) Tryz.laidOut (by kernel_rfl) (by kernel_rfl) Tryz.underlying4
  (fun ds hd=>by
   match ds,hd with
   | [d0,d1,d2,d3],_=>rfl) spanStates_all hval hW
theorem spanStates_inPlace:Tryz.prog.inPlace 4=Rows.spanStatesRow.inPlace:=by kernel_rfl
theorem spanStates_unfollowed:Tryz.prog.unfollowed 4=Rows.spanStatesRow.unfollowed:=by kernel_rfl
theorem spanStates_recurses:Tryz.prog.recurses 4=Rows.spanStatesRow.recurses:=by kernel_rfl
theorem spanStates_named:Tryz.prog.varsNamed 4=Rows.spanStatesRow.named:=by kernel_rfl
theorem spanStates_facts:joinedFacts Tryz.prog 4 Tryz.f4 Rows.spanStatesSpec Rows.spanStatesRow=true:=by
 unfold joinedFacts;rw[Tryz.laidOut,Tryz.rowed,Tryz.heard,Tryz.enters,Tryz.keys,Tryz.lifts,Tryz.makes,spanStates_inPlace,spanStates_unfollowed,spanStates_recurses,spanStates_named]
 kernel_rfl
theorem spanStates_holds:Rows.SpanStatesSaid:=
 OpenClaim.holds_of_wide 4 Tryz.f4 rfl rfl rfl rfl rfl rfl rfl ⟨rfl,rfl,rfl,rfl,rfl⟩ rfl rfl rfl rfl rfl (by kernel_rfl) Tryz.func4 spanStates_facts
  (of_decide_eq_true (by kernel_rfl)) (by unfold Func.isWrapper;first | (rw[if_pos (by decide +kernel)];kernel_rfl) | (rw[if_neg (by decide +kernel)];exact⟨rfl,rfl⟩))
  (fun os started H enc _=>spanStates_lifted os started H enc)
theorem spanStates_card:Rows.SpanStatesCardSaid:=
 Claim7.holds_tied_plain_at .later [] [.data,.pinned] true (true,"82818cb32d5d61b958ae020c36909c3b054024c081b31e6b5d168497a4db9a37") false
  spanStates_holds (fun _ h=>by cases h) (by kernel_rfl) (fun _ h=>by cases h) spanStates_row_tie rfl ⟨rfl,rfl⟩ (by kernel_rfl) rfl
  (fun f fn hf hfn=>by
   obtain rfl:f=4:=Option.some.inj ((show Tryz.prog.funcNamed Rows.spanStatesRow.func=some 4 by kernel_rfl).symm.trans hf) |>.symm;obtain rfl:fn=Tryz.f4:=(Option.some.inj (Tryz.func4.symm.trans hfn)).symm;exact⟨by kernel_rfl,fun j t ht=>by
    have hall:(Tryz.f4.params.toList.all fun u=>!Tryz.prog.wantsStandIn u)=true:=by kernel_rfl
    have hm:t∈Tryz.f4.params.toList:=by simpa using Array.mem_of_getElem? ht
    exact(show Tryz.prog.wantsStandIn t=false by simpa using Ym.1 hall t hm)⟩)
  (by kernel_rfl)
#print axioms spanStates_card
end Go.Proofs.YtoaggbmfmgfnpaaGreatDoor
end