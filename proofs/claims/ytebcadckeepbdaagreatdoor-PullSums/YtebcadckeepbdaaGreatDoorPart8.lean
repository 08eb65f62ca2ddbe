/-
  PullSums holds of the given program for every input: the sum of any two gradients, or that there is none, and gradients of noughts, are as the document has them.
  Conditions: none beyond those that the theorems state. (Part 8.)
-/
import Derived.Test.YtebcadckeepbdaaGreatDoorPart7

set_option linter.unusedSectionVars false
set_option linter.unusedVariables false
set_option linter.unusedSimpArgs false
set_option linter.unnecessarySimpa false

section
namespace Go.Proofs.YtebcadckeepbdaaGreatDoor
open Go Go.Ab Go.ChangeShapes Go.WideShapes Go.ChangeAt Go.RowKit
theorem pullSums_all(xs:List AV)(h:OkArgs [(true,tyP),(true,tyP),(true,repTy 2 (.int .i64))] xs):PCall Tryz.prog 3 xs (·=.b true):=by
 obtain⟨x,l0,rfl,hx,y,l1,rfl,hy,z,l2,rfl,hz,rfl⟩:=h
 obtain⟨ax,ex⟩:=zld hx
 obtain⟨ay,ey⟩:=zld hy
 obtain⟨az,bz_,rfl,cz,dz⟩:=zvc hz
 exact zpm (u:=374) (af:=row374) tab_all lTab_part Tryz.mixed (by kernel_rfl) rfl (zpx (T:=tab) ax ay az bz_) (by simp[ex,ey,wkA,wkR])
set_option maxRecDepth 100000 in
theorem pullSums_lifted(os:Os)(started:os.Started)(H:Type)(enc:TypeId×Value→H) :
  ReturnsInHanded {} Tryz.checked os 3 .any (fun w args=>(Rows.pullSumsSpec.pre enc Tryz.prog Tryz.f3 [] false w args∧laidMetH Tryz.prog laid2 w)∧sizedMet enc Tryz.prog Tryz.f3 (OpenSpec.ofChange Rows.pullSumsSpec) false w args)
   (Rows.pullSumsSpec.post enc Tryz.prog Tryz.f3 false true false false):=by
 refine returnsInHanded_of_change_and (C:=Tryz.checked) (X:=fun w _=>laidMetH Tryz.prog laid2 w) (fun _ _ _ hh h=>h.of_heap hh) Tryz.own started (by kernel_rfl) Tryz.func3
  (ChangeSpec.witness_shaped (enc:=enc) (C:=Tryz.checked) (os:=os) (X:=fun w _=>laidMetH Tryz.prog laid2 w) false (laidWorld os) #[.agg #[.bool false,.slice none 0 0,.slice none 0 0,.slice none 0 0,.slice none 0 0],.agg #[.bool false,.slice none 0 0,.slice none 0 0,.slice none 0 0,.slice none 0 0],.agg #[.int .i64 0,.int .i64 0]] 8 rfl (laid_shaped os) (by kernel_rfl) (by kernel_rfl) (by kernel_rfl) (laid_met os _)) ?_
 intro W base args ds gs before hval hW _ _ hL _
 exact zu2 (P:=Tryz.prog) (m:=8) (tb:=4) (tys:=[(true,tyP),(true,tyP),(true,repTy 2 (.int .i64))]) rfl (by kernel_rfl) Tryz.laidOut (by kernel_rfl) (by kernel_rfl) Tryz.underlying4
  (fun ds hd=>by
   match ds,hd with
   | [d0,d1,d2],_=>rfl) pullSums_all hval hW
theorem pullSums_inPlace:Tryz.prog.inPlace 3=Rows.pullSumsRow.inPlace:=by kernel_rfl
theorem pullSums_unfollowed:Tryz.prog.unfollowed 3=Rows.pullSumsRow.unfollowed:=by kernel_rfl
theorem pullSums_recurses:Tryz.prog.recurses 3=Rows.pullSumsRow.recurses:=by kernel_rfl
theorem pullSums_named:Tryz.prog.varsNamed 3=Rows.pullSumsRow.named:=by kernel_rfl
theorem pullSums_facts:joinedFacts Tryz.prog 3 Tryz.f3 Rows.pullSumsSpec Rows.pullSumsRow=true:=by
 unfold joinedFacts
 rw[Tryz.laidOut,Tryz.rowed,Tryz.heard,Tryz.enters,Tryz.keys,Tryz.lifts,Tryz.makes,pullSums_inPlace,pullSums_unfollowed,pullSums_recurses,pullSums_named]
 kernel_rfl
theorem pullSums_holds:Rows.PullSumsSaid:=
 OpenClaim.holds_of_wide 3 Tryz.f3 rfl rfl rfl rfl rfl rfl rfl ⟨rfl,rfl,rfl,rfl,rfl⟩ rfl rfl rfl rfl rfl (by kernel_rfl) Tryz.func3 pullSums_facts
  (of_decide_eq_true (by kernel_rfl)) (by unfold Func.isWrapper;first | (rw[if_pos (by decide +kernel)];kernel_rfl) | (rw[if_neg (by decide +kernel)];exact⟨rfl,rfl⟩))
  (fun os started H enc _=>pullSums_lifted os started H enc)
theorem pullSums_card:Rows.PullSumsCardSaid:=
 Claim7.holds_tied_plain_at .later [] [.data,.pinned] true (true,"191324999ea68451c7ff24b639687a48192ce50c6e793d68d47974f828f2231b") false
  pullSums_holds (fun _ h=>by cases h) (by kernel_rfl) (fun _ h=>by cases h) pullSums_row_tie rfl ⟨rfl,rfl⟩ (by kernel_rfl) rfl
  (fun f fn hf hfn=>by
   obtain rfl:f=3:=Option.some.inj ((show Tryz.prog.funcNamed Rows.pullSumsRow.func=some 3 by kernel_rfl).symm.trans hf) |>.symm
   obtain rfl:fn=Tryz.f3:=(Option.some.inj (Tryz.func3.symm.trans hfn)).symm
   exact⟨by kernel_rfl,fun j t ht=>by
    have hall:(Tryz.f3.params.toList.all fun u=>!Tryz.prog.wantsStandIn u)=true:=by kernel_rfl
    have hm:t∈Tryz.f3.params.toList:=by simpa using Array.mem_of_getElem? ht
    exact(show Tryz.prog.wantsStandIn t=false by simpa using List.all_eq_true.1 hall t hm)⟩)
  (by kernel_rfl)
#print axioms pullSums_card
end Go.Proofs.YtebcadckeepbdaaGreatDoor
end