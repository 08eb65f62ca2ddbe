/-
  retrospectlaw29.SlopeTrees answers true for every expression and every point: it returns normally with true, whatever they are.
  Conditions: none beyond those that the theorems state. (Part 14.)
-/
import Derived.Test.YtmojeopgpabkhaaGreatDoorPart13

set_option linter.unusedSectionVars false
set_option linter.unusedVariables false
set_option linter.unusedSimpArgs false
set_option linter.unnecessarySimpa false
set_option linter.defProp false

section
namespace Go.Proofs.YtmojeopgpabkhaaGreatDoor
open Go Go.Ab Go.ChangeShapes Go.WideShapes Go.ChangeAt Go.RowKit
theorem slopeTrees_all(xs:List AV)(h:Zj2 [(false,.sl tyN),(true,tyP)] xs):Zbq Tryz.prog 3 xs (·=.b true):=by
 obtain⟨x,l0,rfl,hx,y,l1,rfl,hy,rfl⟩:=h;obtain⟨ax,ex⟩:=z27 hx;obtain⟨ay,ey⟩:=zzf hy;exact zvo (u:=699) (af:=row699) tab_all lTab_part Tryz.mixed (by kernel_rfl) rfl (zr8 (T:=tab) ax ay) (by simp[ex,ey])
set_option maxRecDepth 100000 in
theorem slopeTrees_lifted(os:Os)(started:os.Started)(H:Type)(enc:TypeId×Value->H) :
  ReturnsInHanded {} Tryz.checked os 3 .any (fun w args=>(Rows.slopeTreesSpec.pre enc Tryz.prog Tryz.f3 [] false w args/\laidMetH Tryz.prog laid2 w)/\sizedMet enc Tryz.prog Tryz.f3 (OpenSpec.ofChange Rows.slopeTreesSpec) false w args)
   (Rows.slopeTreesSpec.post enc Tryz.prog Tryz.f3 false true false false):=by
 refine returnsInHanded_of_change_and (C:=Tryz.checked) (X:=fun w _=>laidMetH Tryz.prog laid2 w) (fun _ _ _ hh h=>h.of_heap hh) Tryz.own started (by kernel_rfl) Tryz.func3
  (ChangeSpec.witness_shaped (enc:=enc) (C:=Tryz.checked) (os:=os) (X:=fun w _=>laidMetH Tryz.prog laid2 w) false (laidWorld os) #[.slice none 0 0,.agg #[.bool false,.slice none 0 0,.slice none 0 0,.slice none 0 0,.slice none 0 0]] 8 rfl (laid_shaped os) (by kernel_rfl) (by kernel_rfl) (by kernel_rfl) (laid_met os _)) ?_
 intro W base args ds gs before hval hW _ _ hL _;exact z2v (P:=Tryz.prog) (m:=8) (tb:=4) (tys:=[(false,.sl tyN),(true,tyP)]) rfl (by kernel_rfl) Tryz.laidOut (by kernel_rfl) (by kernel_rfl) Tryz.underlying4
  (fun ds hd=>by
   match ds,hd with
   | [d0,d1],_=>rfl) slopeTrees_all hval hW
theorem slopeTrees_inPlace:Tryz.prog.inPlace 3=Rows.slopeTreesRow.inPlace:=by kernel_rfl
theorem slopeTrees_unfollowed:Tryz.prog.unfollowed 3=Rows.slopeTreesRow.unfollowed:=by kernel_rfl
theorem slopeTrees_recurses:Tryz.prog.recurses 3=Rows.slopeTreesRow.recurses:=by kernel_rfl
theorem slopeTrees_named:Tryz.prog.varsNamed 3=Rows.slopeTreesRow.named:=by kernel_rfl
theorem slopeTrees_facts:joinedFacts Tryz.prog 3 Tryz.f3 Rows.slopeTreesSpec Rows.slopeTreesRow=true:=by
 unfold joinedFacts;rw[Tryz.laidOut,Tryz.rowed,Tryz.heard,Tryz.enters,Tryz.keys,Tryz.lifts,Tryz.makes,slopeTrees_inPlace,slopeTrees_unfollowed,slopeTrees_recurses,slopeTrees_named]
 kernel_rfl
theorem slopeTrees_holds:Rows.SlopeTreesSaid:=
 OpenClaim.holds_of_wide 3 Tryz.f3 rfl rfl rfl rfl rfl rfl rfl ⟨rfl,rfl,rfl,rfl,rfl⟩ rfl rfl rfl rfl rfl (by kernel_rfl) Tryz.func3 slopeTrees_facts
  (of_decide_eq_true (by kernel_rfl)) (by unfold Func.isWrapper;first | (rw[if_pos (by decide +kernel)];kernel_rfl) | (rw[if_neg (by decide +kernel)];exact⟨rfl,rfl⟩))
  (fun os started H enc _=>slopeTrees_lifted os started H enc)
theorem slopeTrees_card:Rows.SlopeTreesCardSaid:=
 Claim7.holds_tied_plain_at .later [] [.data,.pinned] true (true,"686b03759bdcf531835d0ddf80f70dc1f1db583e1739e4b5f97a7ca764dcdae4") false
  slopeTrees_holds (fun _ h=>by cases h) (by kernel_rfl) (fun _ h=>by cases h) slopeTrees_row_tie rfl ⟨rfl,rfl⟩ (by kernel_rfl) rfl
  (fun f fn hf hfn=>by
   obtain rfl:f=3:=Option.some.inj ((show Tryz.prog.funcNamed Rows.slopeTreesRow.func=some 3 by kernel_rfl).symm.trans hf) |>.symm;obtain rfl:fn=Tryz.f3:=(Option.some.inj (Tryz.func3.symm.trans hfn)).symm;exact⟨by kernel_rfl,fun j t ht=>by
    have hall:(Tryz.f3.params.toList.all fun u=>!Tryz.prog.wantsStandIn u)=true:=by kernel_rfl
    have hm:t∈Tryz.f3.params.toList:=by simpa using Array.mem_of_getElem? ht
    exact(show Tryz.prog.wantsStandIn t=false by simpa using Yn.1 hall t hm)⟩)
  (by kernel_rfl)
#print axioms slopeTrees_card
end Go.Proofs.YtmojeopgpabkhaaGreatDoor
end