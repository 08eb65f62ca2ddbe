/-
  The outs of any field with lets put in, or that there are none, and how often each let stands in them, are as the document has them.
  Conditions: none beyond those that the theorems state. (Part 7.)
-/
import Derived.Test.YtfgfjicelfagcabGreatDoorPart6

set_option linter.unusedSectionVars false
set_option linter.unusedVariables false
set_option linter.unusedSimpArgs false
set_option linter.unnecessarySimpa false

section
namespace Go.Proofs.YtfgfjicelfagcabGreatDoor
open Go Go.Ab Go.ChangeShapes Go.WideShapes Go.ChangeAt Go.RowKit
theorem plainOuts_all(xs:List AV)(h:OkArgs [(true,tyD)] xs):PCall Tryz.prog 3 xs (·=.b true):=by
 obtain⟨x,l0,rfl,hx,rfl⟩:=h
 obtain⟨ax,ex⟩:=zr7 hx
 exact zo4 (u:=669) (af:=row669) tab_all lTab_part Tryz.mixed (by kernel_rfl) rfl (zpb (T:=tab) ax) (by simp[ex])
set_option maxRecDepth 100000 in
theorem plainOuts_lifted(os:Os)(started:os.Started)(H:Type)(enc:TypeId×Value→H) :
  ReturnsInHanded {} Tryz.checked os 3 .any (fun w args=>(Rows.plainOutsSpec.pre enc Tryz.prog Tryz.f3 [] false w args∧laidMetH Tryz.prog laid2 w)∧sizedMet enc Tryz.prog Tryz.f3 (OpenSpec.ofChange Rows.plainOutsSpec) false w args)
   (Rows.plainOutsSpec.post enc Tryz.prog Tryz.f3 false true false false):=by
 refine returnsInHanded_of_change_and (C:=Tryz.checked) (X:=fun w _=>laidMetH Tryz.prog laid2 w) (fun _ _ _ hh h=>h.of_heap hh) Tryz.own started (by kernel_rfl) Tryz.func3
  (ChangeSpec.witness_shaped (enc:=enc) (C:=Tryz.checked) (os:=os) (X:=fun w _=>laidMetH Tryz.prog laid2 w) false (laidWorld os) #[.agg #[.slice none 0 0,.slice none 0 0]] 8 rfl (laid_shaped os) (by kernel_rfl) (by kernel_rfl) (by kernel_rfl) (laid_met os _)) ?_
 intro W base args ds gs before hval hW _ _ hL _
 exact zua (P:=Tryz.prog) (m:=8) (tb:=4) (tys:=[(true,tyD)]) rfl (by kernel_rfl) Tryz.laidOut (by kernel_rfl) (by kernel_rfl) Tryz.underlying4
  (fun ds hd=>by
   match ds,hd with
   | [d0],_=>rfl) plainOuts_all hval hW
theorem plainOuts_inPlace:Tryz.prog.inPlace 3=Rows.plainOutsRow.inPlace:=by kernel_rfl
theorem plainOuts_unfollowed:Tryz.prog.unfollowed 3=Rows.plainOutsRow.unfollowed:=by kernel_rfl
theorem plainOuts_recurses:Tryz.prog.recurses 3=Rows.plainOutsRow.recurses:=by kernel_rfl
theorem plainOuts_named:Tryz.prog.varsNamed 3=Rows.plainOutsRow.named:=by kernel_rfl
theorem plainOuts_facts:joinedFacts Tryz.prog 3 Tryz.f3 Rows.plainOutsSpec Rows.plainOutsRow=true:=by
 unfold joinedFacts
 rw[Tryz.laidOut,Tryz.rowed,Tryz.heard,Tryz.enters,Tryz.keys,Tryz.lifts,Tryz.makes,plainOuts_inPlace,plainOuts_unfollowed,plainOuts_recurses,plainOuts_named]
 kernel_rfl
theorem plainOuts_holds:Rows.PlainOutsSaid:=
 OpenClaim.holds_of_wide 3 Tryz.f3 rfl rfl rfl rfl rfl rfl rfl ⟨rfl,rfl,rfl,rfl,rfl⟩ rfl rfl rfl rfl rfl (by kernel_rfl) Tryz.func3 plainOuts_facts
  (of_decide_eq_true (by kernel_rfl)) (by unfold Func.isWrapper;first | (rw[if_pos (by decide +kernel)];kernel_rfl) | (rw[if_neg (by decide +kernel)];exact⟨rfl,rfl⟩))
  (fun os started H enc _=>plainOuts_lifted os started H enc)
theorem plainOuts_card:Rows.PlainOutsCardSaid:=
 Claim7.holds_tied_plain_at .later [] [.data,.pinned] true (true,"d22d9473594770c79c6552a3bf10f945ab8aa99c5c0f6f85dd3146402ec1ba1c") false
  plainOuts_holds (fun _ h=>by cases h) (by kernel_rfl) (fun _ h=>by cases h) plainOuts_row_tie rfl ⟨rfl,rfl⟩ (by kernel_rfl) rfl
  (fun f fn hf hfn=>by
   obtain rfl:f=3:=Option.some.inj ((show Tryz.prog.funcNamed Rows.plainOutsRow.func=some 3 by kernel_rfl).symm.trans hf) |>.symm
   obtain rfl:fn=Tryz.f3:=(Option.some.inj (Tryz.func3.symm.trans hfn)).symm
   exact⟨by kernel_rfl,fun j t ht=>by
    have hall:(Tryz.f3.params.toList.all fun u=>!Tryz.prog.wantsStandIn u)=true:=by kernel_rfl
    have hm:t∈Tryz.f3.params.toList:=by simpa using Array.mem_of_getElem? ht
    exact(show Tryz.prog.wantsStandIn t=false by simpa using List.all_eq_true.1 hall t hm)⟩)
  (by kernel_rfl)
#print axioms plainOuts_card
end Go.Proofs.YtfgfjicelfagcabGreatDoor
end