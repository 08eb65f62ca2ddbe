/-
  retrospectlaw37.PastBack answers true for every history: it returns normally with true, whatever the history is.
  Conditions: none beyond those that the theorems state. (Part 7.)
-/
import Derived.Test.YthhddiiohgfamaaGreatDoorPart6

set_option linter.unusedSectionVars false
set_option linter.unusedVariables false
set_option linter.unusedSimpArgs false
set_option linter.unnecessarySimpa false
set_option linter.defProp false

section
namespace Go.Proofs.YthhddiiohgfamaaGreatDoor
open Go Go.Ab Go.ChangeShapes Go.WideShapes Go.ChangeAt Go.RowKit
theorem pastBack_all(xs:List AV)(h:Zhp [(true,Zlw)] xs):Z6 Tryz.prog 4 xs (·=.b true):=by
 obtain⟨x,l0,rfl,hx,rfl⟩:=h;obtain⟨ax,ex⟩:=zxk hx;exact zrb (u:=685) (af:=row685) tab_all lTab_part Tryz.mixed (by kernel_rfl) rfl (zrm (T:=tab) ax) (by simp[ex])
set_option maxRecDepth 100000 in
theorem pastBack_lifted(os:Os)(started:os.Started)(H:Type)(enc:TypeId×Value->H) :
  ReturnsInHanded {} Tryz.checked os 4 .any (fun w args=>(Rows.pastBackSpec.pre enc Tryz.prog Tryz.f4 [] false w args/\laidMetH Tryz.prog laid2 w)/\sizedMet enc Tryz.prog Tryz.f4 (OpenSpec.ofChange Rows.pastBackSpec) false w args)
   (Rows.pastBackSpec.post enc Tryz.prog Tryz.f4 false true false false):=by
 refine returnsInHanded_of_change_and (C:=Tryz.checked) (X:=fun w _=>laidMetH Tryz.prog laid2 w) (fun _ _ _ hh h=>h.of_heap hh) Tryz.own started (by kernel_rfl) Tryz.func4
  (ChangeSpec.witness_shaped (enc:=enc) (C:=Tryz.checked) (os:=os) (X:=fun w _=>laidMetH Tryz.prog laid2 w) false (laidWorld os) #[.agg #[.slice none 0 0,.bool false,.slice none 0 0,.slice none 0 0,.slice none 0 0]] 8 rfl (laid_shaped os) (by kernel_rfl) (by kernel_rfl) (by kernel_rfl) (laid_met os _)) ?_
 intro W base args ds gs before hval hW _ _ hL _;exact zw8 (P:=Tryz.prog) (m:=8) (tb:=4) (tys:=[(true,Zlw)]) rfl (by kernel_rfl) Tryz.laidOut (by kernel_rfl) (by kernel_rfl) Tryz.underlying4
  (fun ds hd=>by
   match ds,hd with
   | [d0],_=>rfl) pastBack_all hval hW
theorem pastBack_inPlace:Tryz.prog.inPlace 4=Rows.pastBackRow.inPlace:=by kernel_rfl
theorem pastBack_unfollowed:Tryz.prog.unfollowed 4=Rows.pastBackRow.unfollowed:=by kernel_rfl
theorem pastBack_recurses:Tryz.prog.recurses 4=Rows.pastBackRow.recurses:=by kernel_rfl
theorem pastBack_named:Tryz.prog.varsNamed 4=Rows.pastBackRow.named:=by kernel_rfl
theorem pastBack_facts:joinedFacts Tryz.prog 4 Tryz.f4 Rows.pastBackSpec Rows.pastBackRow=true:=by
 unfold joinedFacts;rw[Tryz.laidOut,Tryz.rowed,Tryz.heard,Tryz.enters,Tryz.keys,Tryz.lifts,Tryz.makes,pastBack_inPlace,pastBack_unfollowed,pastBack_recurses,pastBack_named]
 kernel_rfl
theorem pastBack_holds:Rows.PastBackSaid:=
 OpenClaim.holds_of_wide 4 Tryz.f4 rfl rfl rfl rfl rfl rfl rfl ⟨rfl,rfl,rfl,rfl,rfl⟩ rfl rfl rfl rfl rfl (by kernel_rfl) Tryz.func4 pastBack_facts
  (of_decide_eq_true (by kernel_rfl)) (by unfold Func.isWrapper;first | (rw[if_pos (by decide +kernel)];kernel_rfl) | (rw[if_neg (by decide +kernel)];exact⟨rfl,rfl⟩))
  (fun os started H enc _=>pastBack_lifted os started H enc)
theorem pastBack_card:Rows.PastBackCardSaid:=
 Claim7.holds_tied_plain_at .later [] [.data,.pinned] true (true,"b82fdfb351fddd41830e8c4458fcd60bf2f399b6aabfec7a7c89cb44187cf0a2") false
  pastBack_holds (fun _ h=>by cases h) (by kernel_rfl) (fun _ h=>by cases h) pastBack_row_tie rfl ⟨rfl,rfl⟩ (by kernel_rfl) rfl
  (fun f fn hf hfn=>by
   obtain rfl:f=4:=Option.some.inj ((show Tryz.prog.funcNamed Rows.pastBackRow.func=some 4 by kernel_rfl).symm.trans hf) |>.symm;obtain rfl:fn=Tryz.f4:=(Option.some.inj (Tryz.func4.symm.trans hfn)).symm;exact⟨by kernel_rfl,fun j t ht=>by
    have hall:(Tryz.f4.params.toList.all fun u=>!Tryz.prog.wantsStandIn u)=true:=by kernel_rfl
    have hm:t∈Tryz.f4.params.toList:=by simpa using Array.mem_of_getElem? ht
    exact(show Tryz.prog.wantsStandIn t=false by simpa using Yl.1 hall t hm)⟩)
  (by kernel_rfl)
#print axioms pastBack_card
end Go.Proofs.YthhddiiohgfamaaGreatDoor
end