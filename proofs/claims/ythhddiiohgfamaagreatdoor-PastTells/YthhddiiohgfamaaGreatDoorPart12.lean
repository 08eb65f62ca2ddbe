/-
  retrospectlaw37.PastTells answers true for every two histories: it returns normally with true, whatever the histories are.
  Conditions: none beyond those that the theorems state. (Part 12.)
-/
import Derived.Test.YthhddiiohgfamaaGreatDoorPart11

set_option linter.unusedSectionVars false
set_option linter.unusedVariables false
set_option linter.unusedSimpArgs false
set_option linter.unnecessarySimpa false
set_option linter.defProp false

section
namespace Go.Proofs.YthhddiiohgfamaaGreatDoor
open Go Go.Ab Go.ChangeShapes Go.WideShapes Go.ChangeAt Go.RowKit
theorem pastTells_all(xs:List AV)(h:Zia [(true,Zkt),(true,Zkt)] xs):Zae Tryz.prog 3 xs (·=.b true):=by
 obtain⟨x,l0,rfl,hx,y,l1,rfl,hy,rfl⟩:=h;obtain⟨ax,ex⟩:=zrk hx;obtain⟨ay,ey⟩:=zrk hy;exact zta (u:=684) (af:=row684) tab_all lTab_part Tryz.mixed (by kernel_rfl) rfl (zp3 (T:=tab) ax ay) (by simp[ex,ey])
set_option maxRecDepth 100000 in
theorem pastTells_lifted(os:Os)(started:os.Started)(H:Type)(enc:TypeId×Value->H) :
  ReturnsInHanded {} Tryz.checked os 3 .any (fun w args=>(Rows.pastTellsSpec.pre enc Tryz.prog Tryz.f3 [] false w args/\laidMetH Tryz.prog laid2 w)/\sizedMet enc Tryz.prog Tryz.f3 (OpenSpec.ofChange Rows.pastTellsSpec) false w args)
   (Rows.pastTellsSpec.post enc Tryz.prog Tryz.f3 false true false false):=by
 refine returnsInHanded_of_change_and (C:=Tryz.checked) (X:=fun w _=>laidMetH Tryz.prog laid2 w) (fun _ _ _ hh h=>h.of_heap hh) Tryz.own started (by kernel_rfl) Tryz.func3
  (ChangeSpec.witness_shaped (enc:=enc) (C:=Tryz.checked) (os:=os) (X:=fun w _=>laidMetH Tryz.prog laid2 w) false (laidWorld os) #[.agg #[.slice none 0 0,.bool false,.slice none 0 0,.slice none 0 0,.slice none 0 0],.agg #[.slice none 0 0,.bool false,.slice none 0 0,.slice none 0 0,.slice none 0 0]] 8 rfl (laid_shaped os) (by kernel_rfl) (by kernel_rfl) (by kernel_rfl) (laid_met os _)) ?_
 intro W base args ds gs before hval hW _ _ hL _;exact zz5 (P:=Tryz.prog) (m:=8) (tb:=4) (tys:=[(true,Zkt),(true,Zkt)]) rfl (by kernel_rfl) Tryz.laidOut (by kernel_rfl) (by kernel_rfl) Tryz.underlying4
  (fun ds hd=>by
   match ds,hd with
   | [d0,d1],_=>rfl) pastTells_all hval hW
theorem pastTells_inPlace:Tryz.prog.inPlace 3=Rows.pastTellsRow.inPlace:=by kernel_rfl
theorem pastTells_unfollowed:Tryz.prog.unfollowed 3=Rows.pastTellsRow.unfollowed:=by kernel_rfl
theorem pastTells_recurses:Tryz.prog.recurses 3=Rows.pastTellsRow.recurses:=by kernel_rfl
theorem pastTells_named:Tryz.prog.varsNamed 3=Rows.pastTellsRow.named:=by kernel_rfl
theorem pastTells_facts:joinedFacts Tryz.prog 3 Tryz.f3 Rows.pastTellsSpec Rows.pastTellsRow=true:=by
 unfold joinedFacts;rw[Tryz.laidOut,Tryz.rowed,Tryz.heard,Tryz.enters,Tryz.keys,Tryz.lifts,Tryz.makes,pastTells_inPlace,pastTells_unfollowed,pastTells_recurses,pastTells_named]
 kernel_rfl
theorem pastTells_holds:Rows.PastTellsSaid:=
 OpenClaim.holds_of_wide 3 Tryz.f3 rfl rfl rfl rfl rfl rfl rfl ⟨rfl,rfl,rfl,rfl,rfl⟩ rfl rfl rfl rfl rfl (by kernel_rfl) Tryz.func3 pastTells_facts
  (of_decide_eq_true (by kernel_rfl)) (by unfold Func.isWrapper;first | (rw[if_pos (by decide +kernel)];kernel_rfl) | (rw[if_neg (by decide +kernel)];exact⟨rfl,rfl⟩))
  (fun os started H enc _=>pastTells_lifted os started H enc)
theorem pastTells_card:Rows.PastTellsCardSaid:=
 Claim7.holds_tied_plain_at .later [] [.data,.pinned] true (true,"b82fdfb351fddd41830e8c4458fcd60bf2f399b6aabfec7a7c89cb44187cf0a2") false
  pastTells_holds (fun _ h=>by cases h) (by kernel_rfl) (fun _ h=>by cases h) pastTells_row_tie rfl ⟨rfl,rfl⟩ (by kernel_rfl) rfl
  (fun f fn hf hfn=>by
   obtain rfl:f=3:=Option.some.inj ((show Tryz.prog.funcNamed Rows.pastTellsRow.func=some 3 by kernel_rfl).symm.trans hf) |>.symm;obtain rfl:fn=Tryz.f3:=(Option.some.inj (Tryz.func3.symm.trans hfn)).symm;exact⟨by kernel_rfl,fun j t ht=>by
    have hall:(Tryz.f3.params.toList.all fun u=>!Tryz.prog.wantsStandIn u)=true:=by kernel_rfl
    have hm:t∈Tryz.f3.params.toList:=by simpa using Array.mem_of_getElem? ht
    exact(show Tryz.prog.wantsStandIn t=false by simpa using Yn.1 hall t hm)⟩)
  (by kernel_rfl)
#print axioms pastTells_card
end Go.Proofs.YthhddiiohgfamaaGreatDoor
end