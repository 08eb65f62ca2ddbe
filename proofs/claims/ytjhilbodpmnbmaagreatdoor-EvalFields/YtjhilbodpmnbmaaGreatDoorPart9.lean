/-
  The values of any field at any point, or what stops it, and where, are as the document has them: with all that the program's and the document's functions need, walked once each.
  Conditions: none beyond those that the theorems state. (Part 9.)
-/
import Derived.Test.YtjhilbodpmnbmaaGreatDoorPart8

set_option linter.unusedSectionVars false
set_option linter.unusedVariables false
set_option linter.unusedSimpArgs false
set_option linter.unnecessarySimpa false

section
namespace Go.Proofs.YtjhilbodpmnbmaaGreatDoor
open Go Go.Ab Go.ChangeShapes Go.WideShapes Go.ChangeAt Go.RowKit
theorem evalFields_all(xs:List AV)(h:Zhp [(true,tyD),(true,tyP),(false,.int .i64)] xs):Zbb Tryz.prog 3 xs (·=.b true):=by
 obtain⟨x,l0,rfl,hx,y,l1,rfl,hy,z,l2,rfl,hz,rfl⟩:=h;obtain⟨ax,ex⟩:=zu9 hx;obtain⟨ay,ey⟩:=zu8 hy;obtain⟨az,rfl,bz_,cz⟩:=z2z hz;exact zrs (u:=459) (af:=row459) tab_all lTab_part Tryz.mixed (by kernel_rfl) rfl (zms (T:=tab) ax ay az) (by simp[ex,ey,wkA])
set_option maxRecDepth 100000 in
theorem evalFields_lifted(os:Os)(started:os.Started)(H:Type)(enc:TypeId×Value→H) :
  ReturnsInHanded {} Tryz.checked os 3 .any (fun w args=>(Rows.evalFieldsSpec.pre enc Tryz.prog Tryz.f3 [] false w args∧laidMetH Tryz.prog laid2 w)∧sizedMet enc Tryz.prog Tryz.f3 (OpenSpec.ofChange Rows.evalFieldsSpec) false w args)
   (Rows.evalFieldsSpec.post enc Tryz.prog Tryz.f3 false true false false):=by
 refine returnsInHanded_of_change_and (C:=Tryz.checked) (X:=fun w _=>laidMetH Tryz.prog laid2 w) (fun _ _ _ hh h=>h.of_heap hh) Tryz.own started (by kernel_rfl) Tryz.func3
  (ChangeSpec.witness_shaped (enc:=enc) (C:=Tryz.checked) (os:=os) (X:=fun w _=>laidMetH Tryz.prog laid2 w) false (laidWorld os) #[.agg #[.slice none 0 0,.slice none 0 0],.agg #[.bool false,.slice none 0 0,.slice none 0 0,.slice none 0 0,.slice none 0 0],.int .i64 0] 8 rfl (laid_shaped os) (by kernel_rfl) (by kernel_rfl) (by kernel_rfl) (laid_met os _)) ?_
 intro W base args ds gs before hval hW _ _ hL _;exact zyi (P:=Tryz.prog) (m:=8) (tb:=4) (tys:=[(true,tyD),(true,tyP),(false,.int .i64)]) rfl (by kernel_rfl) Tryz.laidOut (by kernel_rfl) (by kernel_rfl) Tryz.underlying4
  (fun ds hd=>by
   match ds,hd with
   | [d0,d1,d2],_=>rfl) evalFields_all hval hW
theorem evalFields_inPlace:Tryz.prog.inPlace 3=Rows.evalFieldsRow.inPlace:=by kernel_rfl
theorem evalFields_unfollowed:Tryz.prog.unfollowed 3=Rows.evalFieldsRow.unfollowed:=by kernel_rfl
theorem evalFields_recurses:Tryz.prog.recurses 3=Rows.evalFieldsRow.recurses:=by kernel_rfl
theorem evalFields_named:Tryz.prog.varsNamed 3=Rows.evalFieldsRow.named:=by kernel_rfl
theorem evalFields_facts:joinedFacts Tryz.prog 3 Tryz.f3 Rows.evalFieldsSpec Rows.evalFieldsRow=true:=by
 unfold joinedFacts;rw[Tryz.laidOut,Tryz.rowed,Tryz.heard,Tryz.enters,Tryz.keys,Tryz.lifts,Tryz.makes,evalFields_inPlace,evalFields_unfollowed,evalFields_recurses,evalFields_named]
 kernel_rfl
theorem evalFields_holds:Rows.EvalFieldsSaid:=
 OpenClaim.holds_of_wide 3 Tryz.f3 rfl rfl rfl rfl rfl rfl rfl ⟨rfl,rfl,rfl,rfl,rfl⟩ rfl rfl rfl rfl rfl (by kernel_rfl) Tryz.func3 evalFields_facts
  (of_decide_eq_true (by kernel_rfl)) (by unfold Func.isWrapper;first | (rw[if_pos (by decide +kernel)];kernel_rfl) | (rw[if_neg (by decide +kernel)];exact⟨rfl,rfl⟩))
  (fun os started H enc _=>evalFields_lifted os started H enc)
theorem evalFields_card:Rows.EvalFieldsCardSaid:=
 Claim7.holds_tied_plain_at .later [] [.data,.pinned] true (true,"67ec19401f3b8f658b43138e4148ca3c655e1c606f49e0438b65261e82c23c53") false
  evalFields_holds (fun _ h=>by cases h) (by kernel_rfl) (fun _ h=>by cases h) evalFields_row_tie rfl ⟨rfl,rfl⟩ (by kernel_rfl) rfl
  (fun f fn hf hfn=>by
   obtain rfl:f=3:=Option.some.inj ((show Tryz.prog.funcNamed Rows.evalFieldsRow.func=some 3 by kernel_rfl).symm.trans hf) |>.symm;obtain rfl:fn=Tryz.f3:=(Option.some.inj (Tryz.func3.symm.trans hfn)).symm;exact⟨by kernel_rfl,fun j t ht=>by
    have hall:(Tryz.f3.params.toList.all fun u=>!Tryz.prog.wantsStandIn u)=true:=by kernel_rfl
    have hm:t∈Tryz.f3.params.toList:=by simpa using Array.mem_of_getElem? ht
    exact(show Tryz.prog.wantsStandIn t=false by simpa using Yo.1 hall t hm)⟩)
  (by kernel_rfl)
#print axioms evalFields_card
end Go.Proofs.YtjhilbodpmnbmaaGreatDoor
end