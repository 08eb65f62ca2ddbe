/-
  What any Jacobian makes of any direction, or that there is nothing, and whether two are the same, are as the document has them: with all that the program's and the document's functions need, walked once each.
  Conditions: none beyond those that the theorems state. (Part 9.)
-/
import Derived.Test.YtjhilbodpmnbmaaGreatDoorPart8

set_option linter.unusedSectionVars false
set_option linter.unusedVariables false
set_option linter.unusedSimpArgs false
set_option linter.unnecessarySimpa false

section
namespace Go.Proofs.YtjhilbodpmnbmaaGreatDoor
open Go Go.Ab Go.ChangeShapes Go.WideShapes Go.ChangeAt Go.RowKit
theorem slopeAlong_all(xs:List AV)(h:Zh7 [(true,tyK),(true,tyK),(true,tyP)] xs):Zbb Tryz.prog 4 xs (·=.b true):=by
 obtain⟨x,l0,rfl,hx,y,l1,rfl,hy,z,l2,rfl,hz,rfl⟩:=h;obtain⟨ax,ex⟩:=zut hx;obtain⟨ay,ey⟩:=zut hy;obtain⟨az,ez⟩:=zus hz;exact zrl (u:=377) (af:=row377) tab_all lTab_part Tryz.mixed (by kernel_rfl) rfl (zos (T:=tab) ax ay az) (by simp[ex,ey,ez])
set_option maxRecDepth 100000 in
theorem slopeAlong_lifted(os:Os)(started:os.Started)(H:Type)(enc:TypeId×Value→H) :
  ReturnsInHanded {} Tryz.checked os 4 .any (fun w args=>(Rows.slopeAlongSpec.pre enc Tryz.prog Tryz.f4 [] false w args∧laidMetH Tryz.prog laid2 w)∧sizedMet enc Tryz.prog Tryz.f4 (OpenSpec.ofChange Rows.slopeAlongSpec) false w args)
   (Rows.slopeAlongSpec.post enc Tryz.prog Tryz.f4 false true false false):=by
 refine returnsInHanded_of_change_and (C:=Tryz.checked) (X:=fun w _=>laidMetH Tryz.prog laid2 w) (fun _ _ _ hh h=>h.of_heap hh) Tryz.own started (by kernel_rfl) Tryz.func4
  (ChangeSpec.witness_shaped (enc:=enc) (C:=Tryz.checked) (os:=os) (X:=fun w _=>laidMetH Tryz.prog laid2 w) false (laidWorld os) #[.agg #[.slice none 0 0,.slice none 0 0,.slice none 0 0],.agg #[.slice none 0 0,.slice none 0 0,.slice none 0 0],.agg #[.bool false,.slice none 0 0,.slice none 0 0,.slice none 0 0,.slice none 0 0]] 8 rfl (laid_shaped os) (by kernel_rfl) (by kernel_rfl) (by kernel_rfl) (laid_met os _)) ?_
 intro W base args ds gs before hval hW _ _ hL _;exact zx4 (P:=Tryz.prog) (m:=8) (tb:=4) (tys:=[(true,tyK),(true,tyK),(true,tyP)]) rfl (by kernel_rfl) Tryz.laidOut (by kernel_rfl) (by kernel_rfl) Tryz.underlying4
  (fun ds hd=>by
   match ds,hd with
   | [d0,d1,d2],_=>rfl) slopeAlong_all hval hW
theorem slopeAlong_inPlace:Tryz.prog.inPlace 4=Rows.slopeAlongRow.inPlace:=by kernel_rfl
theorem slopeAlong_unfollowed:Tryz.prog.unfollowed 4=Rows.slopeAlongRow.unfollowed:=by kernel_rfl
theorem slopeAlong_recurses:Tryz.prog.recurses 4=Rows.slopeAlongRow.recurses:=by kernel_rfl
theorem slopeAlong_named:Tryz.prog.varsNamed 4=Rows.slopeAlongRow.named:=by kernel_rfl
theorem slopeAlong_facts:joinedFacts Tryz.prog 4 Tryz.f4 Rows.slopeAlongSpec Rows.slopeAlongRow=true:=by
 unfold joinedFacts;rw[Tryz.laidOut,Tryz.rowed,Tryz.heard,Tryz.enters,Tryz.keys,Tryz.lifts,Tryz.makes,slopeAlong_inPlace,slopeAlong_unfollowed,slopeAlong_recurses,slopeAlong_named]
 kernel_rfl
theorem slopeAlong_holds:Rows.SlopeAlongSaid:=
 OpenClaim.holds_of_wide 4 Tryz.f4 rfl rfl rfl rfl rfl rfl rfl ⟨rfl,rfl,rfl,rfl,rfl⟩ rfl rfl rfl rfl rfl (by kernel_rfl) Tryz.func4 slopeAlong_facts
  (of_decide_eq_true (by kernel_rfl)) (by unfold Func.isWrapper;first | (rw[if_pos (by decide +kernel)];kernel_rfl) | (rw[if_neg (by decide +kernel)];exact⟨rfl,rfl⟩))
  (fun os started H enc _=>slopeAlong_lifted os started H enc)
theorem slopeAlong_card:Rows.SlopeAlongCardSaid:=
 Claim7.holds_tied_plain_at .later [] [.data,.pinned] true (true,"67ec19401f3b8f658b43138e4148ca3c655e1c606f49e0438b65261e82c23c53") false
  slopeAlong_holds (fun _ h=>by cases h) (by kernel_rfl) (fun _ h=>by cases h) slopeAlong_row_tie rfl ⟨rfl,rfl⟩ (by kernel_rfl) rfl
  (fun f fn hf hfn=>by
   obtain rfl:f=4:=Option.some.inj ((show Tryz.prog.funcNamed Rows.slopeAlongRow.func=some 4 by kernel_rfl).symm.trans hf) |>.symm;obtain rfl:fn=Tryz.f4:=(Option.some.inj (Tryz.func4.symm.trans hfn)).symm;exact⟨by kernel_rfl,fun j t ht=>by
    have hall:(Tryz.f4.params.toList.all fun u=>!Tryz.prog.wantsStandIn u)=true:=by kernel_rfl
    have hm:t∈Tryz.f4.params.toList:=by simpa using Array.mem_of_getElem? ht
    exact(show Tryz.prog.wantsStandIn t=false by simpa using Yk.1 hall t hm)⟩)
  (by kernel_rfl)
#print axioms slopeAlong_card
end Go.Proofs.YtjhilbodpmnbmaaGreatDoor
end