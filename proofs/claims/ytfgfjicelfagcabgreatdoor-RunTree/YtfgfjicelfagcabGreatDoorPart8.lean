/-
  The tape that any field is compiled to tells the values that the field has at any point, or it stops as that does, at the instruction of just that node; of at most 6 lets and outs, of at most 15 nodes of at most 2 words each; 6 fractions of at most 2 words in a row; limits of at most 400 bits.
  Conditions: none beyond those that the theorems state. (Part 8.)
-/
import Derived.Test.YtfgfjicelfagcabGreatDoorPart7

set_option linter.unusedSectionVars false
set_option linter.unusedVariables false
set_option linter.unusedSimpArgs false
set_option linter.unnecessarySimpa false

section
namespace Go.Proofs.YtfgfjicelfagcabGreatDoor
open Go Go.Ab Go.ChangeShapes Go.WideShapes Go.ChangeAt Go.RowKit
theorem runTree_all(xs:List AV)(h:Zif [(true,tyD),(true,tyP),(false,.int .i64)] xs):Zat Tryz.prog 5 xs (·=.b true):=by
 obtain⟨x,l0,rfl,hx,y,l1,rfl,hy,z,l2,rfl,hz,rfl⟩:=h;obtain⟨ax,ex⟩:=zvo hx;obtain⟨ay,ey⟩:=zvn hy;obtain⟨az,rfl,bz_,cz⟩:=z3b hz;exact zr7 (u:=676) (af:=row676) tab_all lTab_part Tryz.mixed (by kernel_rfl) rfl (zsr (T:=tab) ax ay az) (by simp[ex,ey,wkA])
set_option maxRecDepth 100000 in
theorem runTree_lifted(os:Os)(started:os.Started)(H:Type)(enc:TypeId×Value→H) :
  ReturnsInHanded {} Tryz.checked os 5 .any (fun w args=>(Rows.runTreeSpec.pre enc Tryz.prog Tryz.f5 [] false w args∧laidMetH Tryz.prog laid2 w)∧sizedMet enc Tryz.prog Tryz.f5 (OpenSpec.ofChange Rows.runTreeSpec) false w args)
   (Rows.runTreeSpec.post enc Tryz.prog Tryz.f5 false true false false):=by
 refine returnsInHanded_of_change_and (C:=Tryz.checked) (X:=fun w _=>laidMetH Tryz.prog laid2 w) (fun _ _ _ hh h=>h.of_heap hh) Tryz.own started (by kernel_rfl) Tryz.func5
  (ChangeSpec.witness_shaped (enc:=enc) (C:=Tryz.checked) (os:=os) (X:=fun w _=>laidMetH Tryz.prog laid2 w) false (laidWorld os) #[.agg #[.slice none 0 0,.slice none 0 0],.agg #[.bool false,.slice none 0 0,.slice none 0 0,.slice none 0 0,.slice none 0 0],.int .i64 0] 8 rfl (laid_shaped os) (by kernel_rfl) (by kernel_rfl) (by kernel_rfl) (laid_met os _)) ?_
 intro W base args ds gs before hval hW _ _ hL _;exact zys (P:=Tryz.prog) (m:=8) (tb:=4) (tys:=[(true,tyD),(true,tyP),(false,.int .i64)]) rfl (by kernel_rfl) Tryz.laidOut (by kernel_rfl) (by kernel_rfl) Tryz.underlying4
  (fun ds hd=>by
   match ds,hd with
   | [d0,d1,d2],_=>rfl) runTree_all hval hW
theorem runTree_inPlace:Tryz.prog.inPlace 5=Rows.runTreeRow.inPlace:=by kernel_rfl
theorem runTree_unfollowed:Tryz.prog.unfollowed 5=Rows.runTreeRow.unfollowed:=by kernel_rfl
theorem runTree_recurses:Tryz.prog.recurses 5=Rows.runTreeRow.recurses:=by kernel_rfl
theorem runTree_named:Tryz.prog.varsNamed 5=Rows.runTreeRow.named:=by kernel_rfl
theorem runTree_facts:joinedFacts Tryz.prog 5 Tryz.f5 Rows.runTreeSpec Rows.runTreeRow=true:=by
 unfold joinedFacts;rw[Tryz.laidOut,Tryz.rowed,Tryz.heard,Tryz.enters,Tryz.keys,Tryz.lifts,Tryz.makes,runTree_inPlace,runTree_unfollowed,runTree_recurses,runTree_named]
 kernel_rfl
theorem runTree_holds:Rows.RunTreeSaid:=
 OpenClaim.holds_of_wide 5 Tryz.f5 rfl rfl rfl rfl rfl rfl rfl ⟨rfl,rfl,rfl,rfl,rfl⟩ rfl rfl rfl rfl rfl (by kernel_rfl) Tryz.func5 runTree_facts
  (of_decide_eq_true (by kernel_rfl)) (by unfold Func.isWrapper;first | (rw[if_pos (by decide +kernel)];kernel_rfl) | (rw[if_neg (by decide +kernel)];exact⟨rfl,rfl⟩))
  (fun os started H enc _=>runTree_lifted os started H enc)
theorem runTree_card:Rows.RunTreeCardSaid:=
 Claim7.holds_tied_plain_at .later [] [.data,.pinned] true (true,"d22d9473594770c79c6552a3bf10f945ab8aa99c5c0f6f85dd3146402ec1ba1c") false
  runTree_holds (fun _ h=>by cases h) (by kernel_rfl) (fun _ h=>by cases h) runTree_row_tie rfl ⟨rfl,rfl⟩ (by kernel_rfl) rfl
  (fun f fn hf hfn=>by
   obtain rfl:f=5:=Option.some.inj ((show Tryz.prog.funcNamed Rows.runTreeRow.func=some 5 by kernel_rfl).symm.trans hf) |>.symm;obtain rfl:fn=Tryz.f5:=(Option.some.inj (Tryz.func5.symm.trans hfn)).symm;exact⟨by kernel_rfl,fun j t ht=>by
    have hall:(Tryz.f5.params.toList.all fun u=>!Tryz.prog.wantsStandIn u)=true:=by kernel_rfl
    have hm:t∈Tryz.f5.params.toList:=by simpa using Array.mem_of_getElem? ht
    exact(show Tryz.prog.wantsStandIn t=false by simpa using Yn.1 hall t hm)⟩)
  (by kernel_rfl)
#print axioms runTree_card
end Go.Proofs.YtfgfjicelfagcabGreatDoor
end