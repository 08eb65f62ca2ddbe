/-
  Any point with right fractions, and the value of any expression at any point, with any values of lets, or what stops it, and where, are as the document has them, for all arguments.
  Conditions: none beyond those that the theorems state. (Part 8.)
-/
import Derived.Test.YtegcbhlfmmgmhaaGreatDoorPart7

set_option linter.unusedSectionVars false
set_option linter.unusedVariables false
set_option linter.unusedSimpArgs false
set_option linter.unnecessarySimpa false

section
namespace Go.Proofs.YtegcbhlfmmgmhaaGreatDoor
open Go Go.Ab Go.ChangeShapes Go.WideShapes Go.ChangeAt Go.RowKit
theorem evalCodes_all(xs:List AV)(h:OkArgs [(false,.sl tyN),(true,tyP),(true,tyIn)] xs):PCall Tryz.prog 4 xs (·=.b true):=by
 obtain⟨x,l0,rfl,hx,y,l1,rfl,hy,z,l2,rfl,hz,rfl⟩:=h
 obtain⟨ax,ex⟩:=zvx hx
 obtain⟨ay,ey⟩:=zs5 hy
 obtain⟨az,bz_,ez⟩:=z4t hz
 exact zpy (u:=458) (af:=row458) tab_all lTab_part Tryz.mixed (by kernel_rfl) rfl (znd (T:=tab) ax ay az bz_) (by simp[ex,ey,ez])
set_option maxRecDepth 100000 in
theorem evalCodes_lifted(os:Os)(started:os.Started)(H:Type)(enc:TypeId×Value→H) :
  ReturnsInHanded {} Tryz.checked os 4 .any (fun w args=>(Rows.evalCodesSpec.pre enc Tryz.prog Tryz.f4 [] false w args∧laidMetH Tryz.prog laid2 w)∧sizedMet enc Tryz.prog Tryz.f4 (OpenSpec.ofChange Rows.evalCodesSpec) false w args)
   (Rows.evalCodesSpec.post enc Tryz.prog Tryz.f4 false true false false):=by
 refine returnsInHanded_of_change_and (C:=Tryz.checked) (X:=fun w _=>laidMetH Tryz.prog laid2 w) (fun _ _ _ hh h=>h.of_heap hh) Tryz.own started (by kernel_rfl) Tryz.func4
  (ChangeSpec.witness_shaped (enc:=enc) (C:=Tryz.checked) (os:=os) (X:=fun w _=>laidMetH Tryz.prog laid2 w) false (laidWorld os) #[.slice none 0 0,.agg #[.bool false,.slice none 0 0,.slice none 0 0,.slice none 0 0,.slice none 0 0],.agg #[.slice none 0 0,.int .i64 0]] 8 rfl (laid_shaped os) (by kernel_rfl) (by kernel_rfl) (by kernel_rfl) (laid_met os _)) ?_
 intro W base args ds gs before hval hW _ _ hL _
 exact zvn (P:=Tryz.prog) (m:=8) (tb:=4) (tys:=[(false,.sl tyN),(true,tyP),(true,tyIn)]) rfl (by kernel_rfl) Tryz.laidOut (by kernel_rfl) (by kernel_rfl) Tryz.underlying4
  (fun ds hd=>by
   match ds,hd with
   | [d0,d1,d2],_=>rfl) evalCodes_all hval hW
theorem evalCodes_inPlace:Tryz.prog.inPlace 4=Rows.evalCodesRow.inPlace:=by kernel_rfl
theorem evalCodes_unfollowed:Tryz.prog.unfollowed 4=Rows.evalCodesRow.unfollowed:=by kernel_rfl
theorem evalCodes_recurses:Tryz.prog.recurses 4=Rows.evalCodesRow.recurses:=by kernel_rfl
theorem evalCodes_named:Tryz.prog.varsNamed 4=Rows.evalCodesRow.named:=by kernel_rfl
theorem evalCodes_facts:joinedFacts Tryz.prog 4 Tryz.f4 Rows.evalCodesSpec Rows.evalCodesRow=true:=by
 unfold joinedFacts
 rw[Tryz.laidOut,Tryz.rowed,Tryz.heard,Tryz.enters,Tryz.keys,Tryz.lifts,Tryz.makes,evalCodes_inPlace,evalCodes_unfollowed,evalCodes_recurses,evalCodes_named]
 kernel_rfl
theorem evalCodes_holds:Rows.EvalCodesSaid:=
 OpenClaim.holds_of_wide 4 Tryz.f4 rfl rfl rfl rfl rfl rfl rfl ⟨rfl,rfl,rfl,rfl,rfl⟩ rfl rfl rfl rfl rfl (by kernel_rfl) Tryz.func4 evalCodes_facts
  (of_decide_eq_true (by kernel_rfl)) (by unfold Func.isWrapper;first | (rw[if_pos (by decide +kernel)];kernel_rfl) | (rw[if_neg (by decide +kernel)];exact⟨rfl,rfl⟩))
  (fun os started H enc _=>evalCodes_lifted os started H enc)
theorem evalCodes_card:Rows.EvalCodesCardSaid:=
 Claim7.holds_tied_plain_at .later [] [.data,.pinned] true (true,"7100dbdd37d42c621a2b9ddec582d95121f766f2065131ce6da5151ab13258e3") false
  evalCodes_holds (fun _ h=>by cases h) (by kernel_rfl) (fun _ h=>by cases h) evalCodes_row_tie rfl ⟨rfl,rfl⟩ (by kernel_rfl) rfl
  (fun f fn hf hfn=>by
   obtain rfl:f=4:=Option.some.inj ((show Tryz.prog.funcNamed Rows.evalCodesRow.func=some 4 by kernel_rfl).symm.trans hf) |>.symm
   obtain rfl:fn=Tryz.f4:=(Option.some.inj (Tryz.func4.symm.trans hfn)).symm
   exact⟨by kernel_rfl,fun j t ht=>by
    have hall:(Tryz.f4.params.toList.all fun u=>!Tryz.prog.wantsStandIn u)=true:=by kernel_rfl
    have hm:t∈Tryz.f4.params.toList:=by simpa using Array.mem_of_getElem? ht
    exact(show Tryz.prog.wantsStandIn t=false by simpa using List.all_eq_true.1 hall t hm)⟩)
  (by kernel_rfl)
#print axioms evalCodes_card
end Go.Proofs.YtegcbhlfmmgmhaaGreatDoor
end