/-
  PullPush: what any cotangent makes of the slopes along any direction is what its gradient makes of the direction.
  Conditions: none beyond those that the theorems state. (Part 8.)
-/
import Derived.Test.YthonocjkfhnfgaaGreatDoorPart7

set_option linter.unusedSectionVars false
set_option linter.unusedVariables false
set_option linter.unusedSimpArgs false
set_option linter.unnecessarySimpa false

section
namespace Go.Proofs.YthonocjkfhnfgaaGreatDoor
open Go Go.Ab Go.ChangeShapes Go.WideShapes Go.ChangeAt Go.RowKit
theorem pullPush_all(xs:List AV)(h:OkArgs [(true,tyT),(true,tyW),(false,.sl tyF)] xs):PCall Tryz.prog 4 xs (·=.b true):=by
 obtain⟨x,l0,rfl,hx,y,l1,rfl,hy,z,l2,rfl,hz,rfl⟩:=h
 obtain⟨ax,ex,bx_,cx⟩:=zu1 hx
 obtain⟨ay,by_,cy,ey⟩:=zyn hy
 obtain⟨az,ez⟩:=zym hz
 exact zpa (u:=376) (af:=row376) tab_all lTab_part Tryz.mixed (by kernel_rfl) rfl (zpn (T:=tab) ax ay by_ cy az bx_ cx) (by simp[ex,ey,ez])
set_option maxRecDepth 100000 in
theorem pullPush_lifted(os:Os)(started:os.Started)(H:Type)(enc:TypeId×Value→H) :
  ReturnsInHanded {} Tryz.checked os 4 .any (fun w args=>(Rows.pullPushSpec.pre enc Tryz.prog Tryz.f4 [] false w args∧laidMetH Tryz.prog laid2 w)∧sizedMet enc Tryz.prog Tryz.f4 (OpenSpec.ofChange Rows.pullPushSpec) false w args)
   (Rows.pullPushSpec.post enc Tryz.prog Tryz.f4 false true false false):=by
 refine returnsInHanded_of_change_and (C:=Tryz.checked) (X:=fun w _=>laidMetH Tryz.prog laid2 w) (fun _ _ _ hh h=>h.of_heap hh) Tryz.own started (by kernel_rfl) Tryz.func4
  (ChangeSpec.witness_shaped (enc:=enc) (C:=Tryz.checked) (os:=os) (X:=fun w _=>laidMetH Tryz.prog laid2 w) false (laidWorld os) #[.agg #[.slice none 0 0,.slice none 0 0,.int .i64 0,.int .i64 0],.agg #[.bool false,.slice none 0 0,.slice none 0 0,.slice none 0 0,.slice none 0 0,.bool false,.slice none 0 0,.slice none 0 0,.slice none 0 0,.slice none 0 0,.int .i64 0],.slice none 0 0] 8 rfl (laid_shaped os) (by kernel_rfl) (by kernel_rfl) (by kernel_rfl) (laid_met os _)) ?_
 intro W base args ds gs before hval hW _ _ hL _
 exact zuq (P:=Tryz.prog) (m:=8) (tb:=4) (tys:=[(true,tyT),(true,tyW),(false,.sl tyF)]) rfl (by kernel_rfl) Tryz.laidOut (by kernel_rfl) (by kernel_rfl) Tryz.underlying4
  (fun ds hd=>by
   match ds,hd with
   | [d0,d1,d2],_=>rfl) pullPush_all hval hW
theorem pullPush_inPlace:Tryz.prog.inPlace 4=Rows.pullPushRow.inPlace:=by kernel_rfl
theorem pullPush_unfollowed:Tryz.prog.unfollowed 4=Rows.pullPushRow.unfollowed:=by kernel_rfl
theorem pullPush_recurses:Tryz.prog.recurses 4=Rows.pullPushRow.recurses:=by kernel_rfl
theorem pullPush_named:Tryz.prog.varsNamed 4=Rows.pullPushRow.named:=by kernel_rfl
theorem pullPush_facts:joinedFacts Tryz.prog 4 Tryz.f4 Rows.pullPushSpec Rows.pullPushRow=true:=by
 unfold joinedFacts
 rw[Tryz.laidOut,Tryz.rowed,Tryz.heard,Tryz.enters,Tryz.keys,Tryz.lifts,Tryz.makes,pullPush_inPlace,pullPush_unfollowed,pullPush_recurses,pullPush_named]
 kernel_rfl
theorem pullPush_holds:Rows.PullPushSaid:=
 OpenClaim.holds_of_wide 4 Tryz.f4 rfl rfl rfl rfl rfl rfl rfl ⟨rfl,rfl,rfl,rfl,rfl⟩ rfl rfl rfl rfl rfl (by kernel_rfl) Tryz.func4 pullPush_facts
  (of_decide_eq_true (by kernel_rfl)) (by unfold Func.isWrapper;first | (rw[if_pos (by decide +kernel)];kernel_rfl) | (rw[if_neg (by decide +kernel)];exact⟨rfl,rfl⟩))
  (fun os started H enc _=>pullPush_lifted os started H enc)
theorem pullPush_card:Rows.PullPushCardSaid:=
 Claim7.holds_tied_plain_at .later [] [.data,.pinned] true (true,"e6eb64b98360e96efaf72b9879f6af53524594aac6076f340ba930ad937f8171") false
  pullPush_holds (fun _ h=>by cases h) (by kernel_rfl) (fun _ h=>by cases h) pullPush_row_tie rfl ⟨rfl,rfl⟩ (by kernel_rfl) rfl
  (fun f fn hf hfn=>by
   obtain rfl:f=4:=Option.some.inj ((show Tryz.prog.funcNamed Rows.pullPushRow.func=some 4 by kernel_rfl).symm.trans hf) |>.symm
   obtain rfl:fn=Tryz.f4:=(Option.some.inj (Tryz.func4.symm.trans hfn)).symm
   exact⟨by kernel_rfl,fun j t ht=>by
    have hall:(Tryz.f4.params.toList.all fun u=>!Tryz.prog.wantsStandIn u)=true:=by kernel_rfl
    have hm:t∈Tryz.f4.params.toList:=by simpa using Array.mem_of_getElem? ht
    exact(show Tryz.prog.wantsStandIn t=false by simpa using List.all_eq_true.1 hall t hm)⟩)
  (by kernel_rfl)
#print axioms pullPush_card
end Go.Proofs.YthonocjkfhnfgaaGreatDoor
end