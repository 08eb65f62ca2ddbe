/-
  SlopeBoth: gathered by cotangents and by directions, the Jacobian of a tape is the same; it makes of any direction the slopes along it.
  Conditions: none beyond those that the theorems state. (Part 9.)
-/
import Derived.Test.YthonocjkfhnfgaaGreatDoorPart8

set_option linter.unusedSectionVars false
set_option linter.unusedVariables false
set_option linter.unusedSimpArgs false
set_option linter.unnecessarySimpa false

section
namespace Go.Proofs.YthonocjkfhnfgaaGreatDoor
open Go Go.Ab Go.ChangeShapes Go.WideShapes Go.ChangeAt Go.RowKit
theorem slopeBoth_all(xs:List AV)(h:OkArgs [(true,tyT),(true,tyW)] xs):PCall Tryz.prog 6 xs (·=.b true):=by
 obtain⟨x,l0,rfl,hx,y,l1,rfl,hy,rfl⟩:=h
 obtain⟨ax,ex,bx_,cx⟩:=zwk hx
 obtain⟨ay,by_,cy,ey⟩:=z0c hy
 exact zp8 (u:=378) (af:=row378) tab_all lTab_part Tryz.mixed (by kernel_rfl) rfl (zqq (T:=tab) ax ay by_ cy bx_ cx) (by simp[ex,ey])
set_option maxRecDepth 100000 in
theorem slopeBoth_lifted(os:Os)(started:os.Started)(H:Type)(enc:TypeId×Value→H) :
  ReturnsInHanded {} Tryz.checked os 6 .any (fun w args=>(Rows.slopeBothSpec.pre enc Tryz.prog Tryz.f6 [] false w args∧laidMetH Tryz.prog laid2 w)∧sizedMet enc Tryz.prog Tryz.f6 (OpenSpec.ofChange Rows.slopeBothSpec) false w args)
   (Rows.slopeBothSpec.post enc Tryz.prog Tryz.f6 false true false false):=by
 refine returnsInHanded_of_change_and (C:=Tryz.checked) (X:=fun w _=>laidMetH Tryz.prog laid2 w) (fun _ _ _ hh h=>h.of_heap hh) Tryz.own started (by kernel_rfl) Tryz.func6
  (ChangeSpec.witness_shaped (enc:=enc) (C:=Tryz.checked) (os:=os) (X:=fun w _=>laidMetH Tryz.prog laid2 w) false (laidWorld os) #[.agg #[.slice none 0 0,.slice none 0 0,.int .i64 0,.int .i64 0],.agg #[.bool false,.slice none 0 0,.slice none 0 0,.slice none 0 0,.slice none 0 0,.bool false,.slice none 0 0,.slice none 0 0,.slice none 0 0,.slice none 0 0,.int .i64 0]] 8 rfl (laid_shaped os) (by kernel_rfl) (by kernel_rfl) (by kernel_rfl) (laid_met os _)) ?_
 intro W base args ds gs before hval hW _ _ hL _
 exact zv9 (P:=Tryz.prog) (m:=8) (tb:=4) (tys:=[(true,tyT),(true,tyW)]) rfl (by kernel_rfl) Tryz.laidOut (by kernel_rfl) (by kernel_rfl) Tryz.underlying4
  (fun ds hd=>by
   match ds,hd with
   | [d0,d1],_=>rfl) slopeBoth_all hval hW
theorem slopeBoth_inPlace:Tryz.prog.inPlace 6=Rows.slopeBothRow.inPlace:=by kernel_rfl
theorem slopeBoth_unfollowed:Tryz.prog.unfollowed 6=Rows.slopeBothRow.unfollowed:=by kernel_rfl
theorem slopeBoth_recurses:Tryz.prog.recurses 6=Rows.slopeBothRow.recurses:=by kernel_rfl
theorem slopeBoth_named:Tryz.prog.varsNamed 6=Rows.slopeBothRow.named:=by kernel_rfl
theorem slopeBoth_facts:joinedFacts Tryz.prog 6 Tryz.f6 Rows.slopeBothSpec Rows.slopeBothRow=true:=by
 unfold joinedFacts
 rw[Tryz.laidOut,Tryz.rowed,Tryz.heard,Tryz.enters,Tryz.keys,Tryz.lifts,Tryz.makes,slopeBoth_inPlace,slopeBoth_unfollowed,slopeBoth_recurses,slopeBoth_named]
 kernel_rfl
theorem slopeBoth_holds:Rows.SlopeBothSaid:=
 OpenClaim.holds_of_wide 6 Tryz.f6 rfl rfl rfl rfl rfl rfl rfl ⟨rfl,rfl,rfl,rfl,rfl⟩ rfl rfl rfl rfl rfl (by kernel_rfl) Tryz.func6 slopeBoth_facts
  (of_decide_eq_true (by kernel_rfl)) (by unfold Func.isWrapper;first | (rw[if_pos (by decide +kernel)];kernel_rfl) | (rw[if_neg (by decide +kernel)];exact⟨rfl,rfl⟩))
  (fun os started H enc _=>slopeBoth_lifted os started H enc)
theorem slopeBoth_card:Rows.SlopeBothCardSaid:=
 Claim7.holds_tied_plain_at .later [] [.data,.pinned] true (true,"e6eb64b98360e96efaf72b9879f6af53524594aac6076f340ba930ad937f8171") false
  slopeBoth_holds (fun _ h=>by cases h) (by kernel_rfl) (fun _ h=>by cases h) slopeBoth_row_tie rfl ⟨rfl,rfl⟩ (by kernel_rfl) rfl
  (fun f fn hf hfn=>by
   obtain rfl:f=6:=Option.some.inj ((show Tryz.prog.funcNamed Rows.slopeBothRow.func=some 6 by kernel_rfl).symm.trans hf) |>.symm
   obtain rfl:fn=Tryz.f6:=(Option.some.inj (Tryz.func6.symm.trans hfn)).symm
   exact⟨by kernel_rfl,fun j t ht=>by
    have hall:(Tryz.f6.params.toList.all fun u=>!Tryz.prog.wantsStandIn u)=true:=by kernel_rfl
    have hm:t∈Tryz.f6.params.toList:=by simpa using Array.mem_of_getElem? ht
    exact(show Tryz.prog.wantsStandIn t=false by simpa using List.all_eq_true.1 hall t hm)⟩)
  (by kernel_rfl)
#print axioms slopeBoth_card
end Go.Proofs.YthonocjkfhnfgaaGreatDoor
end