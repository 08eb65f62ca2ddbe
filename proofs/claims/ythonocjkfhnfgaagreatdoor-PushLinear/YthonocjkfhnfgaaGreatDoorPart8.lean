/-
  PushLinear: the slopes along a direction, taken so many times, and another one, are so many times the slopes along the first, and those along the second.
  Conditions: none beyond those that the theorems state. (Part 8.)
-/
import Derived.Test.YthonocjkfhnfgaaGreatDoorPart7

set_option linter.unusedSectionVars false
set_option linter.unusedVariables false
set_option linter.unusedSimpArgs false
set_option linter.unnecessarySimpa false

section
namespace Go.Proofs.YthonocjkfhnfgaaGreatDoor
open Go Go.Ab Go.ChangeShapes Go.WideShapes Go.ChangeAt Go.RowKit
theorem pushLinear_all(xs:List AV)(h:OkArgs [(true,tyT),(true,tyW),(true,tyP),(true,tyF)] xs):PCall Tryz.prog 3 xs (·=.b true):=by
 obtain⟨x,l0,rfl,hx,y,l1,rfl,hy,z,l2,rfl,hz,u,l3,rfl,hu,rfl⟩:=h
 obtain⟨ax,ex,bx_,cx⟩:=zud hx
 obtain⟨ay,by_,cy,ey⟩:=zxw hy
 obtain⟨az,ez⟩:=zrf hz
 obtain⟨au,eu⟩:=zuc hu
 exact zoo (u:=373) (af:=row373) tab_all lTab_part Tryz.mixed (by kernel_rfl) rfl (zkw (T:=tab) ax ay by_ cy az au bx_ cx) (by simp[ex,ey,ez,eu])
set_option maxRecDepth 100000 in
theorem pushLinear_lifted(os:Os)(started:os.Started)(H:Type)(enc:TypeId×Value→H) :
  ReturnsInHanded {} Tryz.checked os 3 .any (fun w args=>(Rows.pushLinearSpec.pre enc Tryz.prog Tryz.f3 [] false w args∧laidMetH Tryz.prog laid2 w)∧sizedMet enc Tryz.prog Tryz.f3 (OpenSpec.ofChange Rows.pushLinearSpec) false w args)
   (Rows.pushLinearSpec.post enc Tryz.prog Tryz.f3 false true false false):=by
 refine returnsInHanded_of_change_and (C:=Tryz.checked) (X:=fun w _=>laidMetH Tryz.prog laid2 w) (fun _ _ _ hh h=>h.of_heap hh) Tryz.own started (by kernel_rfl) Tryz.func3
  (ChangeSpec.witness_shaped (enc:=enc) (C:=Tryz.checked) (os:=os) (X:=fun w _=>laidMetH Tryz.prog laid2 w) false (laidWorld os) #[.agg #[.slice none 0 0,.slice none 0 0,.int .i64 0,.int .i64 0],.agg #[.bool false,.slice none 0 0,.slice none 0 0,.slice none 0 0,.slice none 0 0,.bool false,.slice none 0 0,.slice none 0 0,.slice none 0 0,.slice none 0 0,.int .i64 0],.agg #[.bool false,.slice none 0 0,.slice none 0 0,.slice none 0 0,.slice none 0 0],.agg #[.bool false,.slice none 0 0,.slice none 0 0]] 8 rfl (laid_shaped os) (by kernel_rfl) (by kernel_rfl) (by kernel_rfl) (laid_met os _)) ?_
 intro W base args ds gs before hval hW _ _ hL _
 exact zt1 (P:=Tryz.prog) (m:=8) (tb:=4) (tys:=[(true,tyT),(true,tyW),(true,tyP),(true,tyF)]) rfl (by kernel_rfl) Tryz.laidOut (by kernel_rfl) (by kernel_rfl) Tryz.underlying4
  (fun ds hd=>by
   match ds,hd with
   | [d0,d1,d2,d3],_=>rfl) pushLinear_all hval hW
theorem pushLinear_inPlace:Tryz.prog.inPlace 3=Rows.pushLinearRow.inPlace:=by kernel_rfl
theorem pushLinear_unfollowed:Tryz.prog.unfollowed 3=Rows.pushLinearRow.unfollowed:=by kernel_rfl
theorem pushLinear_recurses:Tryz.prog.recurses 3=Rows.pushLinearRow.recurses:=by kernel_rfl
theorem pushLinear_named:Tryz.prog.varsNamed 3=Rows.pushLinearRow.named:=by kernel_rfl
theorem pushLinear_facts:joinedFacts Tryz.prog 3 Tryz.f3 Rows.pushLinearSpec Rows.pushLinearRow=true:=by
 unfold joinedFacts
 rw[Tryz.laidOut,Tryz.rowed,Tryz.heard,Tryz.enters,Tryz.keys,Tryz.lifts,Tryz.makes,pushLinear_inPlace,pushLinear_unfollowed,pushLinear_recurses,pushLinear_named]
 kernel_rfl
theorem pushLinear_holds:Rows.PushLinearSaid:=
 OpenClaim.holds_of_wide 3 Tryz.f3 rfl rfl rfl rfl rfl rfl rfl ⟨rfl,rfl,rfl,rfl,rfl⟩ rfl rfl rfl rfl rfl (by kernel_rfl) Tryz.func3 pushLinear_facts
  (of_decide_eq_true (by kernel_rfl)) (by unfold Func.isWrapper;first | (rw[if_pos (by decide +kernel)];kernel_rfl) | (rw[if_neg (by decide +kernel)];exact⟨rfl,rfl⟩))
  (fun os started H enc _=>pushLinear_lifted os started H enc)
theorem pushLinear_card:Rows.PushLinearCardSaid:=
 Claim7.holds_tied_plain_at .later [] [.data,.pinned] true (true,"e6eb64b98360e96efaf72b9879f6af53524594aac6076f340ba930ad937f8171") false
  pushLinear_holds (fun _ h=>by cases h) (by kernel_rfl) (fun _ h=>by cases h) pushLinear_row_tie rfl ⟨rfl,rfl⟩ (by kernel_rfl) rfl
  (fun f fn hf hfn=>by
   obtain rfl:f=3:=Option.some.inj ((show Tryz.prog.funcNamed Rows.pushLinearRow.func=some 3 by kernel_rfl).symm.trans hf) |>.symm
   obtain rfl:fn=Tryz.f3:=(Option.some.inj (Tryz.func3.symm.trans hfn)).symm
   exact⟨by kernel_rfl,fun j t ht=>by
    have hall:(Tryz.f3.params.toList.all fun u=>!Tryz.prog.wantsStandIn u)=true:=by kernel_rfl
    have hm:t∈Tryz.f3.params.toList:=by simpa using Array.mem_of_getElem? ht
    exact(show Tryz.prog.wantsStandIn t=false by simpa using List.all_eq_true.1 hall t hm)⟩)
  (by kernel_rfl)
#print axioms pushLinear_card
end Go.Proofs.YthonocjkfhnfgaaGreatDoor
end