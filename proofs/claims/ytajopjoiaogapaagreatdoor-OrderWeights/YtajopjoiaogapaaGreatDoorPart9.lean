/-
  Whatever the scheme, the row and the levels, OrderWeights answers true: no further condition.
  Conditions: none beyond those that the theorems state. (Part 9.)
-/
import Derived.Test.YtajopjoiaogapaaGreatDoorPart8

set_option linter.unusedSectionVars false
set_option linter.unusedVariables false
set_option linter.unusedSimpArgs false
set_option linter.unnecessarySimpa false

section
namespace Go.Proofs.YtajopjoiaogapaaGreatDoor
open Go Go.Ab Go.ChangeShapes Go.WideShapes Go.ChangeAt Go.RowKit
theorem orderWeights_all(xs:List AV)(h:Zio [(true,Zk6),(false,.sl tyF),(false,.sl (.int .i64))] xs):Zal Tryz.prog 4 xs (·=.b true):=by
 obtain⟨x,l0,rfl,hx,y,l1,rfl,hy,z,l2,rfl,hz,rfl⟩:=h;obtain⟨ax,ex⟩:=z24 hx;obtain⟨ay,ey⟩:=z25 hy;obtain⟨az,ez,bz_⟩:=zyz hz;exact zr0 (u:=638) (af:=row638) tab_all lTab_part Tryz.mixed (by kernel_rfl) rfl (zkv (T:=tab) ax ay az bz_) (by simp[ex,ey,ez])
set_option maxRecDepth 100000 in
theorem orderWeights_lifted(os:Os)(started:os.Started)(H:Type)(enc:TypeId×Value→H) :
  ReturnsInHanded {} Tryz.checked os 4 .any (fun w args=>(Rows.orderWeightsSpec.pre enc Tryz.prog Tryz.f4 [] false w args∧laidMetH Tryz.prog laid2 w)∧sizedMet enc Tryz.prog Tryz.f4 (OpenSpec.ofChange Rows.orderWeightsSpec) false w args)
   (Rows.orderWeightsSpec.post enc Tryz.prog Tryz.f4 false true false false):=by
 refine returnsInHanded_of_change_and (C:=Tryz.checked) (X:=fun w _=>laidMetH Tryz.prog laid2 w) (fun _ _ _ hh h=>h.of_heap hh) Tryz.own started (by kernel_rfl) Tryz.func4
  (ChangeSpec.witness_shaped (enc:=enc) (C:=Tryz.checked) (os:=os) (X:=fun w _=>laidMetH Tryz.prog laid2 w) false (laidWorld os) #[.agg #[.string ⟨#[]⟩,.slice none 0 0,.slice none 0 0,.slice none 0 0,.slice none 0 0],.slice none 0 0,.slice none 0 0] 8 rfl (laid_shaped os) (by kernel_rfl) (by kernel_rfl) (by kernel_rfl) (laid_met os _)) ?_
 intro W base args ds gs before hval hW _ _ hL _;exact zyk (P:=Tryz.prog) (m:=8) (tb:=4) (tys:=[(true,Zk6),(false,.sl tyF),(false,.sl (.int .i64))]) rfl (by kernel_rfl) Tryz.laidOut (by kernel_rfl) (by kernel_rfl) Tryz.underlying4
  (fun ds hd=>by
   match ds,hd with
   | [d0,d1,d2],_=>rfl) orderWeights_all hval hW
theorem orderWeights_inPlace:Tryz.prog.inPlace 4=Rows.orderWeightsRow.inPlace:=by kernel_rfl
theorem orderWeights_unfollowed:Tryz.prog.unfollowed 4=Rows.orderWeightsRow.unfollowed:=by kernel_rfl
theorem orderWeights_recurses:Tryz.prog.recurses 4=Rows.orderWeightsRow.recurses:=by kernel_rfl
theorem orderWeights_named:Tryz.prog.varsNamed 4=Rows.orderWeightsRow.named:=by kernel_rfl
theorem orderWeights_facts:joinedFacts Tryz.prog 4 Tryz.f4 Rows.orderWeightsSpec Rows.orderWeightsRow=true:=by
 unfold joinedFacts;rw[Tryz.laidOut,Tryz.rowed,Tryz.heard,Tryz.enters,Tryz.keys,Tryz.lifts,Tryz.makes,orderWeights_inPlace,orderWeights_unfollowed,orderWeights_recurses,orderWeights_named]
 kernel_rfl
theorem orderWeights_holds:Rows.OrderWeightsSaid:=
 OpenClaim.holds_of_wide 4 Tryz.f4 rfl rfl rfl rfl rfl rfl rfl ⟨rfl,rfl,rfl,rfl,rfl⟩ rfl rfl rfl rfl rfl (by kernel_rfl) Tryz.func4 orderWeights_facts
  (of_decide_eq_true (by kernel_rfl)) (by unfold Func.isWrapper;first | (rw[if_pos (by decide +kernel)];kernel_rfl) | (rw[if_neg (by decide +kernel)];exact⟨rfl,rfl⟩))
  (fun os started H enc _=>orderWeights_lifted os started H enc)
theorem orderWeights_card:Rows.OrderWeightsCardSaid:=
 Claim7.holds_tied_plain_at .later [] [.data,.pinned] true (true,"0c4996b7bf731108389ec4928a897051a880df7ff91f66bf4be68484c86caf89") false
  orderWeights_holds (fun _ h=>by cases h) (by kernel_rfl) (fun _ h=>by cases h) orderWeights_row_tie rfl ⟨rfl,rfl⟩ (by kernel_rfl) rfl
  (fun f fn hf hfn=>by
   obtain rfl:f=4:=Option.some.inj ((show Tryz.prog.funcNamed Rows.orderWeightsRow.func=some 4 by kernel_rfl).symm.trans hf) |>.symm;obtain rfl:fn=Tryz.f4:=(Option.some.inj (Tryz.func4.symm.trans hfn)).symm;exact⟨by kernel_rfl,fun j t ht=>by
    have hall:(Tryz.f4.params.toList.all fun u=>!Tryz.prog.wantsStandIn u)=true:=by kernel_rfl
    have hm:t∈Tryz.f4.params.toList:=by simpa using Array.mem_of_getElem? ht
    exact(show Tryz.prog.wantsStandIn t=false by simpa using Yf.1 hall t hm)⟩)
  (by kernel_rfl)
#print axioms orderWeights_card
end Go.Proofs.YtajopjoiaogapaaGreatDoor
end