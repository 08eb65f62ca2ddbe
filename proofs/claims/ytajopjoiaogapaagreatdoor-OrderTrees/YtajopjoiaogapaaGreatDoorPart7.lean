/-
  Whatever the number of nodes and whatever the levels, OrderTrees answers true: no further condition.
  Conditions: none beyond those that the theorems state. (Part 7.)
-/
import Derived.Test.YtajopjoiaogapaaGreatDoorPart6

set_option linter.unusedSectionVars false
set_option linter.unusedVariables false
set_option linter.unusedSimpArgs false
set_option linter.unnecessarySimpa false

section
namespace Go.Proofs.YtajopjoiaogapaaGreatDoor
open Go Go.Ab Go.ChangeShapes Go.WideShapes Go.ChangeAt Go.RowKit
theorem orderTrees_all(xs:List AV)(h:OkArgs [(false,.int .i64),(false,.sl (.int .i64))] xs):PCall Tryz.prog 3 xs (·=.b true):=by
 obtain⟨x,l0,rfl,hx,y,l1,rfl,hy,rfl⟩:=h
 obtain⟨ax,rfl,bx_,cx⟩:=zx8 hx
 obtain⟨ay,ey,by_⟩:=zum hy
 exact zow (u:=586) (af:=row586) tab_all lTab_part Tryz.mixed (by kernel_rfl) rfl (zma (T:=tab) ax ay by_) (by simp[ey,wkA])
set_option maxRecDepth 100000 in
theorem orderTrees_lifted(os:Os)(started:os.Started)(H:Type)(enc:TypeId×Value→H) :
  ReturnsInHanded {} Tryz.checked os 3 .any (fun w args=>(Rows.orderTreesSpec.pre enc Tryz.prog Tryz.f3 [] false w args∧laidMetH Tryz.prog laid2 w)∧sizedMet enc Tryz.prog Tryz.f3 (OpenSpec.ofChange Rows.orderTreesSpec) false w args)
   (Rows.orderTreesSpec.post enc Tryz.prog Tryz.f3 false true false false):=by
 refine returnsInHanded_of_change_and (C:=Tryz.checked) (X:=fun w _=>laidMetH Tryz.prog laid2 w) (fun _ _ _ hh h=>h.of_heap hh) Tryz.own started (by kernel_rfl) Tryz.func3
  (ChangeSpec.witness_shaped (enc:=enc) (C:=Tryz.checked) (os:=os) (X:=fun w _=>laidMetH Tryz.prog laid2 w) false (laidWorld os) #[.int .i64 0,.slice none 0 0] 8 rfl (laid_shaped os) (by kernel_rfl) (by kernel_rfl) (by kernel_rfl) (laid_met os _)) ?_
 intro W base args ds gs before hval hW _ _ hL _
 exact zt6 (P:=Tryz.prog) (m:=8) (tb:=4) (tys:=[(false,.int .i64),(false,.sl (.int .i64))]) rfl (by kernel_rfl) Tryz.laidOut (by kernel_rfl) (by kernel_rfl) Tryz.underlying4
  (fun ds hd=>by
   match ds,hd with
   | [d0,d1],_=>rfl) orderTrees_all hval hW
theorem orderTrees_inPlace:Tryz.prog.inPlace 3=Rows.orderTreesRow.inPlace:=by kernel_rfl
theorem orderTrees_unfollowed:Tryz.prog.unfollowed 3=Rows.orderTreesRow.unfollowed:=by kernel_rfl
theorem orderTrees_recurses:Tryz.prog.recurses 3=Rows.orderTreesRow.recurses:=by kernel_rfl
theorem orderTrees_named:Tryz.prog.varsNamed 3=Rows.orderTreesRow.named:=by kernel_rfl
theorem orderTrees_facts:joinedFacts Tryz.prog 3 Tryz.f3 Rows.orderTreesSpec Rows.orderTreesRow=true:=by
 unfold joinedFacts
 rw[Tryz.laidOut,Tryz.rowed,Tryz.heard,Tryz.enters,Tryz.keys,Tryz.lifts,Tryz.makes,orderTrees_inPlace,orderTrees_unfollowed,orderTrees_recurses,orderTrees_named]
 kernel_rfl
theorem orderTrees_holds:Rows.OrderTreesSaid:=
 OpenClaim.holds_of_wide 3 Tryz.f3 rfl rfl rfl rfl rfl rfl rfl ⟨rfl,rfl,rfl,rfl,rfl⟩ rfl rfl rfl rfl rfl (by kernel_rfl) Tryz.func3 orderTrees_facts
  (of_decide_eq_true (by kernel_rfl)) (by unfold Func.isWrapper;first | (rw[if_pos (by decide +kernel)];kernel_rfl) | (rw[if_neg (by decide +kernel)];exact⟨rfl,rfl⟩))
  (fun os started H enc _=>orderTrees_lifted os started H enc)
theorem orderTrees_card:Rows.OrderTreesCardSaid:=
 Claim7.holds_tied_plain_at .later [] [.data,.pinned] true (true,"0c4996b7bf731108389ec4928a897051a880df7ff91f66bf4be68484c86caf89") false
  orderTrees_holds (fun _ h=>by cases h) (by kernel_rfl) (fun _ h=>by cases h) orderTrees_row_tie rfl ⟨rfl,rfl⟩ (by kernel_rfl) rfl
  (fun f fn hf hfn=>by
   obtain rfl:f=3:=Option.some.inj ((show Tryz.prog.funcNamed Rows.orderTreesRow.func=some 3 by kernel_rfl).symm.trans hf) |>.symm
   obtain rfl:fn=Tryz.f3:=(Option.some.inj (Tryz.func3.symm.trans hfn)).symm
   exact⟨by kernel_rfl,fun j t ht=>by
    have hall:(Tryz.f3.params.toList.all fun u=>!Tryz.prog.wantsStandIn u)=true:=by kernel_rfl
    have hm:t∈Tryz.f3.params.toList:=by simpa using Array.mem_of_getElem? ht
    exact(show Tryz.prog.wantsStandIn t=false by simpa using List.all_eq_true.1 hall t hm)⟩)
  (by kernel_rfl)
#print axioms orderTrees_card
end Go.Proofs.YtajopjoiaogapaaGreatDoor
end