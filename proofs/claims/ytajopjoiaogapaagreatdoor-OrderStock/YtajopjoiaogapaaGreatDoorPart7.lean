/-
  The schemes of the stock have the orders that they are known for: OrderStock answers true, with no condition.
  Conditions: none beyond those that the theorems state. (Part 7.)
-/
import Derived.Test.YtajopjoiaogapaaGreatDoorPart6

set_option linter.unusedSectionVars false
set_option linter.unusedVariables false
set_option linter.unusedSimpArgs false
set_option linter.unnecessarySimpa false

section
namespace Go.Proofs.YtajopjoiaogapaaGreatDoor
open Go Go.Ab Go.ChangeShapes Go.WideShapes Go.ChangeAt Go.RowKit
theorem orderStock_all(xs:List AV)(h:OkArgs [] xs):PCall Tryz.prog 5 xs (·=.b true):=by
 have h:xs=[]:=h
 subst h
 exact zoo (u:=639) (af:=row639) tab_all lTab_part Tryz.mixed (by kernel_rfl) rfl (zl7 (T:=tab)) (rfl)
set_option maxRecDepth 100000 in
theorem orderStock_lifted(os:Os)(started:os.Started)(H:Type)(enc:TypeId×Value→H) :
  ReturnsInHanded {} Tryz.checked os 5 .any (fun w args=>(Rows.orderStockSpec.pre enc Tryz.prog Tryz.f5 [] false w args∧laidMetH Tryz.prog laid2 w)∧sizedMet enc Tryz.prog Tryz.f5 (OpenSpec.ofChange Rows.orderStockSpec) false w args)
   (Rows.orderStockSpec.post enc Tryz.prog Tryz.f5 false true false false):=by
 refine returnsInHanded_of_change_and (C:=Tryz.checked) (X:=fun w _=>laidMetH Tryz.prog laid2 w) (fun _ _ _ hh h=>h.of_heap hh) Tryz.own started (by kernel_rfl) Tryz.func5
  (ChangeSpec.witness_shaped (enc:=enc) (C:=Tryz.checked) (os:=os) (X:=fun w _=>laidMetH Tryz.prog laid2 w) false (laidWorld os) #[] 8 rfl (laid_shaped os) (by kernel_rfl) (by kernel_rfl) (by kernel_rfl) (laid_met os _)) ?_
 intro W base args ds gs before hval hW _ _ hL _
 exact ztx (P:=Tryz.prog) (m:=8) (tb:=4) (tys:=[]) rfl (by kernel_rfl) Tryz.laidOut (by kernel_rfl) (by kernel_rfl) Tryz.underlying4
  (fun ds hd=>by
   match ds,hd with
   | [],_=>rfl) orderStock_all hval hW
theorem orderStock_inPlace:Tryz.prog.inPlace 5=Rows.orderStockRow.inPlace:=by kernel_rfl
theorem orderStock_unfollowed:Tryz.prog.unfollowed 5=Rows.orderStockRow.unfollowed:=by kernel_rfl
theorem orderStock_recurses:Tryz.prog.recurses 5=Rows.orderStockRow.recurses:=by kernel_rfl
theorem orderStock_named:Tryz.prog.varsNamed 5=Rows.orderStockRow.named:=by kernel_rfl
theorem orderStock_facts:joinedFacts Tryz.prog 5 Tryz.f5 Rows.orderStockSpec Rows.orderStockRow=true:=by
 unfold joinedFacts
 rw[Tryz.laidOut,Tryz.rowed,Tryz.heard,Tryz.enters,Tryz.keys,Tryz.lifts,Tryz.makes,orderStock_inPlace,orderStock_unfollowed,orderStock_recurses,orderStock_named]
 kernel_rfl
theorem orderStock_holds:Rows.OrderStockSaid:=
 OpenClaim.holds_of_wide 5 Tryz.f5 rfl rfl rfl rfl rfl rfl rfl ⟨rfl,rfl,rfl,rfl,rfl⟩ rfl rfl rfl rfl rfl (by kernel_rfl) Tryz.func5 orderStock_facts
  (of_decide_eq_true (by kernel_rfl)) (by unfold Func.isWrapper;first | (rw[if_pos (by decide +kernel)];kernel_rfl) | (rw[if_neg (by decide +kernel)];exact⟨rfl,rfl⟩))
  (fun os started H enc _=>orderStock_lifted os started H enc)
theorem orderStock_card:Rows.OrderStockCardSaid:=
 Claim7.holds_tied_plain_at .later [] [.data,.pinned] true (true,"0c4996b7bf731108389ec4928a897051a880df7ff91f66bf4be68484c86caf89") false
  orderStock_holds (fun _ h=>by cases h) (by kernel_rfl) (fun _ h=>by cases h) orderStock_row_tie rfl ⟨rfl,rfl⟩ (by kernel_rfl) rfl
  (fun f fn hf hfn=>by
   obtain rfl:f=5:=Option.some.inj ((show Tryz.prog.funcNamed Rows.orderStockRow.func=some 5 by kernel_rfl).symm.trans hf) |>.symm
   obtain rfl:fn=Tryz.f5:=(Option.some.inj (Tryz.func5.symm.trans hfn)).symm
   exact⟨by kernel_rfl,fun j t ht=>by
    have hall:(Tryz.f5.params.toList.all fun u=>!Tryz.prog.wantsStandIn u)=true:=by kernel_rfl
    have hm:t∈Tryz.f5.params.toList:=by simpa using Array.mem_of_getElem? ht
    exact(show Tryz.prog.wantsStandIn t=false by simpa using List.all_eq_true.1 hall t hm)⟩)
  (by kernel_rfl)
#print axioms orderStock_card
end Go.Proofs.YtajopjoiaogapaaGreatDoor
end