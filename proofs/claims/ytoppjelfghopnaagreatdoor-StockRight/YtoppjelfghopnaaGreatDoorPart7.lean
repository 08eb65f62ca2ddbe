/-
  Each of the well-known schemes may be, has the name under which it stands, and is read from its text as it was: the function answers true
  Conditions: none beyond those that the theorems state. (Part 7: RrStockRight.)
-/
import Derived.Test.YtoppjelfghopnaaGreatDoorPart6

set_option linter.unusedSectionVars false
set_option linter.unusedVariables false
set_option linter.unusedSimpArgs false
set_option linter.unnecessarySimpa false

section
namespace Go.Proofs.YtoppjelfghopnaaGreatDoor
open Go Go.Ab Go.ChangeShapes Go.WideShapes Go.ChangeAt Go.RowKit
theorem stockRight_all(xs:List AV)(h:Zg2 [] xs):Z6 Tryz.prog 5 xs (·=.b true):=by
 have h:xs=[]:=h;subst h;exact zp6 (u:=625) (af:=row625) tab_all lTab_part Tryz.mixed (by kernel_rfl) rfl (zhz (T:=tab)) (rfl)
set_option maxRecDepth 100000 in
theorem stockRight_lifted(os:Os)(started:os.Started)(H:Type)(enc:TypeId×Value→H) :
  ReturnsInHanded {} Tryz.checked os 5 .any (fun w args=>(Rows.stockRightSpec.pre enc Tryz.prog Tryz.f5 [] false w args∧laidMetH Tryz.prog laid2 w)∧sizedMet enc Tryz.prog Tryz.f5 (OpenSpec.ofChange Rows.stockRightSpec) false w args)
   (Rows.stockRightSpec.post enc Tryz.prog Tryz.f5 false true false false):=by
 refine returnsInHanded_of_change_and (C:=Tryz.checked) (X:=fun w _=>laidMetH Tryz.prog laid2 w) (fun _ _ _ hh h=>h.of_heap hh) Tryz.own started (by kernel_rfl) Tryz.func5
  (ChangeSpec.witness_shaped (enc:=enc) (C:=Tryz.checked) (os:=os) (X:=fun w _=>laidMetH Tryz.prog laid2 w) false (laidWorld os) #[] 8 rfl (laid_shaped os) (by kernel_rfl) (by kernel_rfl) (by kernel_rfl) (laid_met os _)) ?_
 intro W base args ds gs before hval hW _ _ hL _;exact zvt (P:=Tryz.prog) (m:=8) (tb:=4) (tys:=[]) rfl (by kernel_rfl) Tryz.laidOut (by kernel_rfl) (by kernel_rfl) Tryz.underlying4
  (fun ds hd=>by
   match ds,hd with
   | [],_=>rfl) stockRight_all hval hW
theorem stockRight_inPlace:Tryz.prog.inPlace 5=Rows.stockRightRow.inPlace:=by kernel_rfl
theorem stockRight_unfollowed:Tryz.prog.unfollowed 5=Rows.stockRightRow.unfollowed:=by kernel_rfl
theorem stockRight_recurses:Tryz.prog.recurses 5=Rows.stockRightRow.recurses:=by kernel_rfl
theorem stockRight_named:Tryz.prog.varsNamed 5=Rows.stockRightRow.named:=by kernel_rfl
theorem stockRight_facts:joinedFacts Tryz.prog 5 Tryz.f5 Rows.stockRightSpec Rows.stockRightRow=true:=by
 unfold joinedFacts;rw[Tryz.laidOut,Tryz.rowed,Tryz.heard,Tryz.enters,Tryz.keys,Tryz.lifts,Tryz.makes,stockRight_inPlace,stockRight_unfollowed,stockRight_recurses,stockRight_named]
 kernel_rfl
theorem stockRight_holds:Rows.StockRightSaid:=
 OpenClaim.holds_of_wide 5 Tryz.f5 rfl rfl rfl rfl rfl rfl rfl ⟨rfl,rfl,rfl,rfl,rfl⟩ rfl rfl rfl rfl rfl (by kernel_rfl) Tryz.func5 stockRight_facts
  (of_decide_eq_true (by kernel_rfl)) (by unfold Func.isWrapper;first | (rw[if_pos (by decide +kernel)];kernel_rfl) | (rw[if_neg (by decide +kernel)];exact⟨rfl,rfl⟩))
  (fun os started H enc _=>stockRight_lifted os started H enc)
theorem stockRight_card:Rows.StockRightCardSaid:=
 Claim7.holds_tied_plain_at .later [] [.data,.pinned] true (true,"9b63a77b66b68769912c10d8559d3fce1c0847084f2fb6551fce7fb0508497c4") false
  stockRight_holds (fun _ h=>by cases h) (by kernel_rfl) (fun _ h=>by cases h) stockRight_row_tie rfl ⟨rfl,rfl⟩ (by kernel_rfl) rfl
  (fun f fn hf hfn=>by
   obtain rfl:f=5:=Option.some.inj ((show Tryz.prog.funcNamed Rows.stockRightRow.func=some 5 by kernel_rfl).symm.trans hf) |>.symm;obtain rfl:fn=Tryz.f5:=(Option.some.inj (Tryz.func5.symm.trans hfn)).symm;exact⟨by kernel_rfl,fun j t ht=>by
    have hall:(Tryz.f5.params.toList.all fun u=>!Tryz.prog.wantsStandIn u)=true:=by kernel_rfl
    have hm:t∈Tryz.f5.params.toList:=by simpa using Array.mem_of_getElem? ht
    exact(show Tryz.prog.wantsStandIn t=false by simpa using Ye.1 hall t hm)⟩)
  (by kernel_rfl)
#print axioms stockRight_card
end Go.Proofs.YtoppjelfghopnaaGreatDoor
end