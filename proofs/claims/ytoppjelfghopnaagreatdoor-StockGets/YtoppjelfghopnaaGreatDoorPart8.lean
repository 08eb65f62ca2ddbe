/-
  For every text: the scheme of that name, the scheme of that name or text, or what is wrong, are as the document has them: the function answers true
  Conditions: none beyond those that the theorems state. (Part 8: RgStockGets.)
-/
import Derived.Test.YtoppjelfghopnaaGreatDoorPart7

set_option linter.unusedSectionVars false
set_option linter.unusedVariables false
set_option linter.unusedSimpArgs false
set_option linter.unnecessarySimpa false

section
namespace Go.Proofs.YtoppjelfghopnaaGreatDoor
open Go Go.Ab Go.ChangeShapes Go.WideShapes Go.ChangeAt Go.RowKit
theorem stockGets_all(xs:List AV)(h:Zhu [(false,.str)] xs):Zaq Tryz.prog 3 xs (·=.b true):=by
 obtain⟨x,l0,rfl,hx,rfl⟩:=h;obtain⟨ax,rfl,bx_⟩:=z1q hx;exact zqu (u:=623) (af:=row623) tab_all lTab_part Tryz.mixed (by kernel_rfl) rfl (zkt (T:=tab) ax) (by simp[wkA])
set_option maxRecDepth 100000 in
theorem stockGets_lifted(os:Os)(started:os.Started)(H:Type)(enc:TypeId×Value→H) :
  ReturnsInHanded {} Tryz.checked os 3 .any (fun w args=>(Rows.stockGetsSpec.pre enc Tryz.prog Tryz.f3 [] false w args∧laidMetH Tryz.prog laid2 w)∧sizedMet enc Tryz.prog Tryz.f3 (OpenSpec.ofChange Rows.stockGetsSpec) false w args)
   (Rows.stockGetsSpec.post enc Tryz.prog Tryz.f3 false true false false):=by
 refine returnsInHanded_of_change_and (C:=Tryz.checked) (X:=fun w _=>laidMetH Tryz.prog laid2 w) (fun _ _ _ hh h=>h.of_heap hh) Tryz.own started (by kernel_rfl) Tryz.func3
  (ChangeSpec.witness_shaped (enc:=enc) (C:=Tryz.checked) (os:=os) (X:=fun w _=>laidMetH Tryz.prog laid2 w) false (laidWorld os) #[.string ⟨#[]⟩] 8 rfl (laid_shaped os) (by kernel_rfl) (by kernel_rfl) (by kernel_rfl) (laid_met os _)) ?_
 intro W base args ds gs before hval hW _ _ hL _;exact zxb (P:=Tryz.prog) (m:=8) (tb:=4) (tys:=[(false,.str)]) rfl (by kernel_rfl) Tryz.laidOut (by kernel_rfl) (by kernel_rfl) Tryz.underlying4
  (fun ds hd=>by
   match ds,hd with
   | [d0],_=>rfl) stockGets_all hval hW
theorem stockGets_inPlace:Tryz.prog.inPlace 3=Rows.stockGetsRow.inPlace:=by kernel_rfl
theorem stockGets_unfollowed:Tryz.prog.unfollowed 3=Rows.stockGetsRow.unfollowed:=by kernel_rfl
theorem stockGets_recurses:Tryz.prog.recurses 3=Rows.stockGetsRow.recurses:=by kernel_rfl
theorem stockGets_named:Tryz.prog.varsNamed 3=Rows.stockGetsRow.named:=by kernel_rfl
theorem stockGets_facts:joinedFacts Tryz.prog 3 Tryz.f3 Rows.stockGetsSpec Rows.stockGetsRow=true:=by
 unfold joinedFacts;rw[Tryz.laidOut,Tryz.rowed,Tryz.heard,Tryz.enters,Tryz.keys,Tryz.lifts,Tryz.makes,stockGets_inPlace,stockGets_unfollowed,stockGets_recurses,stockGets_named]
 kernel_rfl
theorem stockGets_holds:Rows.StockGetsSaid:=
 OpenClaim.holds_of_wide 3 Tryz.f3 rfl rfl rfl rfl rfl rfl rfl ⟨rfl,rfl,rfl,rfl,rfl⟩ rfl rfl rfl rfl rfl (by kernel_rfl) Tryz.func3 stockGets_facts
  (of_decide_eq_true (by kernel_rfl)) (by unfold Func.isWrapper;first | (rw[if_pos (by decide +kernel)];kernel_rfl) | (rw[if_neg (by decide +kernel)];exact⟨rfl,rfl⟩))
  (fun os started H enc _=>stockGets_lifted os started H enc)
theorem stockGets_card:Rows.StockGetsCardSaid:=
 Claim7.holds_tied_plain_at .later [] [.data,.pinned] true (true,"9b63a77b66b68769912c10d8559d3fce1c0847084f2fb6551fce7fb0508497c4") false
  stockGets_holds (fun _ h=>by cases h) (by kernel_rfl) (fun _ h=>by cases h) stockGets_row_tie rfl ⟨rfl,rfl⟩ (by kernel_rfl) rfl
  (fun f fn hf hfn=>by
   obtain rfl:f=3:=Option.some.inj ((show Tryz.prog.funcNamed Rows.stockGetsRow.func=some 3 by kernel_rfl).symm.trans hf) |>.symm;obtain rfl:fn=Tryz.f3:=(Option.some.inj (Tryz.func3.symm.trans hfn)).symm;exact⟨by kernel_rfl,fun j t ht=>by
    have hall:(Tryz.f3.params.toList.all fun u=>!Tryz.prog.wantsStandIn u)=true:=by kernel_rfl
    have hm:t∈Tryz.f3.params.toList:=by simpa using Array.mem_of_getElem? ht
    exact(show Tryz.prog.wantsStandIn t=false by simpa using Yh.1 hall t hm)⟩)
  (by kernel_rfl)
#print axioms stockGets_card
end Go.Proofs.YtoppjelfghopnaaGreatDoor
end