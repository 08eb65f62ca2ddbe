/-
  For every scheme and every text: what is written of a scheme that may be is read as just that, what is read of a text may be and is written and read as the same, and what the companion is away by has the sum 0: the function answers true
  Conditions: none beyond those that the theorems state. (Part 7: RbSchemeBack.)
-/
import Derived.Test.YtoppjelfghopnaaGreatDoorPart6

set_option linter.unusedSectionVars false
set_option linter.unusedVariables false
set_option linter.unusedSimpArgs false
set_option linter.unnecessarySimpa false

section
namespace Go.Proofs.YtoppjelfghopnaaGreatDoor
open Go Go.Ab Go.ChangeShapes Go.WideShapes Go.ChangeAt Go.RowKit
theorem schemeBack_all(xs:List AV)(h:Zhf [(true,Zjf),(false,.str)] xs):Z7 Tryz.prog 4 xs (·=.b true):=by
 obtain⟨x,l0,rfl,hx,y,l1,rfl,hy,rfl⟩:=h;obtain⟨ax,ex⟩:=z0n hx;obtain⟨ay,rfl,by_⟩:=z0o hy;exact zqn (u:=624) (af:=row624) tab_all lTab_part Tryz.mixed (by kernel_rfl) rfl (zkc (T:=tab) ax ay) (by simp[ex,wkA])
set_option maxRecDepth 100000 in
theorem schemeBack_lifted(os:Os)(started:os.Started)(H:Type)(enc:TypeId×Value→H) :
  ReturnsInHanded {} Tryz.checked os 4 .any (fun w args=>(Rows.schemeBackSpec.pre enc Tryz.prog Tryz.f4 [] false w args∧laidMetH Tryz.prog laid2 w)∧sizedMet enc Tryz.prog Tryz.f4 (OpenSpec.ofChange Rows.schemeBackSpec) false w args)
   (Rows.schemeBackSpec.post enc Tryz.prog Tryz.f4 false true false false):=by
 refine returnsInHanded_of_change_and (C:=Tryz.checked) (X:=fun w _=>laidMetH Tryz.prog laid2 w) (fun _ _ _ hh h=>h.of_heap hh) Tryz.own started (by kernel_rfl) Tryz.func4
  (ChangeSpec.witness_shaped (enc:=enc) (C:=Tryz.checked) (os:=os) (X:=fun w _=>laidMetH Tryz.prog laid2 w) false (laidWorld os) #[.agg #[.string ⟨#[]⟩,.slice none 0 0,.slice none 0 0,.slice none 0 0,.slice none 0 0],.string ⟨#[]⟩] 8 rfl (laid_shaped os) (by kernel_rfl) (by kernel_rfl) (by kernel_rfl) (laid_met os _)) ?_
 intro W base args ds gs before hval hW _ _ hL _;exact zwg (P:=Tryz.prog) (m:=8) (tb:=4) (tys:=[(true,Zjf),(false,.str)]) rfl (by kernel_rfl) Tryz.laidOut (by kernel_rfl) (by kernel_rfl) Tryz.underlying4
  (fun ds hd=>by
   match ds,hd with
   | [d0,d1],_=>rfl) schemeBack_all hval hW
theorem schemeBack_inPlace:Tryz.prog.inPlace 4=Rows.schemeBackRow.inPlace:=by kernel_rfl
theorem schemeBack_unfollowed:Tryz.prog.unfollowed 4=Rows.schemeBackRow.unfollowed:=by kernel_rfl
theorem schemeBack_recurses:Tryz.prog.recurses 4=Rows.schemeBackRow.recurses:=by kernel_rfl
theorem schemeBack_named:Tryz.prog.varsNamed 4=Rows.schemeBackRow.named:=by kernel_rfl
theorem schemeBack_facts:joinedFacts Tryz.prog 4 Tryz.f4 Rows.schemeBackSpec Rows.schemeBackRow=true:=by
 unfold joinedFacts;rw[Tryz.laidOut,Tryz.rowed,Tryz.heard,Tryz.enters,Tryz.keys,Tryz.lifts,Tryz.makes,schemeBack_inPlace,schemeBack_unfollowed,schemeBack_recurses,schemeBack_named]
 kernel_rfl
theorem schemeBack_holds:Rows.SchemeBackSaid:=
 OpenClaim.holds_of_wide 4 Tryz.f4 rfl rfl rfl rfl rfl rfl rfl ⟨rfl,rfl,rfl,rfl,rfl⟩ rfl rfl rfl rfl rfl (by kernel_rfl) Tryz.func4 schemeBack_facts
  (of_decide_eq_true (by kernel_rfl)) (by unfold Func.isWrapper;first | (rw[if_pos (by decide +kernel)];kernel_rfl) | (rw[if_neg (by decide +kernel)];exact⟨rfl,rfl⟩))
  (fun os started H enc _=>schemeBack_lifted os started H enc)
theorem schemeBack_card:Rows.SchemeBackCardSaid:=
 Claim7.holds_tied_plain_at .later [] [.data,.pinned] true (true,"9b63a77b66b68769912c10d8559d3fce1c0847084f2fb6551fce7fb0508497c4") false
  schemeBack_holds (fun _ h=>by cases h) (by kernel_rfl) (fun _ h=>by cases h) schemeBack_row_tie rfl ⟨rfl,rfl⟩ (by kernel_rfl) rfl
  (fun f fn hf hfn=>by
   obtain rfl:f=4:=Option.some.inj ((show Tryz.prog.funcNamed Rows.schemeBackRow.func=some 4 by kernel_rfl).symm.trans hf) |>.symm;obtain rfl:fn=Tryz.f4:=(Option.some.inj (Tryz.func4.symm.trans hfn)).symm;exact⟨by kernel_rfl,fun j t ht=>by
    have hall:(Tryz.f4.params.toList.all fun u=>!Tryz.prog.wantsStandIn u)=true:=by kernel_rfl
    have hm:t∈Tryz.f4.params.toList:=by simpa using Array.mem_of_getElem? ht
    exact(show Tryz.prog.wantsStandIn t=false by simpa using Yi.1 hall t hm)⟩)
  (by kernel_rfl)
#print axioms schemeBack_card
end Go.Proofs.YtoppjelfghopnaaGreatDoor
end