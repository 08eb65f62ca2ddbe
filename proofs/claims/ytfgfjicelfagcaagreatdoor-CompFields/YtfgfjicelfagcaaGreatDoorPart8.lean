/-
  CompFields: a field compiled is the document's tape, its places and what is saved.
  Conditions: none beyond those that the theorems state. (Part 8.)
-/
import Derived.Test.YtfgfjicelfagcaaGreatDoorPart7

set_option linter.unusedSectionVars false
set_option linter.unusedVariables false
set_option linter.unusedSimpArgs false
set_option linter.unnecessarySimpa false

section
namespace Go.Proofs.YtfgfjicelfagcaaGreatDoor
open Go Go.Ab Go.ChangeShapes Go.WideShapes Go.ChangeAt Go.RowKit
theorem compFields_all(xs:List AV)(h:OkArgs [(true,tyD),(false,.int .i64)] xs):PCall Tryz.prog 3 xs (·=.b true):=by
 obtain⟨x,l0,rfl,hx,y,l1,rfl,hy,rfl⟩:=h
 obtain⟨ax,ex⟩:=zuj hx
 obtain⟨ay,rfl,by_,cy⟩:=z02 hy
 exact zq4 (u:=655) (af:=row655) tab_all lTab_part Tryz.mixed (by kernel_rfl) rfl (zmj (T:=tab) ax ay) (by simp[ex,wkA])
set_option maxRecDepth 100000 in
theorem compFields_lifted(os:Os)(started:os.Started)(H:Type)(enc:TypeId×Value→H) :
  ReturnsInHanded {} Tryz.checked os 3 .any (fun w args=>(Rows.compFieldsSpec.pre enc Tryz.prog Tryz.f3 [] false w args∧laidMetH Tryz.prog laid2 w)∧sizedMet enc Tryz.prog Tryz.f3 (OpenSpec.ofChange Rows.compFieldsSpec) false w args)
   (Rows.compFieldsSpec.post enc Tryz.prog Tryz.f3 false true false false):=by
 refine returnsInHanded_of_change_and (C:=Tryz.checked) (X:=fun w _=>laidMetH Tryz.prog laid2 w) (fun _ _ _ hh h=>h.of_heap hh) Tryz.own started (by kernel_rfl) Tryz.func3
  (ChangeSpec.witness_shaped (enc:=enc) (C:=Tryz.checked) (os:=os) (X:=fun w _=>laidMetH Tryz.prog laid2 w) false (laidWorld os) #[.agg #[.slice none 0 0,.slice none 0 0],.int .i64 0] 8 rfl (laid_shaped os) (by kernel_rfl) (by kernel_rfl) (by kernel_rfl) (laid_met os _)) ?_
 intro W base args ds gs before hval hW _ _ hL _
 exact zxb (P:=Tryz.prog) (m:=8) (tb:=4) (tys:=[(true,tyD),(false,.int .i64)]) rfl (by kernel_rfl) Tryz.laidOut (by kernel_rfl) (by kernel_rfl) Tryz.underlying4
  (fun ds hd=>by
   match ds,hd with
   | [d0,d1],_=>rfl) compFields_all hval hW
theorem compFields_inPlace:Tryz.prog.inPlace 3=Rows.compFieldsRow.inPlace:=by kernel_rfl
theorem compFields_unfollowed:Tryz.prog.unfollowed 3=Rows.compFieldsRow.unfollowed:=by kernel_rfl
theorem compFields_recurses:Tryz.prog.recurses 3=Rows.compFieldsRow.recurses:=by kernel_rfl
theorem compFields_named:Tryz.prog.varsNamed 3=Rows.compFieldsRow.named:=by kernel_rfl
theorem compFields_facts:joinedFacts Tryz.prog 3 Tryz.f3 Rows.compFieldsSpec Rows.compFieldsRow=true:=by
 unfold joinedFacts
 rw[Tryz.laidOut,Tryz.rowed,Tryz.heard,Tryz.enters,Tryz.keys,Tryz.lifts,Tryz.makes,compFields_inPlace,compFields_unfollowed,compFields_recurses,compFields_named]
 kernel_rfl
theorem compFields_holds:Rows.CompFieldsSaid:=
 OpenClaim.holds_of_wide 3 Tryz.f3 rfl rfl rfl rfl rfl rfl rfl ⟨rfl,rfl,rfl,rfl,rfl⟩ rfl rfl rfl rfl rfl (by kernel_rfl) Tryz.func3 compFields_facts
  (of_decide_eq_true (by kernel_rfl)) (by unfold Func.isWrapper;first | (rw[if_pos (by decide +kernel)];kernel_rfl) | (rw[if_neg (by decide +kernel)];exact⟨rfl,rfl⟩))
  (fun os started H enc _=>compFields_lifted os started H enc)
theorem compFields_card:Rows.CompFieldsCardSaid:=
 Claim7.holds_tied_plain_at .later [] [.data,.pinned] true (true,"12cca074a2d53894a43870cdecff18ee4c8470387d83dae55935b50bf24bfee1") false
  compFields_holds (fun _ h=>by cases h) (by kernel_rfl) (fun _ h=>by cases h) compFields_row_tie rfl ⟨rfl,rfl⟩ (by kernel_rfl) rfl
  (fun f fn hf hfn=>by
   obtain rfl:f=3:=Option.some.inj ((show Tryz.prog.funcNamed Rows.compFieldsRow.func=some 3 by kernel_rfl).symm.trans hf) |>.symm
   obtain rfl:fn=Tryz.f3:=(Option.some.inj (Tryz.func3.symm.trans hfn)).symm
   exact⟨by kernel_rfl,fun j t ht=>by
    have hall:(Tryz.f3.params.toList.all fun u=>!Tryz.prog.wantsStandIn u)=true:=by kernel_rfl
    have hm:t∈Tryz.f3.params.toList:=by simpa using Array.mem_of_getElem? ht
    exact(show Tryz.prog.wantsStandIn t=false by simpa using List.all_eq_true.1 hall t hm)⟩)
  (by kernel_rfl)
#print axioms compFields_card
end Go.Proofs.YtfgfjicelfagcaaGreatDoor
end