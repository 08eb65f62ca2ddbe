/-
  Where a field has values, its plain one has the same there; it has no lets, and is its own plain one, if it may be.
  Conditions: none beyond those that the theorems state. (Part 8.)
-/
import Derived.Test.YtfgfjicelfagcabGreatDoorPart7

set_option linter.unusedSectionVars false
set_option linter.unusedVariables false
set_option linter.unusedSimpArgs false
set_option linter.unnecessarySimpa false

section
namespace Go.Proofs.YtfgfjicelfagcabGreatDoor
open Go Go.Ab Go.ChangeShapes Go.WideShapes Go.ChangeAt Go.RowKit
theorem plainSame_all(xs:List AV)(h:OkArgs [(true,tyD),(true,tyP)] xs):PCall Tryz.prog 4 xs (·=.b true):=by
 obtain⟨x,l0,rfl,hx,y,l1,rfl,hy,rfl⟩:=h
 obtain⟨ax,ex⟩:=zuy hx
 obtain⟨ay,ey⟩:=zux hy
 exact zrm (u:=670) (af:=row670) tab_all lTab_part Tryz.mixed (by kernel_rfl) rfl (zr1 (T:=tab) ax ay) (by simp[ex,ey])
set_option maxRecDepth 100000 in
theorem plainSame_lifted(os:Os)(started:os.Started)(H:Type)(enc:TypeId×Value→H) :
  ReturnsInHanded {} Tryz.checked os 4 .any (fun w args=>(Rows.plainSameSpec.pre enc Tryz.prog Tryz.f4 [] false w args∧laidMetH Tryz.prog laid2 w)∧sizedMet enc Tryz.prog Tryz.f4 (OpenSpec.ofChange Rows.plainSameSpec) false w args)
   (Rows.plainSameSpec.post enc Tryz.prog Tryz.f4 false true false false):=by
 refine returnsInHanded_of_change_and (C:=Tryz.checked) (X:=fun w _=>laidMetH Tryz.prog laid2 w) (fun _ _ _ hh h=>h.of_heap hh) Tryz.own started (by kernel_rfl) Tryz.func4
  (ChangeSpec.witness_shaped (enc:=enc) (C:=Tryz.checked) (os:=os) (X:=fun w _=>laidMetH Tryz.prog laid2 w) false (laidWorld os) #[.agg #[.slice none 0 0,.slice none 0 0],.agg #[.bool false,.slice none 0 0,.slice none 0 0,.slice none 0 0,.slice none 0 0]] 8 rfl (laid_shaped os) (by kernel_rfl) (by kernel_rfl) (by kernel_rfl) (laid_met os _)) ?_
 intro W base args ds gs before hval hW _ _ hL _
 exact zxj (P:=Tryz.prog) (m:=8) (tb:=4) (tys:=[(true,tyD),(true,tyP)]) rfl (by kernel_rfl) Tryz.laidOut (by kernel_rfl) (by kernel_rfl) Tryz.underlying4
  (fun ds hd=>by
   match ds,hd with
   | [d0,d1],_=>rfl) plainSame_all hval hW
theorem plainSame_inPlace:Tryz.prog.inPlace 4=Rows.plainSameRow.inPlace:=by kernel_rfl
theorem plainSame_unfollowed:Tryz.prog.unfollowed 4=Rows.plainSameRow.unfollowed:=by kernel_rfl
theorem plainSame_recurses:Tryz.prog.recurses 4=Rows.plainSameRow.recurses:=by kernel_rfl
theorem plainSame_named:Tryz.prog.varsNamed 4=Rows.plainSameRow.named:=by kernel_rfl
theorem plainSame_facts:joinedFacts Tryz.prog 4 Tryz.f4 Rows.plainSameSpec Rows.plainSameRow=true:=by
 unfold joinedFacts
 rw[Tryz.laidOut,Tryz.rowed,Tryz.heard,Tryz.enters,Tryz.keys,Tryz.lifts,Tryz.makes,plainSame_inPlace,plainSame_unfollowed,plainSame_recurses,plainSame_named]
 kernel_rfl
theorem plainSame_holds:Rows.PlainSameSaid:=
 OpenClaim.holds_of_wide 4 Tryz.f4 rfl rfl rfl rfl rfl rfl rfl ⟨rfl,rfl,rfl,rfl,rfl⟩ rfl rfl rfl rfl rfl (by kernel_rfl) Tryz.func4 plainSame_facts
  (of_decide_eq_true (by kernel_rfl)) (by unfold Func.isWrapper;first | (rw[if_pos (by decide +kernel)];kernel_rfl) | (rw[if_neg (by decide +kernel)];exact⟨rfl,rfl⟩))
  (fun os started H enc _=>plainSame_lifted os started H enc)
theorem plainSame_card:Rows.PlainSameCardSaid:=
 Claim7.holds_tied_plain_at .later [] [.data,.pinned] true (true,"d22d9473594770c79c6552a3bf10f945ab8aa99c5c0f6f85dd3146402ec1ba1c") false
  plainSame_holds (fun _ h=>by cases h) (by kernel_rfl) (fun _ h=>by cases h) plainSame_row_tie rfl ⟨rfl,rfl⟩ (by kernel_rfl) rfl
  (fun f fn hf hfn=>by
   obtain rfl:f=4:=Option.some.inj ((show Tryz.prog.funcNamed Rows.plainSameRow.func=some 4 by kernel_rfl).symm.trans hf) |>.symm
   obtain rfl:fn=Tryz.f4:=(Option.some.inj (Tryz.func4.symm.trans hfn)).symm
   exact⟨by kernel_rfl,fun j t ht=>by
    have hall:(Tryz.f4.params.toList.all fun u=>!Tryz.prog.wantsStandIn u)=true:=by kernel_rfl
    have hm:t∈Tryz.f4.params.toList:=by simpa using Array.mem_of_getElem? ht
    exact(show Tryz.prog.wantsStandIn t=false by simpa using List.all_eq_true.1 hall t hm)⟩)
  (by kernel_rfl)
#print axioms plainSame_card
end Go.Proofs.YtfgfjicelfagcabGreatDoor
end