/-
  The tape of any expression, with any numbers of components and parameters, or what is wrong with it, is as the document has it; of at most 60 nodes of at most 9 words each.
  Conditions: none beyond those that the theorems state. (Part 8.)
-/
import Derived.Test.YtfgfjicelfagcaaGreatDoorPart7

set_option linter.unusedSectionVars false
set_option linter.unusedVariables false
set_option linter.unusedSimpArgs false
set_option linter.unnecessarySimpa false

section
namespace Go.Proofs.YtfgfjicelfagcaaGreatDoor
open Go Go.Ab Go.ChangeShapes Go.WideShapes Go.ChangeAt Go.RowKit
theorem compCodes_all(xs:List AV)(h:OkArgs [(false,.sl tyN),(false,.int .i64),(false,.int .i64)] xs):PCall Tryz.prog 4 xs (·=.b true):=by
 obtain⟨x,l0,rfl,hx,y,l1,rfl,hy,z,l2,rfl,hz,rfl⟩:=h
 obtain⟨ax,ex⟩:=zvv hx
 obtain⟨ay,rfl,by_,cy⟩:=zs8 hy
 obtain⟨az,rfl,bz_,cz⟩:=zs8 hz
 exact zp2 (u:=656) (af:=row656) tab_all lTab_part Tryz.mixed (by kernel_rfl) rfl (zni (T:=tab) ax ay az) (by simp[ex,wkA])
set_option maxRecDepth 100000 in
theorem compCodes_lifted(os:Os)(started:os.Started)(H:Type)(enc:TypeId×Value→H) :
  ReturnsInHanded {} Tryz.checked os 4 .any (fun w args=>(Rows.compCodesSpec.pre enc Tryz.prog Tryz.f4 [] false w args∧laidMetH Tryz.prog laid2 w)∧sizedMet enc Tryz.prog Tryz.f4 (OpenSpec.ofChange Rows.compCodesSpec) false w args)
   (Rows.compCodesSpec.post enc Tryz.prog Tryz.f4 false true false false):=by
 refine returnsInHanded_of_change_and (C:=Tryz.checked) (X:=fun w _=>laidMetH Tryz.prog laid2 w) (fun _ _ _ hh h=>h.of_heap hh) Tryz.own started (by kernel_rfl) Tryz.func4
  (ChangeSpec.witness_shaped (enc:=enc) (C:=Tryz.checked) (os:=os) (X:=fun w _=>laidMetH Tryz.prog laid2 w) false (laidWorld os) #[.slice none 0 0,.int .i64 0,.int .i64 0] 8 rfl (laid_shaped os) (by kernel_rfl) (by kernel_rfl) (by kernel_rfl) (laid_met os _)) ?_
 intro W base args ds gs before hval hW _ _ hL _
 exact zvl (P:=Tryz.prog) (m:=8) (tb:=4) (tys:=[(false,.sl tyN),(false,.int .i64),(false,.int .i64)]) rfl (by kernel_rfl) Tryz.laidOut (by kernel_rfl) (by kernel_rfl) Tryz.underlying4
  (fun ds hd=>by
   match ds,hd with
   | [d0,d1,d2],_=>rfl) compCodes_all hval hW
theorem compCodes_inPlace:Tryz.prog.inPlace 4=Rows.compCodesRow.inPlace:=by kernel_rfl
theorem compCodes_unfollowed:Tryz.prog.unfollowed 4=Rows.compCodesRow.unfollowed:=by kernel_rfl
theorem compCodes_recurses:Tryz.prog.recurses 4=Rows.compCodesRow.recurses:=by kernel_rfl
theorem compCodes_named:Tryz.prog.varsNamed 4=Rows.compCodesRow.named:=by kernel_rfl
theorem compCodes_facts:joinedFacts Tryz.prog 4 Tryz.f4 Rows.compCodesSpec Rows.compCodesRow=true:=by
 unfold joinedFacts
 rw[Tryz.laidOut,Tryz.rowed,Tryz.heard,Tryz.enters,Tryz.keys,Tryz.lifts,Tryz.makes,compCodes_inPlace,compCodes_unfollowed,compCodes_recurses,compCodes_named]
 kernel_rfl
theorem compCodes_holds:Rows.CompCodesSaid:=
 OpenClaim.holds_of_wide 4 Tryz.f4 rfl rfl rfl rfl rfl rfl rfl ⟨rfl,rfl,rfl,rfl,rfl⟩ rfl rfl rfl rfl rfl (by kernel_rfl) Tryz.func4 compCodes_facts
  (of_decide_eq_true (by kernel_rfl)) (by unfold Func.isWrapper;first | (rw[if_pos (by decide +kernel)];kernel_rfl) | (rw[if_neg (by decide +kernel)];exact⟨rfl,rfl⟩))
  (fun os started H enc _=>compCodes_lifted os started H enc)
theorem compCodes_card:Rows.CompCodesCardSaid:=
 Claim7.holds_tied_plain_at .later [] [.data,.pinned] true (true,"12cca074a2d53894a43870cdecff18ee4c8470387d83dae55935b50bf24bfee1") false
  compCodes_holds (fun _ h=>by cases h) (by kernel_rfl) (fun _ h=>by cases h) compCodes_row_tie rfl ⟨rfl,rfl⟩ (by kernel_rfl) rfl
  (fun f fn hf hfn=>by
   obtain rfl:f=4:=Option.some.inj ((show Tryz.prog.funcNamed Rows.compCodesRow.func=some 4 by kernel_rfl).symm.trans hf) |>.symm
   obtain rfl:fn=Tryz.f4:=(Option.some.inj (Tryz.func4.symm.trans hfn)).symm
   exact⟨by kernel_rfl,fun j t ht=>by
    have hall:(Tryz.f4.params.toList.all fun u=>!Tryz.prog.wantsStandIn u)=true:=by kernel_rfl
    have hm:t∈Tryz.f4.params.toList:=by simpa using Array.mem_of_getElem? ht
    exact(show Tryz.prog.wantsStandIn t=false by simpa using List.all_eq_true.1 hall t hm)⟩)
  (by kernel_rfl)
#print axioms compCodes_card
end Go.Proofs.YtfgfjicelfagcaaGreatDoor
end