/-
  The tape of any field that may be is right, no two of its instructions are alike, each instruction is the place of some node, and nodes come to new places in order; of at most 8 lets and outs, of at most 40 nodes of at most 9 words each.
  Conditions: none beyond those that the theorems state. (Part 7.)
-/
import Derived.Test.YtfgfjicelfagcaaGreatDoorPart6

set_option linter.unusedSectionVars false
set_option linter.unusedVariables false
set_option linter.unusedSimpArgs false
set_option linter.unnecessarySimpa false

section
namespace Go.Proofs.YtfgfjicelfagcaaGreatDoor
open Go Go.Ab Go.ChangeShapes Go.WideShapes Go.ChangeAt Go.RowKit
theorem compOnce_all(xs:List AV)(h:OkArgs [(true,tyD),(false,.int .i64)] xs):PCall Tryz.prog 5 xs (·=.b true):=by
 obtain⟨x,l0,rfl,hx,y,l1,rfl,hy,rfl⟩:=h
 obtain⟨ax,ex⟩:=zsq hx
 obtain⟨ay,rfl,by_,cy⟩:=zyu hy
 exact zpd (u:=657) (af:=row657) tab_all lTab_part Tryz.mixed (by kernel_rfl) rfl (zps (T:=tab) ax ay) (by simp[ex,wkA])
set_option maxRecDepth 100000 in
theorem compOnce_lifted(os:Os)(started:os.Started)(H:Type)(enc:TypeId×Value→H) :
  ReturnsInHanded {} Tryz.checked os 5 .any (fun w args=>(Rows.compOnceSpec.pre enc Tryz.prog Tryz.f5 [] false w args∧laidMetH Tryz.prog laid2 w)∧sizedMet enc Tryz.prog Tryz.f5 (OpenSpec.ofChange Rows.compOnceSpec) false w args)
   (Rows.compOnceSpec.post enc Tryz.prog Tryz.f5 false true false false):=by
 refine returnsInHanded_of_change_and (C:=Tryz.checked) (X:=fun w _=>laidMetH Tryz.prog laid2 w) (fun _ _ _ hh h=>h.of_heap hh) Tryz.own started (by kernel_rfl) Tryz.func5
  (ChangeSpec.witness_shaped (enc:=enc) (C:=Tryz.checked) (os:=os) (X:=fun w _=>laidMetH Tryz.prog laid2 w) false (laidWorld os) #[.agg #[.slice none 0 0,.slice none 0 0],.int .i64 0] 8 rfl (laid_shaped os) (by kernel_rfl) (by kernel_rfl) (by kernel_rfl) (laid_met os _)) ?_
 intro W base args ds gs before hval hW _ _ hL _
 exact zuz (P:=Tryz.prog) (m:=8) (tb:=4) (tys:=[(true,tyD),(false,.int .i64)]) rfl (by kernel_rfl) Tryz.laidOut (by kernel_rfl) (by kernel_rfl) Tryz.underlying4
  (fun ds hd=>by
   match ds,hd with
   | [d0,d1],_=>rfl) compOnce_all hval hW
theorem compOnce_inPlace:Tryz.prog.inPlace 5=Rows.compOnceRow.inPlace:=by kernel_rfl
theorem compOnce_unfollowed:Tryz.prog.unfollowed 5=Rows.compOnceRow.unfollowed:=by kernel_rfl
theorem compOnce_recurses:Tryz.prog.recurses 5=Rows.compOnceRow.recurses:=by kernel_rfl
theorem compOnce_named:Tryz.prog.varsNamed 5=Rows.compOnceRow.named:=by kernel_rfl
theorem compOnce_facts:joinedFacts Tryz.prog 5 Tryz.f5 Rows.compOnceSpec Rows.compOnceRow=true:=by
 unfold joinedFacts
 rw[Tryz.laidOut,Tryz.rowed,Tryz.heard,Tryz.enters,Tryz.keys,Tryz.lifts,Tryz.makes,compOnce_inPlace,compOnce_unfollowed,compOnce_recurses,compOnce_named]
 kernel_rfl
theorem compOnce_holds:Rows.CompOnceSaid:=
 OpenClaim.holds_of_wide 5 Tryz.f5 rfl rfl rfl rfl rfl rfl rfl ⟨rfl,rfl,rfl,rfl,rfl⟩ rfl rfl rfl rfl rfl (by kernel_rfl) Tryz.func5 compOnce_facts
  (of_decide_eq_true (by kernel_rfl)) (by unfold Func.isWrapper;first | (rw[if_pos (by decide +kernel)];kernel_rfl) | (rw[if_neg (by decide +kernel)];exact⟨rfl,rfl⟩))
  (fun os started H enc _=>compOnce_lifted os started H enc)
theorem compOnce_card:Rows.CompOnceCardSaid:=
 Claim7.holds_tied_plain_at .later [] [.data,.pinned] true (true,"12cca074a2d53894a43870cdecff18ee4c8470387d83dae55935b50bf24bfee1") false
  compOnce_holds (fun _ h=>by cases h) (by kernel_rfl) (fun _ h=>by cases h) compOnce_row_tie rfl ⟨rfl,rfl⟩ (by kernel_rfl) rfl
  (fun f fn hf hfn=>by
   obtain rfl:f=5:=Option.some.inj ((show Tryz.prog.funcNamed Rows.compOnceRow.func=some 5 by kernel_rfl).symm.trans hf) |>.symm
   obtain rfl:fn=Tryz.f5:=(Option.some.inj (Tryz.func5.symm.trans hfn)).symm
   exact⟨by kernel_rfl,fun j t ht=>by
    have hall:(Tryz.f5.params.toList.all fun u=>!Tryz.prog.wantsStandIn u)=true:=by kernel_rfl
    have hm:t∈Tryz.f5.params.toList:=by simpa using Array.mem_of_getElem? ht
    exact(show Tryz.prog.wantsStandIn t=false by simpa using List.all_eq_true.1 hall t hm)⟩)
  (by kernel_rfl)
#print axioms compOnce_card
end Go.Proofs.YtfgfjicelfagcaaGreatDoor
end