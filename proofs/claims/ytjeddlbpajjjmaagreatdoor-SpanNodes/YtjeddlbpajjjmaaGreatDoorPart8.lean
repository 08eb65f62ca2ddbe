/-
  At each node of a history its state is just the one that the history has.
  Conditions: none beyond those that the theorems state. (Part 8.)
-/
import Derived.Test.YtjeddlbpajjjmaaGreatDoorPart7

set_option linter.unusedSectionVars false
set_option linter.unusedVariables false
set_option linter.unusedSimpArgs false
set_option linter.unnecessarySimpa false

section
namespace Go.Proofs.YtjeddlbpajjjmaaGreatDoor
open Go Go.Ab Go.ChangeShapes Go.WideShapes Go.ChangeAt Go.RowKit
theorem spanNodes_all(xs:List AV)(h:OkArgs [(true,tyPb),(true,tyHs)] xs):PCall Tryz.prog 4 xs (·=.b true):=by
 obtain⟨x,l0,rfl,hx,y,l1,rfl,hy,rfl⟩:=h
 obtain⟨ax,ex,bx_,cx⟩:=zv4 hx
 obtain⟨ay,ey⟩:=zv6 hy
 exact zpv (u:=567) (af:=row567) tab_all lTab_part Tryz.mixed (by kernel_rfl) rfl (znl (T:=tab) ax ay bx_ cx) (by simp[ex,ey])
set_option maxRecDepth 100000 in
theorem spanNodes_lifted(os:Os)(started:os.Started)(H:Type)(enc:TypeId×Value→H) :
  ReturnsInHanded {} Tryz.checked os 4 .any (fun w args=>(Rows.spanNodesSpec.pre enc Tryz.prog Tryz.f4 [] false w args∧laidMetH Tryz.prog laid2 w)∧sizedMet enc Tryz.prog Tryz.f4 (OpenSpec.ofChange Rows.spanNodesSpec) false w args)
   (Rows.spanNodesSpec.post enc Tryz.prog Tryz.f4 false true false false):=by
 refine returnsInHanded_of_change_and (C:=Tryz.checked) (X:=fun w _=>laidMetH Tryz.prog laid2 w) (fun _ _ _ hh h=>h.of_heap hh) Tryz.own started (by kernel_rfl) Tryz.func4
  (ChangeSpec.witness_shaped (enc:=enc) (C:=Tryz.checked) (os:=os) (X:=fun w _=>laidMetH Tryz.prog laid2 w) false (laidWorld os) #[.agg #[.slice none 0 0,.slice none 0 0,.int .i64 0,.int .i64 0,.string ⟨#[]⟩,.slice none 0 0,.slice none 0 0,.slice none 0 0,.slice none 0 0,.slice none 0 0,.int .i64 0],.agg #[.slice none 0 0,.bool false,.slice none 0 0,.slice none 0 0,.slice none 0 0]] 8 rfl (laid_shaped os) (by kernel_rfl) (by kernel_rfl) (by kernel_rfl) (laid_met os _)) ?_
 intro W base args ds gs before hval hW _ _ hL _
 exact zvr (P:=Tryz.prog) (m:=8) (tb:=4) (tys:=[(true,tyPb),(true,tyHs)]) rfl (by kernel_rfl) Tryz.laidOut (by kernel_rfl) (by kernel_rfl) Tryz.underlying4
  (fun ds hd=>by
   match ds,hd with
   | [d0,d1],_=>rfl) spanNodes_all hval hW
theorem spanNodes_inPlace:Tryz.prog.inPlace 4=Rows.spanNodesRow.inPlace:=by kernel_rfl
theorem spanNodes_unfollowed:Tryz.prog.unfollowed 4=Rows.spanNodesRow.unfollowed:=by kernel_rfl
theorem spanNodes_recurses:Tryz.prog.recurses 4=Rows.spanNodesRow.recurses:=by kernel_rfl
theorem spanNodes_named:Tryz.prog.varsNamed 4=Rows.spanNodesRow.named:=by kernel_rfl
theorem spanNodes_facts:joinedFacts Tryz.prog 4 Tryz.f4 Rows.spanNodesSpec Rows.spanNodesRow=true:=by
 unfold joinedFacts
 rw[Tryz.laidOut,Tryz.rowed,Tryz.heard,Tryz.enters,Tryz.keys,Tryz.lifts,Tryz.makes,spanNodes_inPlace,spanNodes_unfollowed,spanNodes_recurses,spanNodes_named]
 kernel_rfl
theorem spanNodes_holds:Rows.SpanNodesSaid:=
 OpenClaim.holds_of_wide 4 Tryz.f4 rfl rfl rfl rfl rfl rfl rfl ⟨rfl,rfl,rfl,rfl,rfl⟩ rfl rfl rfl rfl rfl (by kernel_rfl) Tryz.func4 spanNodes_facts
  (of_decide_eq_true (by kernel_rfl)) (by unfold Func.isWrapper;first | (rw[if_pos (by decide +kernel)];kernel_rfl) | (rw[if_neg (by decide +kernel)];exact⟨rfl,rfl⟩))
  (fun os started H enc _=>spanNodes_lifted os started H enc)
theorem spanNodes_card:Rows.SpanNodesCardSaid:=
 Claim7.holds_tied_plain_at .later [] [.data,.pinned] true (true,"60d51686f36f7f9bc38d4c537fd8516b4b3adb634c205ae46b890876c3245e62") false
  spanNodes_holds (fun _ h=>by cases h) (by kernel_rfl) (fun _ h=>by cases h) spanNodes_row_tie rfl ⟨rfl,rfl⟩ (by kernel_rfl) rfl
  (fun f fn hf hfn=>by
   obtain rfl:f=4:=Option.some.inj ((show Tryz.prog.funcNamed Rows.spanNodesRow.func=some 4 by kernel_rfl).symm.trans hf) |>.symm
   obtain rfl:fn=Tryz.f4:=(Option.some.inj (Tryz.func4.symm.trans hfn)).symm
   exact⟨by kernel_rfl,fun j t ht=>by
    have hall:(Tryz.f4.params.toList.all fun u=>!Tryz.prog.wantsStandIn u)=true:=by kernel_rfl
    have hm:t∈Tryz.f4.params.toList:=by simpa using Array.mem_of_getElem? ht
    exact(show Tryz.prog.wantsStandIn t=false by simpa using List.all_eq_true.1 hall t hm)⟩)
  (by kernel_rfl)
#print axioms spanNodes_card
end Go.Proofs.YtjeddlbpajjjmaaGreatDoor
end