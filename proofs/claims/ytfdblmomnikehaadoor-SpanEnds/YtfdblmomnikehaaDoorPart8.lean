/-
  retrospectlaw41.SpanEnds answers true for every span: it returns normally with true, whatever the span is.
  Conditions: none beyond those that the theorems state. (Part 8.)
-/
import Derived.Test.YtfdblmomnikehaaDoorPart7

set_option linter.unusedSectionVars false
set_option linter.unusedVariables false
set_option linter.unusedSimpArgs false
set_option linter.unnecessarySimpa false
set_option linter.defProp false

section
namespace Go.Proofs.YtfdblmomnikehaaDoor
open Go Go.Ab Go.ChangeShapes Go.WideShapes Go.ChangeAt Go.RowKit
theorem spanEnds_all(xs:List AV)(h:Ze6 Zgo [(true,tyS)] xs):Z9 Tryd.prog 3 xs (·=.b true):=by
 obtain⟨x,l0,rfl,hx,rfl⟩:=h;obtain⟨tx,kx,px,qx,rx,sx,ex,lx⟩:=zrx hx;exact zow (u:=365) (af:=row365) tab_all lTab_part Tryd.mixed (by kernel_rfl) rfl (zo6 (T:=tab) tx kx px qx rx sx lx) (by simp[ex])
theorem types_in:Zed Tryd.prog=true:=by kernel_rfl
theorem types_in3:Zgp Tryd.prog=true:=by kernel_rfl
set_option maxRecDepth 100000 in
theorem spanEnds_lifted(os:Os)(started:os.Started)(H:Type)(enc:TypeId×Value->H) :
  ReturnsInHanded {} Tryd.checked os 3 .any (fun w args=>(Rows.spanEndsSpec.pre enc Tryd.prog Tryd.f3 [] false w args/\laidMetH Tryd.prog laid2 w)/\sizedMet enc Tryd.prog Tryd.f3 (OpenSpec.ofChange Rows.spanEndsSpec) false w args)
   (Rows.spanEndsSpec.post enc Tryd.prog Tryd.f3 false true false false):=by
 refine returnsInHanded_of_change_and (C:=Tryd.checked) (X:=fun w _=>laidMetH Tryd.prog laid2 w) (fun _ _ _ hh h=>h.of_heap hh) Tryd.own started (by kernel_rfl) Tryd.func3
  (ChangeSpec.witness_shaped (enc:=enc) (C:=Tryd.checked) (os:=os) (X:=fun w _=>laidMetH Tryd.prog laid2 w) false (laidWorld os) #[.agg #[.bool false,.slice none 0 0,.slice none 0 0,.bool false,.slice none 0 0,.slice none 0 0,.slice none 0 0,.slice none 0 0,.slice none 0 0,.slice none 0 0]] 8 rfl (laid_shaped os) (by kernel_rfl) (by kernel_rfl) (by kernel_rfl) (laid_met os _)) ?_
 intro W base args ds gs before hval hW _ hsz hL _;exact zrw (P:=Tryd.prog) (Q:=WtI Tryd.prog) (B:=Zgo) (WtI.sliceZ types_in types_in3) (WtI.struct types_in) (WtI.array types_in) (m:=8) (tb:=4) (tys:=[(true,tyS)]) rfl (by kernel_rfl) Tryd.laidOut (by kernel_rfl) (by kernel_rfl) Tryd.underlying4
  (fun ds hd=>by
   match ds,hd with
   | [d0],_=>rfl) spanEnds_all hval hW fun j t d ht hd=>⟨of_decide_eq_true (Yi.1 (show (Tryd.f3.params.toList.all fun t=>decide (t<Tryd.prog.types.size))=true by kernel_rfl) t (Yd ht)),fun n hn=>by
  have h1:=(Ys.1 ht).1;have h2:=(Ys.1 hd).1;have:=Yi.1 hsz n (DataW.weights_mem_each (j:=j) (t:=t) (d:=d) (by rw[Yj h1];exact ht) (by rw[Yj h2];exact hd) n hn);simpa using this⟩
theorem spanEnds_inPlace:Tryd.prog.inPlace 3=Rows.spanEndsRow.inPlace:=by kernel_rfl
theorem spanEnds_unfollowed:Tryd.prog.unfollowed 3=Rows.spanEndsRow.unfollowed:=by kernel_rfl
theorem spanEnds_recurses:Tryd.prog.recurses 3=Rows.spanEndsRow.recurses:=by kernel_rfl
theorem spanEnds_named:Tryd.prog.varsNamed 3=Rows.spanEndsRow.named:=by kernel_rfl
theorem spanEnds_facts:joinedFacts Tryd.prog 3 Tryd.f3 Rows.spanEndsSpec Rows.spanEndsRow=true:=by
 unfold joinedFacts;rw[Tryd.laidOut,Tryd.rowed,Tryd.heard,Tryd.enters,Tryd.keys,Tryd.lifts,Tryd.makes,spanEnds_inPlace,spanEnds_unfollowed,spanEnds_recurses,spanEnds_named]
 kernel_rfl
theorem spanEnds_holds:Rows.SpanEndsSaid:=
 OpenClaim.holds_of_wide 3 Tryd.f3 rfl rfl rfl rfl rfl rfl rfl ⟨rfl,rfl,rfl,rfl,rfl⟩ rfl rfl rfl rfl rfl (by kernel_rfl) Tryd.func3 spanEnds_facts
  (of_decide_eq_true (by kernel_rfl)) (by unfold Func.isWrapper;first | (rw[if_pos (by decide +kernel)];kernel_rfl) | (rw[if_neg (by decide +kernel)];exact⟨rfl,rfl⟩))
  (fun os started H enc _=>spanEnds_lifted os started H enc)
theorem spanEnds_card:Rows.SpanEndsCardSaid:=
 Claim7.holds_tied_plain_at .later [] [.data,.pinned] true (true,"6970c0ab4c2a55e2e3a6134d71dd2db337198d0bdf89599ac7efce11b2ba13fa") false
  spanEnds_holds (fun _ h=>by cases h) (by kernel_rfl) (fun _ h=>by cases h) spanEnds_row_tie rfl ⟨rfl,rfl⟩ (by kernel_rfl) rfl
  (fun f fn hf hfn=>by
   obtain rfl:f=3:=Option.some.inj ((show Tryd.prog.funcNamed Rows.spanEndsRow.func=some 3 by kernel_rfl).symm.trans hf) |>.symm;obtain rfl:fn=Tryd.f3:=(Option.some.inj (Tryd.func3.symm.trans hfn)).symm;exact⟨by kernel_rfl,fun j t ht=>by
    have hall:(Tryd.f3.params.toList.all fun u=>!Tryd.prog.wantsStandIn u)=true:=by kernel_rfl
    have hm:t∈Tryd.f3.params.toList:=by simpa using Array.mem_of_getElem? ht
    exact(show Tryd.prog.wantsStandIn t=false by simpa using Yi.1 hall t hm)⟩)
  (by kernel_rfl)
#print axioms spanEnds_card
end Go.Proofs.YtfdblmomnikehaaDoor
end