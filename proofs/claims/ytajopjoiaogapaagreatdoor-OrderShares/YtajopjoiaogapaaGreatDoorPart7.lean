/-
  Whatever the scheme, the two rows, the levels and the factor, OrderShares answers true: no further condition.
  Conditions: none beyond those that the theorems state. (Part 7.)
-/
import Derived.Test.YtajopjoiaogapaaGreatDoorPart6

set_option linter.unusedSectionVars false
set_option linter.unusedVariables false
set_option linter.unusedSimpArgs false
set_option linter.unnecessarySimpa false

section
namespace Go.Proofs.YtajopjoiaogapaaGreatDoor
open Go Go.Ab Go.ChangeShapes Go.WideShapes Go.ChangeAt Go.RowKit
theorem orderShares_all(xs:List AV)(h:Zhv [(true,Zj4),(true,Zhj 2 (.sl tyF)),(false,.sl (.int .i64)),(true,tyF)] xs):Zad Tryz.prog 6 xs (·=.b true):=by
 obtain⟨x,l0,rfl,hx,y,l1,rfl,hy,z,l2,rfl,hz,u,l3,rfl,hu,rfl⟩:=h;obtain⟨ax,ex⟩:=zzc hx;obtain⟨ay,by_,ey⟩:=zsc hy;obtain⟨az,ez,bz_⟩:=zvp hz;obtain⟨au,eu⟩:=zvq hu;exact zph (u:=640) (af:=row640) tab_all lTab_part Tryz.mixed (by kernel_rfl) rfl (zk0 (T:=tab) ax ay by_ az bz_ au) (by simp[ex,ey,ez,eu])
set_option maxRecDepth 100000 in
theorem orderShares_lifted(os:Os)(started:os.Started)(H:Type)(enc:TypeId×Value→H) :
  ReturnsInHanded {} Tryz.checked os 6 .any (fun w args=>(Rows.orderSharesSpec.pre enc Tryz.prog Tryz.f6 [] false w args∧laidMetH Tryz.prog laid2 w)∧sizedMet enc Tryz.prog Tryz.f6 (OpenSpec.ofChange Rows.orderSharesSpec) false w args)
   (Rows.orderSharesSpec.post enc Tryz.prog Tryz.f6 false true false false):=by
 refine returnsInHanded_of_change_and (C:=Tryz.checked) (X:=fun w _=>laidMetH Tryz.prog laid2 w) (fun _ _ _ hh h=>h.of_heap hh) Tryz.own started (by kernel_rfl) Tryz.func6
  (ChangeSpec.witness_shaped (enc:=enc) (C:=Tryz.checked) (os:=os) (X:=fun w _=>laidMetH Tryz.prog laid2 w) false (laidWorld os) #[.agg #[.string ⟨#[]⟩,.slice none 0 0,.slice none 0 0,.slice none 0 0,.slice none 0 0],.agg #[.slice none 0 0,.slice none 0 0],.slice none 0 0,.agg #[.bool false,.slice none 0 0,.slice none 0 0]] 8 rfl (laid_shaped os) (by kernel_rfl) (by kernel_rfl) (by kernel_rfl) (laid_met os _)) ?_
 intro W base args ds gs before hval hW _ _ hL _;exact zu8 (P:=Tryz.prog) (m:=8) (tb:=4) (tys:=[(true,Zj4),(true,Zhj 2 (.sl tyF)),(false,.sl (.int .i64)),(true,tyF)]) rfl (by kernel_rfl) Tryz.laidOut (by kernel_rfl) (by kernel_rfl) Tryz.underlying4
  (fun ds hd=>by
   match ds,hd with
   | [d0,d1,d2,d3],_=>rfl) orderShares_all hval hW
theorem orderShares_inPlace:Tryz.prog.inPlace 6=Rows.orderSharesRow.inPlace:=by kernel_rfl
theorem orderShares_unfollowed:Tryz.prog.unfollowed 6=Rows.orderSharesRow.unfollowed:=by kernel_rfl
theorem orderShares_recurses:Tryz.prog.recurses 6=Rows.orderSharesRow.recurses:=by kernel_rfl
theorem orderShares_named:Tryz.prog.varsNamed 6=Rows.orderSharesRow.named:=by kernel_rfl
theorem orderShares_facts:joinedFacts Tryz.prog 6 Tryz.f6 Rows.orderSharesSpec Rows.orderSharesRow=true:=by
 unfold joinedFacts;rw[Tryz.laidOut,Tryz.rowed,Tryz.heard,Tryz.enters,Tryz.keys,Tryz.lifts,Tryz.makes,orderShares_inPlace,orderShares_unfollowed,orderShares_recurses,orderShares_named]
 kernel_rfl
theorem orderShares_holds:Rows.OrderSharesSaid:=
 OpenClaim.holds_of_wide 6 Tryz.f6 rfl rfl rfl rfl rfl rfl rfl ⟨rfl,rfl,rfl,rfl,rfl⟩ rfl rfl rfl rfl rfl (by kernel_rfl) Tryz.func6 orderShares_facts
  (of_decide_eq_true (by kernel_rfl)) (by unfold Func.isWrapper;first | (rw[if_pos (by decide +kernel)];kernel_rfl) | (rw[if_neg (by decide +kernel)];exact⟨rfl,rfl⟩))
  (fun os started H enc _=>orderShares_lifted os started H enc)
theorem orderShares_card:Rows.OrderSharesCardSaid:=
 Claim7.holds_tied_plain_at .later [] [.data,.pinned] true (true,"0c4996b7bf731108389ec4928a897051a880df7ff91f66bf4be68484c86caf89") false
  orderShares_holds (fun _ h=>by cases h) (by kernel_rfl) (fun _ h=>by cases h) orderShares_row_tie rfl ⟨rfl,rfl⟩ (by kernel_rfl) rfl
  (fun f fn hf hfn=>by
   obtain rfl:f=6:=Option.some.inj ((show Tryz.prog.funcNamed Rows.orderSharesRow.func=some 6 by kernel_rfl).symm.trans hf) |>.symm;obtain rfl:fn=Tryz.f6:=(Option.some.inj (Tryz.func6.symm.trans hfn)).symm;exact⟨by kernel_rfl,fun j t ht=>by
    have hall:(Tryz.f6.params.toList.all fun u=>!Tryz.prog.wantsStandIn u)=true:=by kernel_rfl
    have hm:t∈Tryz.f6.params.toList:=by simpa using Array.mem_of_getElem? ht
    exact(show Tryz.prog.wantsStandIn t=false by simpa using Yh.1 hall t hm)⟩)
  (by kernel_rfl)
#print axioms orderShares_card
end Go.Proofs.YtajopjoiaogapaaGreatDoor
end