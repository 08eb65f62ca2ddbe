/-
  For every two schemes, what the program tells of them (what is wrong, whether they are the same, the text, the gaps, whether it ends where its step does) is as the document has it: the function answers true
  Conditions: none beyond those that the theorems state. (Part 8: QsSchemeTells.)
-/
import Derived.Test.YtoaggbmfmgfnpaaGreatDoorPart7

set_option linter.unusedSectionVars false
set_option linter.unusedVariables false
set_option linter.unusedSimpArgs false
set_option linter.unnecessarySimpa false

section
namespace Go.Proofs.YtoaggbmfmgfnpaaGreatDoor
open Go Go.Ab Go.ChangeShapes Go.WideShapes Go.ChangeAt Go.RowKit
theorem schemeTells_all(xs:List AV)(h:Zh6 [(true,Zi3),(true,Zi3)] xs):Zae Tryz.prog 5 xs (·=.b true):=by
 obtain⟨x,l0,rfl,hx,y,l1,rfl,hy,rfl⟩:=h;obtain⟨ax,ex⟩:=zvb hx;obtain⟨ay,ey⟩:=zvb hy;exact zrv (u:=587) (af:=row587) tab_all lTab_part Tryz.mixed (by kernel_rfl) rfl (zjd (T:=tab) ax ay) (by simp[ex,ey])
set_option maxRecDepth 100000 in
theorem schemeTells_lifted(os:Os)(started:os.Started)(H:Type)(enc:TypeId×Value→H) :
  ReturnsInHanded {} Tryz.checked os 5 .any (fun w args=>(Rows.schemeTellsSpec.pre enc Tryz.prog Tryz.f5 [] false w args∧laidMetH Tryz.prog laid2 w)∧sizedMet enc Tryz.prog Tryz.f5 (OpenSpec.ofChange Rows.schemeTellsSpec) false w args)
   (Rows.schemeTellsSpec.post enc Tryz.prog Tryz.f5 false true false false):=by
 refine returnsInHanded_of_change_and (C:=Tryz.checked) (X:=fun w _=>laidMetH Tryz.prog laid2 w) (fun _ _ _ hh h=>h.of_heap hh) Tryz.own started (by kernel_rfl) Tryz.func5
  (ChangeSpec.witness_shaped (enc:=enc) (C:=Tryz.checked) (os:=os) (X:=fun w _=>laidMetH Tryz.prog laid2 w) false (laidWorld os) #[.agg #[.string ⟨#[]⟩,.slice none 0 0,.slice none 0 0,.slice none 0 0,.slice none 0 0],.agg #[.string ⟨#[]⟩,.slice none 0 0,.slice none 0 0,.slice none 0 0,.slice none 0 0]] 8 rfl (laid_shaped os) (by kernel_rfl) (by kernel_rfl) (by kernel_rfl) (laid_met os _)) ?_
 intro W base args ds gs before hval hW _ _ hL _;exact zyq (P:=Tryz.prog) (m:=8) (tb:=4) (tys:=[(true,Zi3),(true,Zi3)]) rfl (by kernel_rfl) Tryz.laidOut (by kernel_rfl) (by kernel_rfl) Tryz.underlying4
  (fun ds hd=>by
   match ds,hd with
   | [d0,d1],_=>rfl) schemeTells_all hval hW
theorem schemeTells_inPlace:Tryz.prog.inPlace 5=Rows.schemeTellsRow.inPlace:=by kernel_rfl
theorem schemeTells_unfollowed:Tryz.prog.unfollowed 5=Rows.schemeTellsRow.unfollowed:=by kernel_rfl
theorem schemeTells_recurses:Tryz.prog.recurses 5=Rows.schemeTellsRow.recurses:=by kernel_rfl
theorem schemeTells_named:Tryz.prog.varsNamed 5=Rows.schemeTellsRow.named:=by kernel_rfl
theorem schemeTells_facts:joinedFacts Tryz.prog 5 Tryz.f5 Rows.schemeTellsSpec Rows.schemeTellsRow=true:=by
 unfold joinedFacts;rw[Tryz.laidOut,Tryz.rowed,Tryz.heard,Tryz.enters,Tryz.keys,Tryz.lifts,Tryz.makes,schemeTells_inPlace,schemeTells_unfollowed,schemeTells_recurses,schemeTells_named]
 kernel_rfl
theorem schemeTells_holds:Rows.SchemeTellsSaid:=
 OpenClaim.holds_of_wide 5 Tryz.f5 rfl rfl rfl rfl rfl rfl rfl ⟨rfl,rfl,rfl,rfl,rfl⟩ rfl rfl rfl rfl rfl (by kernel_rfl) Tryz.func5 schemeTells_facts
  (of_decide_eq_true (by kernel_rfl)) (by unfold Func.isWrapper;first | (rw[if_pos (by decide +kernel)];kernel_rfl) | (rw[if_neg (by decide +kernel)];exact⟨rfl,rfl⟩))
  (fun os started H enc _=>schemeTells_lifted os started H enc)
theorem schemeTells_card:Rows.SchemeTellsCardSaid:=
 Claim7.holds_tied_plain_at .later [] [.data,.pinned] true (true,"82818cb32d5d61b958ae020c36909c3b054024c081b31e6b5d168497a4db9a37") false
  schemeTells_holds (fun _ h=>by cases h) (by kernel_rfl) (fun _ h=>by cases h) schemeTells_row_tie rfl ⟨rfl,rfl⟩ (by kernel_rfl) rfl
  (fun f fn hf hfn=>by
   obtain rfl:f=5:=Option.some.inj ((show Tryz.prog.funcNamed Rows.schemeTellsRow.func=some 5 by kernel_rfl).symm.trans hf) |>.symm;obtain rfl:fn=Tryz.f5:=(Option.some.inj (Tryz.func5.symm.trans hfn)).symm;exact⟨by kernel_rfl,fun j t ht=>by
    have hall:(Tryz.f5.params.toList.all fun u=>!Tryz.prog.wantsStandIn u)=true:=by kernel_rfl
    have hm:t∈Tryz.f5.params.toList:=by simpa using Array.mem_of_getElem? ht
    exact(show Tryz.prog.wantsStandIn t=false by simpa using Yg.1 hall t hm)⟩)
  (by kernel_rfl)
#print axioms schemeTells_card
end Go.Proofs.YtoaggbmfmgfnpaaGreatDoor
end