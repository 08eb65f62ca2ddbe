/-
  The fraction that any bytes are, or what is wrong with them first, and where, is as the document has it.
  Conditions: none beyond those that the theorems state. (Part 8: EuFigureReads.)
-/
import Derived.Test.YtefdnbbfkhkjeaaGreatDoorPart7

set_option linter.unusedSectionVars false
set_option linter.unusedVariables false
set_option linter.unusedSimpArgs false
set_option linter.unnecessarySimpa false

section
namespace Go.Proofs.YtefdnbbfkhkjeaaGreatDoor
open Go Go.Ab Go.ChangeShapes Go.WideShapes Go.ChangeAt Go.RowKit
theorem figureReads_all (xs : List AV) (h : OkArgs [(false, .str)] xs) : PCall Tryz.prog 10 xs (· = .b true) := by
  obtain ⟨x, l0, rfl, hx, rfl⟩ := h
  obtain ⟨ax, rfl, bx_⟩ := str_arg hx
  exact pcall_part (u := 318) (af := row318) tab_all lTab_part Tryz.mixed (by kernel_rfl) rfl (law10_reads (T := tab) ax) (by simp [wkA])
set_option maxRecDepth 100000 in
theorem figureReads_lifted (os : Os) (started : os.Started) (H : Type) (enc : TypeId × Value → H) :
    ReturnsInHanded {} Tryz.checked os 10 .any (fun w args => (Rows.figureReadsSpec.pre enc Tryz.prog Tryz.f10 [] false w args ∧ laidMetH Tryz.prog laid2 w) ∧ sizedMet enc Tryz.prog Tryz.f10 (OpenSpec.ofChange Rows.figureReadsSpec) false w args)
      (Rows.figureReadsSpec.post enc Tryz.prog Tryz.f10 false true false false) := by
  refine returnsInHanded_of_change_and (C := Tryz.checked) (X := fun w _ => laidMetH Tryz.prog laid2 w) (fun _ _ _ hh h => h.of_heap hh) Tryz.own started (by kernel_rfl) Tryz.func10
    (ChangeSpec.witness_shaped (enc := enc) (C := Tryz.checked) (os := os) (X := fun w _ => laidMetH Tryz.prog laid2 w) false (laidWorld os) #[.string ⟨#[]⟩] 8 rfl (laid_shaped os) (by kernel_rfl) (by kernel_rfl) (by kernel_rfl) (laid_met os _)) ?_
  intro W base args ds gs before hval hW _ _ hL _
  exact law_step (P := Tryz.prog) (m := 8) (tb := 4) (tys := [(false, .str)]) rfl (by kernel_rfl) Tryz.laidOut (by kernel_rfl) (by kernel_rfl) Tryz.underlying4
    (fun ds hd => by
      match ds, hd with
      | [d0], _ => rfl) figureReads_all hval hW
theorem figureReads_inPlace : Tryz.prog.inPlace 10 = Rows.figureReadsRow.inPlace := by kernel_rfl
theorem figureReads_unfollowed : Tryz.prog.unfollowed 10 = Rows.figureReadsRow.unfollowed := by kernel_rfl
theorem figureReads_recurses : Tryz.prog.recurses 10 = Rows.figureReadsRow.recurses := by kernel_rfl
theorem figureReads_named : Tryz.prog.varsNamed 10 = Rows.figureReadsRow.named := by kernel_rfl
theorem figureReads_facts : joinedFacts Tryz.prog 10 Tryz.f10 Rows.figureReadsSpec Rows.figureReadsRow = true := by
  unfold joinedFacts
  rw [Tryz.laidOut, Tryz.rowed, Tryz.heard, Tryz.enters, Tryz.keys, Tryz.lifts, Tryz.makes, figureReads_inPlace, figureReads_unfollowed, figureReads_recurses, figureReads_named]
  kernel_rfl
theorem figureReads_holds : Rows.FigureReadsSaid :=
  OpenClaim.holds_of_wide 10 Tryz.f10 rfl rfl rfl rfl rfl rfl rfl ⟨rfl, rfl, rfl, rfl, rfl⟩ rfl rfl rfl rfl rfl (by kernel_rfl) Tryz.func10 figureReads_facts
    (of_decide_eq_true (by kernel_rfl)) (by unfold Func.isWrapper; first | (rw [if_pos (by decide +kernel)]; kernel_rfl) | (rw [if_neg (by decide +kernel)]; exact ⟨rfl, rfl⟩))
    (fun os started H enc _ => figureReads_lifted os started H enc)
theorem figureReads_card : Rows.FigureReadsCardSaid :=
  Claim7.holds_tied_plain_at .later [] [.data, .pinned] true (true, "526c3608b1bf4594dab855b5ea5ed6334915c442bf458cdbca8cfed422c7bfc4") false
    figureReads_holds (fun _ h => by cases h) (by kernel_rfl) (fun _ h => by cases h) figureReads_row_tie rfl ⟨rfl, rfl⟩ (by kernel_rfl) rfl
    (fun f fn hf hfn => by
      obtain rfl : f = 10 := Option.some.inj ((show Tryz.prog.funcNamed Rows.figureReadsRow.func = some 10 by kernel_rfl).symm.trans hf) |>.symm
      obtain rfl : fn = Tryz.f10 := (Option.some.inj (Tryz.func10.symm.trans hfn)).symm
      exact ⟨by kernel_rfl, fun j t ht => by
        have hall : (Tryz.f10.params.toList.all fun u => !Tryz.prog.wantsStandIn u) = true := by kernel_rfl
        have hm : t ∈ Tryz.f10.params.toList := by simpa using Array.mem_of_getElem? ht
        exact (show Tryz.prog.wantsStandIn t = false by simpa using List.all_eq_true.1 hall t hm)⟩)
    (by kernel_rfl)
#print axioms figureReads_card
end Go.Proofs.YtefdnbbfkhkjeaaGreatDoor
end
