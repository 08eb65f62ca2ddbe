/-
  What is written of any fraction is read as its value, if its numbers aren't too long; what is read of any bytes is written, and read again, as the same.
  Conditions: none beyond those that the theorems state. (Part 8: EuFigureBack.)
-/
import Derived.Test.YtefdnbbfkhkjeaaGreatDoorPart7

set_option linter.unusedSectionVars false
set_option linter.unusedVariables false
set_option linter.unusedSimpArgs false
set_option linter.unnecessarySimpa false

section
namespace Go.Proofs.YtefdnbbfkhkjeaaGreatDoor
open Go Go.Ab Go.ChangeShapes Go.WideShapes Go.ChangeAt Go.RowKit
theorem figureBack_all (xs : List AV) (h : OkArgs [(true, tyF), (false, .str)] xs) : PCall Tryz.prog 11 xs (· = .b true) := by
  obtain ⟨x, l0, rfl, hx, y, l1, rfl, hy, rfl⟩ := h
  obtain ⟨ax, ex⟩ := frac_arg hx
  obtain ⟨ay, rfl, by_⟩ := str_arg hy
  exact pcall_part (u := 319) (af := row319) tab_all lTab_part Tryz.mixed (by kernel_rfl) rfl (law10_back (T := tab) ax ay) (by simp [ex, wkA])
set_option maxRecDepth 100000 in
theorem figureBack_lifted (os : Os) (started : os.Started) (H : Type) (enc : TypeId × Value → H) :
    ReturnsInHanded {} Tryz.checked os 11 .any (fun w args => (Rows.figureBackSpec.pre enc Tryz.prog Tryz.f11 [] false w args ∧ laidMetH Tryz.prog laid2 w) ∧ sizedMet enc Tryz.prog Tryz.f11 (OpenSpec.ofChange Rows.figureBackSpec) false w args)
      (Rows.figureBackSpec.post enc Tryz.prog Tryz.f11 false true false false) := by
  refine returnsInHanded_of_change_and (C := Tryz.checked) (X := fun w _ => laidMetH Tryz.prog laid2 w) (fun _ _ _ hh h => h.of_heap hh) Tryz.own started (by kernel_rfl) Tryz.func11
    (ChangeSpec.witness_shaped (enc := enc) (C := Tryz.checked) (os := os) (X := fun w _ => laidMetH Tryz.prog laid2 w) false (laidWorld os) #[.agg #[.bool false, .slice none 0 0, .slice none 0 0], .string ⟨#[]⟩] 8 rfl (laid_shaped os) (by kernel_rfl) (by kernel_rfl) (by kernel_rfl) (laid_met os _)) ?_
  intro W base args ds gs before hval hW _ _ hL _
  exact law_step (P := Tryz.prog) (m := 8) (tb := 4) (tys := [(true, tyF), (false, .str)]) rfl (by kernel_rfl) Tryz.laidOut (by kernel_rfl) (by kernel_rfl) Tryz.underlying4
    (fun ds hd => by
      match ds, hd with
      | [d0, d1], _ => rfl) figureBack_all hval hW
theorem figureBack_inPlace : Tryz.prog.inPlace 11 = Rows.figureBackRow.inPlace := by kernel_rfl
theorem figureBack_unfollowed : Tryz.prog.unfollowed 11 = Rows.figureBackRow.unfollowed := by kernel_rfl
theorem figureBack_recurses : Tryz.prog.recurses 11 = Rows.figureBackRow.recurses := by kernel_rfl
theorem figureBack_named : Tryz.prog.varsNamed 11 = Rows.figureBackRow.named := by kernel_rfl
theorem figureBack_facts : joinedFacts Tryz.prog 11 Tryz.f11 Rows.figureBackSpec Rows.figureBackRow = true := by
  unfold joinedFacts
  rw [Tryz.laidOut, Tryz.rowed, Tryz.heard, Tryz.enters, Tryz.keys, Tryz.lifts, Tryz.makes, figureBack_inPlace, figureBack_unfollowed, figureBack_recurses, figureBack_named]
  kernel_rfl
theorem figureBack_holds : Rows.FigureBackSaid :=
  OpenClaim.holds_of_wide 11 Tryz.f11 rfl rfl rfl rfl rfl rfl rfl ⟨rfl, rfl, rfl, rfl, rfl⟩ rfl rfl rfl rfl rfl (by kernel_rfl) Tryz.func11 figureBack_facts
    (of_decide_eq_true (by kernel_rfl)) (by unfold Func.isWrapper; first | (rw [if_pos (by decide +kernel)]; kernel_rfl) | (rw [if_neg (by decide +kernel)]; exact ⟨rfl, rfl⟩))
    (fun os started H enc _ => figureBack_lifted os started H enc)
theorem figureBack_card : Rows.FigureBackCardSaid :=
  Claim7.holds_tied_plain_at .later [] [.data, .pinned] true (true, "526c3608b1bf4594dab855b5ea5ed6334915c442bf458cdbca8cfed422c7bfc4") false
    figureBack_holds (fun _ h => by cases h) (by kernel_rfl) (fun _ h => by cases h) figureBack_row_tie rfl ⟨rfl, rfl⟩ (by kernel_rfl) rfl
    (fun f fn hf hfn => by
      obtain rfl : f = 11 := Option.some.inj ((show Tryz.prog.funcNamed Rows.figureBackRow.func = some 11 by kernel_rfl).symm.trans hf) |>.symm
      obtain rfl : fn = Tryz.f11 := (Option.some.inj (Tryz.func11.symm.trans hfn)).symm
      exact ⟨by kernel_rfl, fun j t ht => by
        have hall : (Tryz.f11.params.toList.all fun u => !Tryz.prog.wantsStandIn u) = true := by kernel_rfl
        have hm : t ∈ Tryz.f11.params.toList := by simpa using Array.mem_of_getElem? ht
        exact (show Tryz.prog.wantsStandIn t = false by simpa using List.all_eq_true.1 hall t hm)⟩)
    (by kernel_rfl)
#print axioms figureBack_card
end Go.Proofs.YtefdnbbfkhkjeaaGreatDoor
end
