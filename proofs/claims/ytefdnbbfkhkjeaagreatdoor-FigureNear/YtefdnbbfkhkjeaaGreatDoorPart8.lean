/-
  What a fraction is rounded to is away by half a place at most.
  Conditions: none beyond those that the theorems state. (Part 8: EuFigureNear.)
-/
import Derived.Test.YtefdnbbfkhkjeaaGreatDoorPart7

set_option linter.unusedSectionVars false
set_option linter.unusedVariables false
set_option linter.unusedSimpArgs false
set_option linter.unnecessarySimpa false

section
namespace Go.Proofs.YtefdnbbfkhkjeaaGreatDoor
open Go Go.Ab Go.ChangeShapes Go.WideShapes Go.ChangeAt Go.RowKit
theorem figureNear_all (xs : List AV) (h : OkArgs [(true, tyF), (false, .int .i64)] xs) : PCall Tryz.prog 12 xs (· = .b true) := by
  obtain ⟨x, l0, rfl, hx, y, l1, rfl, hy, rfl⟩ := h
  obtain ⟨ax, ex⟩ := frac_arg hx
  obtain ⟨ay, rfl, by_, cy⟩ := int_arg hy
  exact pcall_part (u := 320) (af := row320) tab_all lTab_part Tryz.mixed (by kernel_rfl) rfl (law10_near (T := tab) ax ay) (by simp [ex, wkA])
set_option maxRecDepth 100000 in
theorem figureNear_lifted (os : Os) (started : os.Started) (H : Type) (enc : TypeId × Value → H) :
    ReturnsInHanded {} Tryz.checked os 12 .any (fun w args => (Rows.figureNearSpec.pre enc Tryz.prog Tryz.f12 [] false w args ∧ laidMetH Tryz.prog laid2 w) ∧ sizedMet enc Tryz.prog Tryz.f12 (OpenSpec.ofChange Rows.figureNearSpec) false w args)
      (Rows.figureNearSpec.post enc Tryz.prog Tryz.f12 false true false false) := by
  refine returnsInHanded_of_change_and (C := Tryz.checked) (X := fun w _ => laidMetH Tryz.prog laid2 w) (fun _ _ _ hh h => h.of_heap hh) Tryz.own started (by kernel_rfl) Tryz.func12
    (ChangeSpec.witness_shaped (enc := enc) (C := Tryz.checked) (os := os) (X := fun w _ => laidMetH Tryz.prog laid2 w) false (laidWorld os) #[.agg #[.bool false, .slice none 0 0, .slice none 0 0], .int .i64 0] 8 rfl (laid_shaped os) (by kernel_rfl) (by kernel_rfl) (by kernel_rfl) (laid_met os _)) ?_
  intro W base args ds gs before hval hW _ _ hL _
  exact law_step (P := Tryz.prog) (m := 8) (tb := 4) (tys := [(true, tyF), (false, .int .i64)]) rfl (by kernel_rfl) Tryz.laidOut (by kernel_rfl) (by kernel_rfl) Tryz.underlying4
    (fun ds hd => by
      match ds, hd with
      | [d0, d1], _ => rfl) figureNear_all hval hW
theorem figureNear_inPlace : Tryz.prog.inPlace 12 = Rows.figureNearRow.inPlace := by kernel_rfl
theorem figureNear_unfollowed : Tryz.prog.unfollowed 12 = Rows.figureNearRow.unfollowed := by kernel_rfl
theorem figureNear_recurses : Tryz.prog.recurses 12 = Rows.figureNearRow.recurses := by kernel_rfl
theorem figureNear_named : Tryz.prog.varsNamed 12 = Rows.figureNearRow.named := by kernel_rfl
theorem figureNear_facts : joinedFacts Tryz.prog 12 Tryz.f12 Rows.figureNearSpec Rows.figureNearRow = true := by
  unfold joinedFacts
  rw [Tryz.laidOut, Tryz.rowed, Tryz.heard, Tryz.enters, Tryz.keys, Tryz.lifts, Tryz.makes, figureNear_inPlace, figureNear_unfollowed, figureNear_recurses, figureNear_named]
  kernel_rfl
theorem figureNear_holds : Rows.FigureNearSaid :=
  OpenClaim.holds_of_wide 12 Tryz.f12 rfl rfl rfl rfl rfl rfl rfl ⟨rfl, rfl, rfl, rfl, rfl⟩ rfl rfl rfl rfl rfl (by kernel_rfl) Tryz.func12 figureNear_facts
    (of_decide_eq_true (by kernel_rfl)) (by unfold Func.isWrapper; first | (rw [if_pos (by decide +kernel)]; kernel_rfl) | (rw [if_neg (by decide +kernel)]; exact ⟨rfl, rfl⟩))
    (fun os started H enc _ => figureNear_lifted os started H enc)
theorem figureNear_card : Rows.FigureNearCardSaid :=
  Claim7.holds_tied_plain_at .later [] [.data, .pinned] true (true, "526c3608b1bf4594dab855b5ea5ed6334915c442bf458cdbca8cfed422c7bfc4") false
    figureNear_holds (fun _ h => by cases h) (by kernel_rfl) (fun _ h => by cases h) figureNear_row_tie rfl ⟨rfl, rfl⟩ (by kernel_rfl) rfl
    (fun f fn hf hfn => by
      obtain rfl : f = 12 := Option.some.inj ((show Tryz.prog.funcNamed Rows.figureNearRow.func = some 12 by kernel_rfl).symm.trans hf) |>.symm
      obtain rfl : fn = Tryz.f12 := (Option.some.inj (Tryz.func12.symm.trans hfn)).symm
      exact ⟨by kernel_rfl, fun j t ht => by
        have hall : (Tryz.f12.params.toList.all fun u => !Tryz.prog.wantsStandIn u) = true := by kernel_rfl
        have hm : t ∈ Tryz.f12.params.toList := by simpa using Array.mem_of_getElem? ht
        exact (show Tryz.prog.wantsStandIn t = false by simpa using List.all_eq_true.1 hall t hm)⟩)
    (by kernel_rfl)
#print axioms figureNear_card
end Go.Proofs.YtefdnbbfkhkjeaaGreatDoor
end
