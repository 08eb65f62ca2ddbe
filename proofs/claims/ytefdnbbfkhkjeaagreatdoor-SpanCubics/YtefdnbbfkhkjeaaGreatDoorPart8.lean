/-
  The cubic of any span, and its derivative, at any moment are as the document has them: the card of the law SpanCubics.
  Conditions: none beyond those that the theorems state. (Part 8: EtSpanCubics.)
-/
import Derived.Test.YtefdnbbfkhkjeaaGreatDoorPart7

set_option linter.unusedSectionVars false
set_option linter.unusedVariables false
set_option linter.unusedSimpArgs false
set_option linter.unnecessarySimpa false

section
namespace Go.Proofs.YtefdnbbfkhkjeaaGreatDoor
open Go Go.Ab Go.ChangeShapes Go.WideShapes Go.ChangeAt Go.RowKit
theorem spanCubics_all (xs : List AV) (h : OkArgs [(true, tyS), (true, tyF)] xs) : PCall Tryz.prog 3 xs (· = .b true) := by
  obtain ⟨x, l0, rfl, hx, y, l1, rfl, hy, rfl⟩ := h
  obtain ⟨tx, kx, px, qx, rx, sx, ex⟩ := span_arg hx
  obtain ⟨ay, ey⟩ := frac_arg hy
  exact pcall_part (u := 311) (af := row311) tab_all lTab_part Tryz.mixed (by kernel_rfl) rfl (law41_cubics (T := tab) tx kx ay px qx rx sx) (by simp [ex, ey])
set_option maxRecDepth 100000 in
theorem spanCubics_lifted (os : Os) (started : os.Started) (H : Type) (enc : TypeId × Value → H) :
    ReturnsInHanded {} Tryz.checked os 3 .any (fun w args => (Rows.spanCubicsSpec.pre enc Tryz.prog Tryz.f3 [] false w args ∧ laidMetH Tryz.prog laid2 w) ∧ sizedMet enc Tryz.prog Tryz.f3 (OpenSpec.ofChange Rows.spanCubicsSpec) false w args)
      (Rows.spanCubicsSpec.post enc Tryz.prog Tryz.f3 false true false false) := by
  refine returnsInHanded_of_change_and (C := Tryz.checked) (X := fun w _ => laidMetH Tryz.prog laid2 w) (fun _ _ _ hh h => h.of_heap hh) Tryz.own started (by kernel_rfl) Tryz.func3
    (ChangeSpec.witness_shaped (enc := enc) (C := Tryz.checked) (os := os) (X := fun w _ => laidMetH Tryz.prog laid2 w) false (laidWorld os) #[.agg #[.bool false, .slice none 0 0, .slice none 0 0, .bool false, .slice none 0 0, .slice none 0 0, .slice none 0 0, .slice none 0 0, .slice none 0 0, .slice none 0 0], .agg #[.bool false, .slice none 0 0, .slice none 0 0]] 8 rfl (laid_shaped os) (by kernel_rfl) (by kernel_rfl) (by kernel_rfl) (laid_met os _)) ?_
  intro W base args ds gs before hval hW _ _ hL _
  exact law_step (P := Tryz.prog) (m := 8) (tb := 4) (tys := [(true, tyS), (true, tyF)]) rfl (by kernel_rfl) Tryz.laidOut (by kernel_rfl) (by kernel_rfl) Tryz.underlying4
    (fun ds hd => by
      match ds, hd with
      | [d0, d1], _ => rfl) spanCubics_all hval hW
theorem spanCubics_inPlace : Tryz.prog.inPlace 3 = Rows.spanCubicsRow.inPlace := by kernel_rfl
theorem spanCubics_unfollowed : Tryz.prog.unfollowed 3 = Rows.spanCubicsRow.unfollowed := by kernel_rfl
theorem spanCubics_recurses : Tryz.prog.recurses 3 = Rows.spanCubicsRow.recurses := by kernel_rfl
theorem spanCubics_named : Tryz.prog.varsNamed 3 = Rows.spanCubicsRow.named := by kernel_rfl
theorem spanCubics_facts : joinedFacts Tryz.prog 3 Tryz.f3 Rows.spanCubicsSpec Rows.spanCubicsRow = true := by
  unfold joinedFacts
  rw [Tryz.laidOut, Tryz.rowed, Tryz.heard, Tryz.enters, Tryz.keys, Tryz.lifts, Tryz.makes, spanCubics_inPlace, spanCubics_unfollowed, spanCubics_recurses, spanCubics_named]
  kernel_rfl
theorem spanCubics_holds : Rows.SpanCubicsSaid :=
  OpenClaim.holds_of_wide 3 Tryz.f3 rfl rfl rfl rfl rfl rfl rfl ⟨rfl, rfl, rfl, rfl, rfl⟩ rfl rfl rfl rfl rfl (by kernel_rfl) Tryz.func3 spanCubics_facts
    (of_decide_eq_true (by kernel_rfl)) (by unfold Func.isWrapper; first | (rw [if_pos (by decide +kernel)]; kernel_rfl) | (rw [if_neg (by decide +kernel)]; exact ⟨rfl, rfl⟩))
    (fun os started H enc _ => spanCubics_lifted os started H enc)
theorem spanCubics_card : Rows.SpanCubicsCardSaid :=
  Claim7.holds_tied_plain_at .later [] [.data, .pinned] true (true, "526c3608b1bf4594dab855b5ea5ed6334915c442bf458cdbca8cfed422c7bfc4") false
    spanCubics_holds (fun _ h => by cases h) (by kernel_rfl) (fun _ h => by cases h) spanCubics_row_tie rfl ⟨rfl, rfl⟩ (by kernel_rfl) rfl
    (fun f fn hf hfn => by
      obtain rfl : f = 3 := Option.some.inj ((show Tryz.prog.funcNamed Rows.spanCubicsRow.func = some 3 by kernel_rfl).symm.trans hf) |>.symm
      obtain rfl : fn = Tryz.f3 := (Option.some.inj (Tryz.func3.symm.trans hfn)).symm
      exact ⟨by kernel_rfl, fun j t ht => by
        have hall : (Tryz.f3.params.toList.all fun u => !Tryz.prog.wantsStandIn u) = true := by kernel_rfl
        have hm : t ∈ Tryz.f3.params.toList := by simpa using Array.mem_of_getElem? ht
        exact (show Tryz.prog.wantsStandIn t = false by simpa using List.all_eq_true.1 hall t hm)⟩)
    (by kernel_rfl)
#print axioms spanCubics_card
end Go.Proofs.YtefdnbbfkhkjeaaGreatDoor
end
