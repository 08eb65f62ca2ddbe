/-
  Layer 12, grids: what GridProducts says of products and sums of matrices is so for every input.
  Conditions: none beyond those that the theorems state. (Part 8: EtGridProducts.)
-/
import Derived.Test.YtefdnbbfkhkjeaaGreatDoorPart7

set_option linter.unusedSectionVars false
set_option linter.unusedVariables false
set_option linter.unusedSimpArgs false
set_option linter.unnecessarySimpa false

section
namespace Go.Proofs.YtefdnbbfkhkjeaaGreatDoor
open Go Go.Ab Go.ChangeShapes Go.WideShapes Go.ChangeAt Go.RowKit
theorem gridProducts_all (xs : List AV) (h : OkArgs [(false, .sl (.sl tyF)), (false, .sl (.sl tyF))] xs) : PCall Tryz.prog 4 xs (· = .b true) := by
  obtain ⟨x, l0, rfl, hx, y, l1, rfl, hy, rfl⟩ := h
  obtain ⟨ax, ex⟩ := mat_arg hx
  obtain ⟨ay, ey⟩ := mat_arg hy
  exact pcall_part (u := 312) (af := row312) tab_all lTab_part Tryz.mixed (by kernel_rfl) rfl (law12_products (T := tab) ax ay) (by simp [ex, ey])
set_option maxRecDepth 100000 in
theorem gridProducts_lifted (os : Os) (started : os.Started) (H : Type) (enc : TypeId × Value → H) :
    ReturnsInHanded {} Tryz.checked os 4 .any (fun w args => (Rows.gridProductsSpec.pre enc Tryz.prog Tryz.f4 [] false w args ∧ laidMetH Tryz.prog laid2 w) ∧ sizedMet enc Tryz.prog Tryz.f4 (OpenSpec.ofChange Rows.gridProductsSpec) false w args)
      (Rows.gridProductsSpec.post enc Tryz.prog Tryz.f4 false true false false) := by
  refine returnsInHanded_of_change_and (C := Tryz.checked) (X := fun w _ => laidMetH Tryz.prog laid2 w) (fun _ _ _ hh h => h.of_heap hh) Tryz.own started (by kernel_rfl) Tryz.func4
    (ChangeSpec.witness_shaped (enc := enc) (C := Tryz.checked) (os := os) (X := fun w _ => laidMetH Tryz.prog laid2 w) false (laidWorld os) #[.slice none 0 0, .slice none 0 0] 8 rfl (laid_shaped os) (by kernel_rfl) (by kernel_rfl) (by kernel_rfl) (laid_met os _)) ?_
  intro W base args ds gs before hval hW _ _ hL _
  exact law_step (P := Tryz.prog) (m := 8) (tb := 4) (tys := [(false, .sl (.sl tyF)), (false, .sl (.sl tyF))]) rfl (by kernel_rfl) Tryz.laidOut (by kernel_rfl) (by kernel_rfl) Tryz.underlying4
    (fun ds hd => by
      match ds, hd with
      | [d0, d1], _ => rfl) gridProducts_all hval hW
theorem gridProducts_inPlace : Tryz.prog.inPlace 4 = Rows.gridProductsRow.inPlace := by kernel_rfl
theorem gridProducts_unfollowed : Tryz.prog.unfollowed 4 = Rows.gridProductsRow.unfollowed := by kernel_rfl
theorem gridProducts_recurses : Tryz.prog.recurses 4 = Rows.gridProductsRow.recurses := by kernel_rfl
theorem gridProducts_named : Tryz.prog.varsNamed 4 = Rows.gridProductsRow.named := by kernel_rfl
theorem gridProducts_facts : joinedFacts Tryz.prog 4 Tryz.f4 Rows.gridProductsSpec Rows.gridProductsRow = true := by
  unfold joinedFacts
  rw [Tryz.laidOut, Tryz.rowed, Tryz.heard, Tryz.enters, Tryz.keys, Tryz.lifts, Tryz.makes, gridProducts_inPlace, gridProducts_unfollowed, gridProducts_recurses, gridProducts_named]
  kernel_rfl
theorem gridProducts_holds : Rows.GridProductsSaid :=
  OpenClaim.holds_of_wide 4 Tryz.f4 rfl rfl rfl rfl rfl rfl rfl ⟨rfl, rfl, rfl, rfl, rfl⟩ rfl rfl rfl rfl rfl (by kernel_rfl) Tryz.func4 gridProducts_facts
    (of_decide_eq_true (by kernel_rfl)) (by unfold Func.isWrapper; first | (rw [if_pos (by decide +kernel)]; kernel_rfl) | (rw [if_neg (by decide +kernel)]; exact ⟨rfl, rfl⟩))
    (fun os started H enc _ => gridProducts_lifted os started H enc)
theorem gridProducts_card : Rows.GridProductsCardSaid :=
  Claim7.holds_tied_plain_at .later [] [.data, .pinned] true (true, "526c3608b1bf4594dab855b5ea5ed6334915c442bf458cdbca8cfed422c7bfc4") false
    gridProducts_holds (fun _ h => by cases h) (by kernel_rfl) (fun _ h => by cases h) gridProducts_row_tie rfl ⟨rfl, rfl⟩ (by kernel_rfl) rfl
    (fun f fn hf hfn => by
      obtain rfl : f = 4 := Option.some.inj ((show Tryz.prog.funcNamed Rows.gridProductsRow.func = some 4 by kernel_rfl).symm.trans hf) |>.symm
      obtain rfl : fn = Tryz.f4 := (Option.some.inj (Tryz.func4.symm.trans hfn)).symm
      exact ⟨by kernel_rfl, fun j t ht => by
        have hall : (Tryz.f4.params.toList.all fun u => !Tryz.prog.wantsStandIn u) = true := by kernel_rfl
        have hm : t ∈ Tryz.f4.params.toList := by simpa using Array.mem_of_getElem? ht
        exact (show Tryz.prog.wantsStandIn t = false by simpa using List.all_eq_true.1 hall t hm)⟩)
    (by kernel_rfl)
#print axioms gridProducts_card
end Go.Proofs.YtefdnbbfkhkjeaaGreatDoor
end
