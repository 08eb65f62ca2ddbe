/-
  Layer 12, grids: what GridOrder says of products taken in another order is so for every input.
  Conditions: none beyond those that the theorems state. (Part 8: EtGridOrder.)
-/
import Derived.Test.YtefdnbbfkhkjeaaGreatDoorPart7

set_option linter.unusedSectionVars false
set_option linter.unusedVariables false
set_option linter.unusedSimpArgs false
set_option linter.unnecessarySimpa false

section
namespace Go.Proofs.YtefdnbbfkhkjeaaGreatDoor
open Go Go.Ab Go.ChangeShapes Go.WideShapes Go.ChangeAt Go.RowKit
theorem gridOrder_all (xs : List AV) (h : OkArgs [(false, .sl (.sl tyF)), (false, .sl (.sl tyF)), (false, .sl tyF)] xs) : PCall Tryz.prog 8 xs (· = .b true) := by
  obtain ⟨x, l0, rfl, hx, y, l1, rfl, hy, z, l2, rfl, hz, rfl⟩ := h
  obtain ⟨ax, ex⟩ := mat_arg hx
  obtain ⟨ay, ey⟩ := mat_arg hy
  obtain ⟨az, ez⟩ := row_arg hz
  exact pcall_part (u := 316) (af := row316) tab_all lTab_part Tryz.mixed (by kernel_rfl) rfl (law12_order (T := tab) ax ay az) (by simp [ex, ey, ez])
set_option maxRecDepth 100000 in
theorem gridOrder_lifted (os : Os) (started : os.Started) (H : Type) (enc : TypeId × Value → H) :
    ReturnsInHanded {} Tryz.checked os 8 .any (fun w args => (Rows.gridOrderSpec.pre enc Tryz.prog Tryz.f8 [] false w args ∧ laidMetH Tryz.prog laid2 w) ∧ sizedMet enc Tryz.prog Tryz.f8 (OpenSpec.ofChange Rows.gridOrderSpec) false w args)
      (Rows.gridOrderSpec.post enc Tryz.prog Tryz.f8 false true false false) := by
  refine returnsInHanded_of_change_and (C := Tryz.checked) (X := fun w _ => laidMetH Tryz.prog laid2 w) (fun _ _ _ hh h => h.of_heap hh) Tryz.own started (by kernel_rfl) Tryz.func8
    (ChangeSpec.witness_shaped (enc := enc) (C := Tryz.checked) (os := os) (X := fun w _ => laidMetH Tryz.prog laid2 w) false (laidWorld os) #[.slice none 0 0, .slice none 0 0, .slice none 0 0] 8 rfl (laid_shaped os) (by kernel_rfl) (by kernel_rfl) (by kernel_rfl) (laid_met os _)) ?_
  intro W base args ds gs before hval hW _ _ hL _
  exact law_step (P := Tryz.prog) (m := 8) (tb := 4) (tys := [(false, .sl (.sl tyF)), (false, .sl (.sl tyF)), (false, .sl tyF)]) rfl (by kernel_rfl) Tryz.laidOut (by kernel_rfl) (by kernel_rfl) Tryz.underlying4
    (fun ds hd => by
      match ds, hd with
      | [d0, d1, d2], _ => rfl) gridOrder_all hval hW
theorem gridOrder_inPlace : Tryz.prog.inPlace 8 = Rows.gridOrderRow.inPlace := by kernel_rfl
theorem gridOrder_unfollowed : Tryz.prog.unfollowed 8 = Rows.gridOrderRow.unfollowed := by kernel_rfl
theorem gridOrder_recurses : Tryz.prog.recurses 8 = Rows.gridOrderRow.recurses := by kernel_rfl
theorem gridOrder_named : Tryz.prog.varsNamed 8 = Rows.gridOrderRow.named := by kernel_rfl
theorem gridOrder_facts : joinedFacts Tryz.prog 8 Tryz.f8 Rows.gridOrderSpec Rows.gridOrderRow = true := by
  unfold joinedFacts
  rw [Tryz.laidOut, Tryz.rowed, Tryz.heard, Tryz.enters, Tryz.keys, Tryz.lifts, Tryz.makes, gridOrder_inPlace, gridOrder_unfollowed, gridOrder_recurses, gridOrder_named]
  kernel_rfl
theorem gridOrder_holds : Rows.GridOrderSaid :=
  OpenClaim.holds_of_wide 8 Tryz.f8 rfl rfl rfl rfl rfl rfl rfl ⟨rfl, rfl, rfl, rfl, rfl⟩ rfl rfl rfl rfl rfl (by kernel_rfl) Tryz.func8 gridOrder_facts
    (of_decide_eq_true (by kernel_rfl)) (by unfold Func.isWrapper; first | (rw [if_pos (by decide +kernel)]; kernel_rfl) | (rw [if_neg (by decide +kernel)]; exact ⟨rfl, rfl⟩))
    (fun os started H enc _ => gridOrder_lifted os started H enc)
theorem gridOrder_card : Rows.GridOrderCardSaid :=
  Claim7.holds_tied_plain_at .later [] [.data, .pinned] true (true, "526c3608b1bf4594dab855b5ea5ed6334915c442bf458cdbca8cfed422c7bfc4") false
    gridOrder_holds (fun _ h => by cases h) (by kernel_rfl) (fun _ h => by cases h) gridOrder_row_tie rfl ⟨rfl, rfl⟩ (by kernel_rfl) rfl
    (fun f fn hf hfn => by
      obtain rfl : f = 8 := Option.some.inj ((show Tryz.prog.funcNamed Rows.gridOrderRow.func = some 8 by kernel_rfl).symm.trans hf) |>.symm
      obtain rfl : fn = Tryz.f8 := (Option.some.inj (Tryz.func8.symm.trans hfn)).symm
      exact ⟨by kernel_rfl, fun j t ht => by
        have hall : (Tryz.f8.params.toList.all fun u => !Tryz.prog.wantsStandIn u) = true := by kernel_rfl
        have hm : t ∈ Tryz.f8.params.toList := by simpa using Array.mem_of_getElem? ht
        exact (show Tryz.prog.wantsStandIn t = false by simpa using List.all_eq_true.1 hall t hm)⟩)
    (by kernel_rfl)
#print axioms gridOrder_card
end Go.Proofs.YtefdnbbfkhkjeaaGreatDoor
end
