/-
  Layer 12, grids: what GridTells says of sums, turned grids and their rows is so for every input.
  Conditions: none beyond those that the theorems state. (Part 8: EtGridTells.)
-/
import Derived.Test.YtefdnbbfkhkjeaaGreatDoorPart7

set_option linter.unusedSectionVars false
set_option linter.unusedVariables false
set_option linter.unusedSimpArgs false
set_option linter.unnecessarySimpa false

section
namespace Go.Proofs.YtefdnbbfkhkjeaaGreatDoor
open Go Go.Ab Go.ChangeShapes Go.WideShapes Go.ChangeAt Go.RowKit
theorem gridTells_all (xs : List AV) (h : OkArgs [(false, .sl (.sl tyF)), (false, .sl (.sl tyF)), (false, .int .i64)] xs) : PCall Tryz.prog 5 xs (· = .b true) := by
  obtain ⟨x, l0, rfl, hx, y, l1, rfl, hy, z, l2, rfl, hz, rfl⟩ := h
  obtain ⟨ax, ex⟩ := mat_arg hx
  obtain ⟨ay, ey⟩ := mat_arg hy
  obtain ⟨az, rfl, bz, cz⟩ := int_arg hz
  exact pcall_part (u := 313) (af := row313) tab_all lTab_part Tryz.mixed (by kernel_rfl) rfl (law12_tells (T := tab) ax ay az) (by simp [ex, ey, wkA])
set_option maxRecDepth 100000 in
theorem gridTells_lifted (os : Os) (started : os.Started) (H : Type) (enc : TypeId × Value → H) :
    ReturnsInHanded {} Tryz.checked os 5 .any (fun w args => (Rows.gridTellsSpec.pre enc Tryz.prog Tryz.f5 [] false w args ∧ laidMetH Tryz.prog laid2 w) ∧ sizedMet enc Tryz.prog Tryz.f5 (OpenSpec.ofChange Rows.gridTellsSpec) false w args)
      (Rows.gridTellsSpec.post enc Tryz.prog Tryz.f5 false true false false) := by
  refine returnsInHanded_of_change_and (C := Tryz.checked) (X := fun w _ => laidMetH Tryz.prog laid2 w) (fun _ _ _ hh h => h.of_heap hh) Tryz.own started (by kernel_rfl) Tryz.func5
    (ChangeSpec.witness_shaped (enc := enc) (C := Tryz.checked) (os := os) (X := fun w _ => laidMetH Tryz.prog laid2 w) false (laidWorld os) #[.slice none 0 0, .slice none 0 0, .int .i64 0] 8 rfl (laid_shaped os) (by kernel_rfl) (by kernel_rfl) (by kernel_rfl) (laid_met os _)) ?_
  intro W base args ds gs before hval hW _ _ hL _
  exact law_step (P := Tryz.prog) (m := 8) (tb := 4) (tys := [(false, .sl (.sl tyF)), (false, .sl (.sl tyF)), (false, .int .i64)]) rfl (by kernel_rfl) Tryz.laidOut (by kernel_rfl) (by kernel_rfl) Tryz.underlying4
    (fun ds hd => by
      match ds, hd with
      | [d0, d1, d2], _ => rfl) gridTells_all hval hW
theorem gridTells_inPlace : Tryz.prog.inPlace 5 = Rows.gridTellsRow.inPlace := by kernel_rfl
theorem gridTells_unfollowed : Tryz.prog.unfollowed 5 = Rows.gridTellsRow.unfollowed := by kernel_rfl
theorem gridTells_recurses : Tryz.prog.recurses 5 = Rows.gridTellsRow.recurses := by kernel_rfl
theorem gridTells_named : Tryz.prog.varsNamed 5 = Rows.gridTellsRow.named := by kernel_rfl
theorem gridTells_facts : joinedFacts Tryz.prog 5 Tryz.f5 Rows.gridTellsSpec Rows.gridTellsRow = true := by
  unfold joinedFacts
  rw [Tryz.laidOut, Tryz.rowed, Tryz.heard, Tryz.enters, Tryz.keys, Tryz.lifts, Tryz.makes, gridTells_inPlace, gridTells_unfollowed, gridTells_recurses, gridTells_named]
  kernel_rfl
theorem gridTells_holds : Rows.GridTellsSaid :=
  OpenClaim.holds_of_wide 5 Tryz.f5 rfl rfl rfl rfl rfl rfl rfl ⟨rfl, rfl, rfl, rfl, rfl⟩ rfl rfl rfl rfl rfl (by kernel_rfl) Tryz.func5 gridTells_facts
    (of_decide_eq_true (by kernel_rfl)) (by unfold Func.isWrapper; first | (rw [if_pos (by decide +kernel)]; kernel_rfl) | (rw [if_neg (by decide +kernel)]; exact ⟨rfl, rfl⟩))
    (fun os started H enc _ => gridTells_lifted os started H enc)
theorem gridTells_card : Rows.GridTellsCardSaid :=
  Claim7.holds_tied_plain_at .later [] [.data, .pinned] true (true, "526c3608b1bf4594dab855b5ea5ed6334915c442bf458cdbca8cfed422c7bfc4") false
    gridTells_holds (fun _ h => by cases h) (by kernel_rfl) (fun _ h => by cases h) gridTells_row_tie rfl ⟨rfl, rfl⟩ (by kernel_rfl) rfl
    (fun f fn hf hfn => by
      obtain rfl : f = 5 := Option.some.inj ((show Tryz.prog.funcNamed Rows.gridTellsRow.func = some 5 by kernel_rfl).symm.trans hf) |>.symm
      obtain rfl : fn = Tryz.f5 := (Option.some.inj (Tryz.func5.symm.trans hfn)).symm
      exact ⟨by kernel_rfl, fun j t ht => by
        have hall : (Tryz.f5.params.toList.all fun u => !Tryz.prog.wantsStandIn u) = true := by kernel_rfl
        have hm : t ∈ Tryz.f5.params.toList := by simpa using Array.mem_of_getElem? ht
        exact (show Tryz.prog.wantsStandIn t = false by simpa using List.all_eq_true.1 hall t hm)⟩)
    (by kernel_rfl)
#print axioms gridTells_card
end Go.Proofs.YtefdnbbfkhkjeaaGreatDoor
end
