/-
  Noughts, with a 1 or without, whether two rows are the same, a row's norm and size, are as the document has them.
  Conditions: none beyond those that the theorems state. (Part 8: FtRowTells.)
-/
import Derived.Test.YtjgkladblmdanaaGreatDoorPart7

set_option linter.unusedSectionVars false
set_option linter.unusedVariables false
set_option linter.unusedSimpArgs false
set_option linter.unnecessarySimpa false

section
namespace Go.Proofs.YtjgkladblmdanaaGreatDoor
open Go Go.Ab Go.ChangeShapes Go.WideShapes Go.ChangeAt Go.RowKit
theorem rowTells_all (xs : List AV) (h : OkArgs [(false, .sl tyF), (false, .sl tyF), (true, repTy 2 (.int .i64))] xs) : PCall Tryz.prog 7 xs (· = .b true) := by
  obtain ⟨x, l0, rfl, hx, y, l1, rfl, hy, z, l2, rfl, hz, rfl⟩ := h
  obtain ⟨ax, ex⟩ := row_arg hx
  obtain ⟨ay, ey⟩ := row_arg hy
  obtain ⟨az, bz_, rfl, cz, dz⟩ := arr2_arg hz
  exact pcall_part (u := 370) (af := row370) tab_all lTab_part Tryz.mixed (by kernel_rfl) rfl (law11_tells (T := tab) ax ay az bz_) (by simp [ex, ey, wkA, wkR])
set_option maxRecDepth 100000 in
theorem rowTells_lifted (os : Os) (started : os.Started) (H : Type) (enc : TypeId × Value → H) :
    ReturnsInHanded {} Tryz.checked os 7 .any (fun w args => (Rows.rowTellsSpec.pre enc Tryz.prog Tryz.f7 [] false w args ∧ laidMetH Tryz.prog laid2 w) ∧ sizedMet enc Tryz.prog Tryz.f7 (OpenSpec.ofChange Rows.rowTellsSpec) false w args)
      (Rows.rowTellsSpec.post enc Tryz.prog Tryz.f7 false true false false) := by
  refine returnsInHanded_of_change_and (C := Tryz.checked) (X := fun w _ => laidMetH Tryz.prog laid2 w) (fun _ _ _ hh h => h.of_heap hh) Tryz.own started (by kernel_rfl) Tryz.func7
    (ChangeSpec.witness_shaped (enc := enc) (C := Tryz.checked) (os := os) (X := fun w _ => laidMetH Tryz.prog laid2 w) false (laidWorld os) #[.slice none 0 0, .slice none 0 0, .agg #[.int .i64 0, .int .i64 0]] 8 rfl (laid_shaped os) (by kernel_rfl) (by kernel_rfl) (by kernel_rfl) (laid_met os _)) ?_
  intro W base args ds gs before hval hW _ _ hL _
  exact law_step (P := Tryz.prog) (m := 8) (tb := 4) (tys := [(false, .sl tyF), (false, .sl tyF), (true, repTy 2 (.int .i64))]) rfl (by kernel_rfl) Tryz.laidOut (by kernel_rfl) (by kernel_rfl) Tryz.underlying4
    (fun ds hd => by
      match ds, hd with
      | [d0, d1, d2], _ => rfl) rowTells_all hval hW
theorem rowTells_inPlace : Tryz.prog.inPlace 7 = Rows.rowTellsRow.inPlace := by kernel_rfl
theorem rowTells_unfollowed : Tryz.prog.unfollowed 7 = Rows.rowTellsRow.unfollowed := by kernel_rfl
theorem rowTells_recurses : Tryz.prog.recurses 7 = Rows.rowTellsRow.recurses := by kernel_rfl
theorem rowTells_named : Tryz.prog.varsNamed 7 = Rows.rowTellsRow.named := by kernel_rfl
theorem rowTells_facts : joinedFacts Tryz.prog 7 Tryz.f7 Rows.rowTellsSpec Rows.rowTellsRow = true := by
  unfold joinedFacts
  rw [Tryz.laidOut, Tryz.rowed, Tryz.heard, Tryz.enters, Tryz.keys, Tryz.lifts, Tryz.makes, rowTells_inPlace, rowTells_unfollowed, rowTells_recurses, rowTells_named]
  kernel_rfl
theorem rowTells_holds : Rows.RowTellsSaid :=
  OpenClaim.holds_of_wide 7 Tryz.f7 rfl rfl rfl rfl rfl rfl rfl ⟨rfl, rfl, rfl, rfl, rfl⟩ rfl rfl rfl rfl rfl (by kernel_rfl) Tryz.func7 rowTells_facts
    (of_decide_eq_true (by kernel_rfl)) (by unfold Func.isWrapper; first | (rw [if_pos (by decide +kernel)]; kernel_rfl) | (rw [if_neg (by decide +kernel)]; exact ⟨rfl, rfl⟩))
    (fun os started H enc _ => rowTells_lifted os started H enc)
theorem rowTells_card : Rows.RowTellsCardSaid :=
  Claim7.holds_tied_plain_at .later [] [.data, .pinned] true (true, "e7d7dd7a75272886e74ddfd5dceb53db0c7aae421901c4e4115758f38ea00999") false
    rowTells_holds (fun _ h => by cases h) (by kernel_rfl) (fun _ h => by cases h) rowTells_row_tie rfl ⟨rfl, rfl⟩ (by kernel_rfl) rfl
    (fun f fn hf hfn => by
      obtain rfl : f = 7 := Option.some.inj ((show Tryz.prog.funcNamed Rows.rowTellsRow.func = some 7 by kernel_rfl).symm.trans hf) |>.symm
      obtain rfl : fn = Tryz.f7 := (Option.some.inj (Tryz.func7.symm.trans hfn)).symm
      exact ⟨by kernel_rfl, fun j t ht => by
        have hall : (Tryz.f7.params.toList.all fun u => !Tryz.prog.wantsStandIn u) = true := by kernel_rfl
        have hm : t ∈ Tryz.f7.params.toList := by simpa using Array.mem_of_getElem? ht
        exact (show Tryz.prog.wantsStandIn t = false by simpa using List.all_eq_true.1 hall t hm)⟩)
    (by kernel_rfl)
#print axioms rowTells_card
end Go.Proofs.YtjgkladblmdanaaGreatDoor
end
