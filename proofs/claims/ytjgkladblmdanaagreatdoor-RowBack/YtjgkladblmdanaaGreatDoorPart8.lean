/-
  What is written of any row is read as its values.
  Conditions: none beyond those that the theorems state. (Part 8: FtRowBack.)
-/
import Derived.Test.YtjgkladblmdanaaGreatDoorPart7

set_option linter.unusedSectionVars false
set_option linter.unusedVariables false
set_option linter.unusedSimpArgs false
set_option linter.unnecessarySimpa false

section
namespace Go.Proofs.YtjgkladblmdanaaGreatDoor
open Go Go.Ab Go.ChangeShapes Go.WideShapes Go.ChangeAt Go.RowKit
theorem rowBack_all (xs : List AV) (h : OkArgs [(false, .sl tyF)] xs) : PCall Tryz.prog 3 xs (· = .b true) := by
  obtain ⟨x, l0, rfl, hx, rfl⟩ := h
  obtain ⟨ax, ex⟩ := row_arg hx
  exact pcall_part (u := 366) (af := row366) tab_all lTab_part Tryz.mixed (by kernel_rfl) rfl (law11_back (T := tab) ax) (by simp [ex])
set_option maxRecDepth 100000 in
theorem rowBack_lifted (os : Os) (started : os.Started) (H : Type) (enc : TypeId × Value → H) :
    ReturnsInHanded {} Tryz.checked os 3 .any (fun w args => (Rows.rowBackSpec.pre enc Tryz.prog Tryz.f3 [] false w args ∧ laidMetH Tryz.prog laid2 w) ∧ sizedMet enc Tryz.prog Tryz.f3 (OpenSpec.ofChange Rows.rowBackSpec) false w args)
      (Rows.rowBackSpec.post enc Tryz.prog Tryz.f3 false true false false) := by
  refine returnsInHanded_of_change_and (C := Tryz.checked) (X := fun w _ => laidMetH Tryz.prog laid2 w) (fun _ _ _ hh h => h.of_heap hh) Tryz.own started (by kernel_rfl) Tryz.func3
    (ChangeSpec.witness_shaped (enc := enc) (C := Tryz.checked) (os := os) (X := fun w _ => laidMetH Tryz.prog laid2 w) false (laidWorld os) #[.slice none 0 0] 8 rfl (laid_shaped os) (by kernel_rfl) (by kernel_rfl) (by kernel_rfl) (laid_met os _)) ?_
  intro W base args ds gs before hval hW _ _ hL _
  exact law_step (P := Tryz.prog) (m := 8) (tb := 4) (tys := [(false, .sl tyF)]) rfl (by kernel_rfl) Tryz.laidOut (by kernel_rfl) (by kernel_rfl) Tryz.underlying4
    (fun ds hd => by
      match ds, hd with
      | [d0], _ => rfl) rowBack_all hval hW
theorem rowBack_inPlace : Tryz.prog.inPlace 3 = Rows.rowBackRow.inPlace := by kernel_rfl
theorem rowBack_unfollowed : Tryz.prog.unfollowed 3 = Rows.rowBackRow.unfollowed := by kernel_rfl
theorem rowBack_recurses : Tryz.prog.recurses 3 = Rows.rowBackRow.recurses := by kernel_rfl
theorem rowBack_named : Tryz.prog.varsNamed 3 = Rows.rowBackRow.named := by kernel_rfl
theorem rowBack_facts : joinedFacts Tryz.prog 3 Tryz.f3 Rows.rowBackSpec Rows.rowBackRow = true := by
  unfold joinedFacts
  rw [Tryz.laidOut, Tryz.rowed, Tryz.heard, Tryz.enters, Tryz.keys, Tryz.lifts, Tryz.makes, rowBack_inPlace, rowBack_unfollowed, rowBack_recurses, rowBack_named]
  kernel_rfl
theorem rowBack_holds : Rows.RowBackSaid :=
  OpenClaim.holds_of_wide 3 Tryz.f3 rfl rfl rfl rfl rfl rfl rfl ⟨rfl, rfl, rfl, rfl, rfl⟩ rfl rfl rfl rfl rfl (by kernel_rfl) Tryz.func3 rowBack_facts
    (of_decide_eq_true (by kernel_rfl)) (by unfold Func.isWrapper; first | (rw [if_pos (by decide +kernel)]; kernel_rfl) | (rw [if_neg (by decide +kernel)]; exact ⟨rfl, rfl⟩))
    (fun os started H enc _ => rowBack_lifted os started H enc)
theorem rowBack_card : Rows.RowBackCardSaid :=
  Claim7.holds_tied_plain_at .later [] [.data, .pinned] true (true, "e7d7dd7a75272886e74ddfd5dceb53db0c7aae421901c4e4115758f38ea00999") false
    rowBack_holds (fun _ h => by cases h) (by kernel_rfl) (fun _ h => by cases h) rowBack_row_tie rfl ⟨rfl, rfl⟩ (by kernel_rfl) rfl
    (fun f fn hf hfn => by
      obtain rfl : f = 3 := Option.some.inj ((show Tryz.prog.funcNamed Rows.rowBackRow.func = some 3 by kernel_rfl).symm.trans hf) |>.symm
      obtain rfl : fn = Tryz.f3 := (Option.some.inj (Tryz.func3.symm.trans hfn)).symm
      exact ⟨by kernel_rfl, fun j t ht => by
        have hall : (Tryz.f3.params.toList.all fun u => !Tryz.prog.wantsStandIn u) = true := by kernel_rfl
        have hm : t ∈ Tryz.f3.params.toList := by simpa using Array.mem_of_getElem? ht
        exact (show Tryz.prog.wantsStandIn t = false by simpa using List.all_eq_true.1 hall t hm)⟩)
    (by kernel_rfl)
#print axioms rowBack_card
end Go.Proofs.YtjgkladblmdanaaGreatDoor
end
