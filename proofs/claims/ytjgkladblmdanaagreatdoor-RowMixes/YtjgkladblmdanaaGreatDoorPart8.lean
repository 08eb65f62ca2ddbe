/-
  The sum of any rows, each taken so many times, or that there is none, is as the document has it.
  Conditions: none beyond those that the theorems state. (Part 8: FtRowMixes.)
-/
import Derived.Test.YtjgkladblmdanaaGreatDoorPart7

set_option linter.unusedSectionVars false
set_option linter.unusedVariables false
set_option linter.unusedSimpArgs false
set_option linter.unnecessarySimpa false

section
namespace Go.Proofs.YtjgkladblmdanaaGreatDoor
open Go Go.Ab Go.ChangeShapes Go.WideShapes Go.ChangeAt Go.RowKit
theorem rowMixes_all (xs : List AV) (h : OkArgs [(false, .sl tyF), (false, .sl (.sl tyF)), (false, .int .i64)] xs) : PCall Tryz.prog 5 xs (· = .b true) := by
  obtain ⟨x, l0, rfl, hx, y, l1, rfl, hy, z, l2, rfl, hz, rfl⟩ := h
  obtain ⟨ax, ex⟩ := row_arg hx
  obtain ⟨ay, ey⟩ := mat_arg hy
  obtain ⟨az, rfl, bz, cz⟩ := int_arg hz
  exact pcall_part (u := 368) (af := row368) tab_all lTab_part Tryz.mixed (by kernel_rfl) rfl (law11_mixes (T := tab) ax ay az bz cz) (by simp [ex, ey, wkA])
set_option maxRecDepth 100000 in
theorem rowMixes_lifted (os : Os) (started : os.Started) (H : Type) (enc : TypeId × Value → H) :
    ReturnsInHanded {} Tryz.checked os 5 .any (fun w args => (Rows.rowMixesSpec.pre enc Tryz.prog Tryz.f5 [] false w args ∧ laidMetH Tryz.prog laid2 w) ∧ sizedMet enc Tryz.prog Tryz.f5 (OpenSpec.ofChange Rows.rowMixesSpec) false w args)
      (Rows.rowMixesSpec.post enc Tryz.prog Tryz.f5 false true false false) := by
  refine returnsInHanded_of_change_and (C := Tryz.checked) (X := fun w _ => laidMetH Tryz.prog laid2 w) (fun _ _ _ hh h => h.of_heap hh) Tryz.own started (by kernel_rfl) Tryz.func5
    (ChangeSpec.witness_shaped (enc := enc) (C := Tryz.checked) (os := os) (X := fun w _ => laidMetH Tryz.prog laid2 w) false (laidWorld os) #[.slice none 0 0, .slice none 0 0, .int .i64 0] 8 rfl (laid_shaped os) (by kernel_rfl) (by kernel_rfl) (by kernel_rfl) (laid_met os _)) ?_
  intro W base args ds gs before hval hW _ _ hL _
  exact law_step (P := Tryz.prog) (m := 8) (tb := 4) (tys := [(false, .sl tyF), (false, .sl (.sl tyF)), (false, .int .i64)]) rfl (by kernel_rfl) Tryz.laidOut (by kernel_rfl) (by kernel_rfl) Tryz.underlying4
    (fun ds hd => by
      match ds, hd with
      | [d0, d1, d2], _ => rfl) rowMixes_all hval hW
theorem rowMixes_inPlace : Tryz.prog.inPlace 5 = Rows.rowMixesRow.inPlace := by kernel_rfl
theorem rowMixes_unfollowed : Tryz.prog.unfollowed 5 = Rows.rowMixesRow.unfollowed := by kernel_rfl
theorem rowMixes_recurses : Tryz.prog.recurses 5 = Rows.rowMixesRow.recurses := by kernel_rfl
theorem rowMixes_named : Tryz.prog.varsNamed 5 = Rows.rowMixesRow.named := by kernel_rfl
theorem rowMixes_facts : joinedFacts Tryz.prog 5 Tryz.f5 Rows.rowMixesSpec Rows.rowMixesRow = true := by
  unfold joinedFacts
  rw [Tryz.laidOut, Tryz.rowed, Tryz.heard, Tryz.enters, Tryz.keys, Tryz.lifts, Tryz.makes, rowMixes_inPlace, rowMixes_unfollowed, rowMixes_recurses, rowMixes_named]
  kernel_rfl
theorem rowMixes_holds : Rows.RowMixesSaid :=
  OpenClaim.holds_of_wide 5 Tryz.f5 rfl rfl rfl rfl rfl rfl rfl ⟨rfl, rfl, rfl, rfl, rfl⟩ rfl rfl rfl rfl rfl (by kernel_rfl) Tryz.func5 rowMixes_facts
    (of_decide_eq_true (by kernel_rfl)) (by unfold Func.isWrapper; first | (rw [if_pos (by decide +kernel)]; kernel_rfl) | (rw [if_neg (by decide +kernel)]; exact ⟨rfl, rfl⟩))
    (fun os started H enc _ => rowMixes_lifted os started H enc)
theorem rowMixes_card : Rows.RowMixesCardSaid :=
  Claim7.holds_tied_plain_at .later [] [.data, .pinned] true (true, "e7d7dd7a75272886e74ddfd5dceb53db0c7aae421901c4e4115758f38ea00999") false
    rowMixes_holds (fun _ h => by cases h) (by kernel_rfl) (fun _ h => by cases h) rowMixes_row_tie rfl ⟨rfl, rfl⟩ (by kernel_rfl) rfl
    (fun f fn hf hfn => by
      obtain rfl : f = 5 := Option.some.inj ((show Tryz.prog.funcNamed Rows.rowMixesRow.func = some 5 by kernel_rfl).symm.trans hf) |>.symm
      obtain rfl : fn = Tryz.f5 := (Option.some.inj (Tryz.func5.symm.trans hfn)).symm
      exact ⟨by kernel_rfl, fun j t ht => by
        have hall : (Tryz.f5.params.toList.all fun u => !Tryz.prog.wantsStandIn u) = true := by kernel_rfl
        have hm : t ∈ Tryz.f5.params.toList := by simpa using Array.mem_of_getElem? ht
        exact (show Tryz.prog.wantsStandIn t = false by simpa using List.all_eq_true.1 hall t hm)⟩)
    (by kernel_rfl)
#print axioms rowMixes_card
end Go.Proofs.YtjgkladblmdanaaGreatDoor
end
