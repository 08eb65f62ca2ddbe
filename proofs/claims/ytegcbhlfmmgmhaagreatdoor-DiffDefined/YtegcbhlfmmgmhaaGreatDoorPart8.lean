/-
  Where an expression has a value, its derivatives have one, unless a number is too long; by an unknown that it is free of that is 0; the derivative of it, doubled, is twice the derivative; for all arguments.
  Conditions: none beyond those that the theorems state. (Part 8: JzDiffDefined.)
-/
import Derived.Test.YtegcbhlfmmgmhaaGreatDoorPart7

set_option linter.unusedSectionVars false
set_option linter.unusedVariables false
set_option linter.unusedSimpArgs false
set_option linter.unnecessarySimpa false

section
namespace Go.Proofs.YtegcbhlfmmgmhaaGreatDoor
open Go Go.Ab Go.ChangeShapes Go.WideShapes Go.ChangeAt Go.RowKit
theorem diffDefined_all (xs : List AV) (h : OkArgs [(false, .sl tyN), (true, tyN), (true, tyP)] xs) : PCall Tryz.prog 3 xs (· = .b true) := by
 obtain ⟨x, l0, rfl, hx, y, l1, rfl, hy, z, l2, rfl, hz, rfl⟩ := h
 obtain ⟨ax, ex⟩ := code_arg hx
 obtain ⟨ay, ey⟩ := node_arg hy
 obtain ⟨az, ez⟩ := point_arg hz
 exact pcall_part (u := 457) (af := row457) tab_all lTab_part Tryz.mixed (by kernel_rfl) rfl (law23_defined (T := tab) ax ay az) (by simp [ex, ey, ez])
set_option maxRecDepth 100000 in
theorem diffDefined_lifted (os : Os) (started : os.Started) (H : Type) (enc : TypeId × Value → H) :
  ReturnsInHanded {} Tryz.checked os 3 .any (fun w args => (Rows.diffDefinedSpec.pre enc Tryz.prog Tryz.f3 [] false w args ∧ laidMetH Tryz.prog laid2 w) ∧ sizedMet enc Tryz.prog Tryz.f3 (OpenSpec.ofChange Rows.diffDefinedSpec) false w args)
   (Rows.diffDefinedSpec.post enc Tryz.prog Tryz.f3 false true false false) := by
 refine returnsInHanded_of_change_and (C := Tryz.checked) (X := fun w _ => laidMetH Tryz.prog laid2 w) (fun _ _ _ hh h => h.of_heap hh) Tryz.own started (by kernel_rfl) Tryz.func3
  (ChangeSpec.witness_shaped (enc := enc) (C := Tryz.checked) (os := os) (X := fun w _ => laidMetH Tryz.prog laid2 w) false (laidWorld os) #[.slice none 0 0, .agg #[.int .i64 0, .int .i64 0, .slice none 0 0], .agg #[.bool false, .slice none 0 0, .slice none 0 0, .slice none 0 0, .slice none 0 0]] 8 rfl (laid_shaped os) (by kernel_rfl) (by kernel_rfl) (by kernel_rfl) (laid_met os _)) ?_
 intro W base args ds gs before hval hW _ _ hL _
 exact law_step (P := Tryz.prog) (m := 8) (tb := 4) (tys := [(false, .sl tyN), (true, tyN), (true, tyP)]) rfl (by kernel_rfl) Tryz.laidOut (by kernel_rfl) (by kernel_rfl) Tryz.underlying4
  (fun ds hd => by
   match ds, hd with
   | [d0, d1, d2], _ => rfl) diffDefined_all hval hW
theorem diffDefined_inPlace : Tryz.prog.inPlace 3 = Rows.diffDefinedRow.inPlace := by kernel_rfl
theorem diffDefined_unfollowed : Tryz.prog.unfollowed 3 = Rows.diffDefinedRow.unfollowed := by kernel_rfl
theorem diffDefined_recurses : Tryz.prog.recurses 3 = Rows.diffDefinedRow.recurses := by kernel_rfl
theorem diffDefined_named : Tryz.prog.varsNamed 3 = Rows.diffDefinedRow.named := by kernel_rfl
theorem diffDefined_facts : joinedFacts Tryz.prog 3 Tryz.f3 Rows.diffDefinedSpec Rows.diffDefinedRow = true := by
 unfold joinedFacts
 rw [Tryz.laidOut, Tryz.rowed, Tryz.heard, Tryz.enters, Tryz.keys, Tryz.lifts, Tryz.makes, diffDefined_inPlace, diffDefined_unfollowed, diffDefined_recurses, diffDefined_named]
 kernel_rfl
theorem diffDefined_holds : Rows.DiffDefinedSaid :=
 OpenClaim.holds_of_wide 3 Tryz.f3 rfl rfl rfl rfl rfl rfl rfl ⟨rfl, rfl, rfl, rfl, rfl⟩ rfl rfl rfl rfl rfl (by kernel_rfl) Tryz.func3 diffDefined_facts
  (of_decide_eq_true (by kernel_rfl)) (by unfold Func.isWrapper; first | (rw [if_pos (by decide +kernel)]; kernel_rfl) | (rw [if_neg (by decide +kernel)]; exact ⟨rfl, rfl⟩))
  (fun os started H enc _ => diffDefined_lifted os started H enc)
theorem diffDefined_card : Rows.DiffDefinedCardSaid :=
 Claim7.holds_tied_plain_at .later [] [.data, .pinned] true (true, "7100dbdd37d42c621a2b9ddec582d95121f766f2065131ce6da5151ab13258e3") false
  diffDefined_holds (fun _ h => by cases h) (by kernel_rfl) (fun _ h => by cases h) diffDefined_row_tie rfl ⟨rfl, rfl⟩ (by kernel_rfl) rfl
  (fun f fn hf hfn => by
   obtain rfl : f = 3 := Option.some.inj ((show Tryz.prog.funcNamed Rows.diffDefinedRow.func = some 3 by kernel_rfl).symm.trans hf) |>.symm
   obtain rfl : fn = Tryz.f3 := (Option.some.inj (Tryz.func3.symm.trans hfn)).symm
   exact ⟨by kernel_rfl, fun j t ht => by
    have hall : (Tryz.f3.params.toList.all fun u => !Tryz.prog.wantsStandIn u) = true := by kernel_rfl
    have hm : t ∈ Tryz.f3.params.toList := by simpa using Array.mem_of_getElem? ht
    exact (show Tryz.prog.wantsStandIn t = false by simpa using List.all_eq_true.1 hall t hm)⟩)
  (by kernel_rfl)
#print axioms diffDefined_card
end Go.Proofs.YtegcbhlfmmgmhaaGreatDoor
end
