/-
  EvalLimits holds of the given program for every input: where a field has values under a limit, it has the same under a greater one; where it has a pole, the same.
  Conditions: none beyond those that the theorems state. (Part 8.)
-/
import Derived.Test.YtegcbhlfmmgmhaaGreatDoorPart7

set_option linter.unusedSectionVars false
set_option linter.unusedVariables false
set_option linter.unusedSimpArgs false
set_option linter.unnecessarySimpa false

section
namespace Go.Proofs.YtegcbhlfmmgmhaaGreatDoor
open Go Go.Ab Go.ChangeShapes Go.WideShapes Go.ChangeAt Go.RowKit
theorem evalLimits_all (xs : List AV) (h : OkArgs [(true, tyD), (true, tyP), (true, repTy 2 (.int .i64))] xs) : PCall Tryz.prog 6 xs (· = .b true) := by
 obtain ⟨x, l0, rfl, hx, y, l1, rfl, hy, z, l2, rfl, hz, rfl⟩ := h
 obtain ⟨ax, ex⟩ := field_arg hx
 obtain ⟨ay, ey⟩ := point_arg hy
 obtain ⟨az, bz_, rfl, cz, dz⟩ := arr2_arg hz
 exact pcall_part (u := 460) (af := row460) tab_all lTab_part Tryz.mixed (by kernel_rfl) rfl (law21_limits (T := tab) ax ay az bz_) (by simp [ex, ey, wkA, wkR])
set_option maxRecDepth 100000 in
theorem evalLimits_lifted (os : Os) (started : os.Started) (H : Type) (enc : TypeId × Value → H) :
  ReturnsInHanded {} Tryz.checked os 6 .any (fun w args => (Rows.evalLimitsSpec.pre enc Tryz.prog Tryz.f6 [] false w args ∧ laidMetH Tryz.prog laid2 w) ∧ sizedMet enc Tryz.prog Tryz.f6 (OpenSpec.ofChange Rows.evalLimitsSpec) false w args)
   (Rows.evalLimitsSpec.post enc Tryz.prog Tryz.f6 false true false false) := by
 refine returnsInHanded_of_change_and (C := Tryz.checked) (X := fun w _ => laidMetH Tryz.prog laid2 w) (fun _ _ _ hh h => h.of_heap hh) Tryz.own started (by kernel_rfl) Tryz.func6
  (ChangeSpec.witness_shaped (enc := enc) (C := Tryz.checked) (os := os) (X := fun w _ => laidMetH Tryz.prog laid2 w) false (laidWorld os) #[.agg #[.slice none 0 0, .slice none 0 0], .agg #[.bool false, .slice none 0 0, .slice none 0 0, .slice none 0 0, .slice none 0 0], .agg #[.int .i64 0, .int .i64 0]] 8 rfl (laid_shaped os) (by kernel_rfl) (by kernel_rfl) (by kernel_rfl) (laid_met os _)) ?_
 intro W base args ds gs before hval hW _ _ hL _
 exact law_step (P := Tryz.prog) (m := 8) (tb := 4) (tys := [(true, tyD), (true, tyP), (true, repTy 2 (.int .i64))]) rfl (by kernel_rfl) Tryz.laidOut (by kernel_rfl) (by kernel_rfl) Tryz.underlying4
  (fun ds hd => by
   match ds, hd with
   | [d0, d1, d2], _ => rfl) evalLimits_all hval hW
theorem evalLimits_inPlace : Tryz.prog.inPlace 6 = Rows.evalLimitsRow.inPlace := by kernel_rfl
theorem evalLimits_unfollowed : Tryz.prog.unfollowed 6 = Rows.evalLimitsRow.unfollowed := by kernel_rfl
theorem evalLimits_recurses : Tryz.prog.recurses 6 = Rows.evalLimitsRow.recurses := by kernel_rfl
theorem evalLimits_named : Tryz.prog.varsNamed 6 = Rows.evalLimitsRow.named := by kernel_rfl
theorem evalLimits_facts : joinedFacts Tryz.prog 6 Tryz.f6 Rows.evalLimitsSpec Rows.evalLimitsRow = true := by
 unfold joinedFacts
 rw [Tryz.laidOut, Tryz.rowed, Tryz.heard, Tryz.enters, Tryz.keys, Tryz.lifts, Tryz.makes, evalLimits_inPlace, evalLimits_unfollowed, evalLimits_recurses, evalLimits_named]
 kernel_rfl
theorem evalLimits_holds : Rows.EvalLimitsSaid :=
 OpenClaim.holds_of_wide 6 Tryz.f6 rfl rfl rfl rfl rfl rfl rfl ⟨rfl, rfl, rfl, rfl, rfl⟩ rfl rfl rfl rfl rfl (by kernel_rfl) Tryz.func6 evalLimits_facts
  (of_decide_eq_true (by kernel_rfl)) (by unfold Func.isWrapper; first | (rw [if_pos (by decide +kernel)]; kernel_rfl) | (rw [if_neg (by decide +kernel)]; exact ⟨rfl, rfl⟩))
  (fun os started H enc _ => evalLimits_lifted os started H enc)
theorem evalLimits_card : Rows.EvalLimitsCardSaid :=
 Claim7.holds_tied_plain_at .later [] [.data, .pinned] true (true, "7100dbdd37d42c621a2b9ddec582d95121f766f2065131ce6da5151ab13258e3") false
  evalLimits_holds (fun _ h => by cases h) (by kernel_rfl) (fun _ h => by cases h) evalLimits_row_tie rfl ⟨rfl, rfl⟩ (by kernel_rfl) rfl
  (fun f fn hf hfn => by
   obtain rfl : f = 6 := Option.some.inj ((show Tryz.prog.funcNamed Rows.evalLimitsRow.func = some 6 by kernel_rfl).symm.trans hf) |>.symm
   obtain rfl : fn = Tryz.f6 := (Option.some.inj (Tryz.func6.symm.trans hfn)).symm
   exact ⟨by kernel_rfl, fun j t ht => by
    have hall : (Tryz.f6.params.toList.all fun u => !Tryz.prog.wantsStandIn u) = true := by kernel_rfl
    have hm : t ∈ Tryz.f6.params.toList := by simpa using Array.mem_of_getElem? ht
    exact (show Tryz.prog.wantsStandIn t = false by simpa using List.all_eq_true.1 hall t hm)⟩)
  (by kernel_rfl)
#print axioms evalLimits_card
end Go.Proofs.YtegcbhlfmmgmhaaGreatDoor
end