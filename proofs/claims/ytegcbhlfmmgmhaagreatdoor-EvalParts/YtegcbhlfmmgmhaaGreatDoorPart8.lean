/-
  EvalParts holds of the given program for every input: the value of an expression is what its last operation makes of its operands' values; where one of these stops, it does.
  Conditions: none beyond those that the theorems state. (Part 8.)
-/
import Derived.Test.YtegcbhlfmmgmhaaGreatDoorPart7

set_option linter.unusedSectionVars false
set_option linter.unusedVariables false
set_option linter.unusedSimpArgs false
set_option linter.unnecessarySimpa false

section
namespace Go.Proofs.YtegcbhlfmmgmhaaGreatDoor
open Go Go.Ab Go.ChangeShapes Go.WideShapes Go.ChangeAt Go.RowKit
theorem evalParts_all (xs : List AV) (h : OkArgs [(false, .sl tyN), (true, tyP)] xs) : PCall Tryz.prog 7 xs (· = .b true) := by
 obtain ⟨x, l0, rfl, hx, y, l1, rfl, hy, rfl⟩ := h
 obtain ⟨ax, ex⟩ := code_arg hx
 obtain ⟨ay, ey⟩ := point_arg hy
 exact pcall_part (u := 461) (af := row461) tab_all lTab_part Tryz.mixed (by kernel_rfl) rfl (law21_parts (T := tab) ax ay) (by simp [ex, ey])
set_option maxRecDepth 100000 in
theorem evalParts_lifted (os : Os) (started : os.Started) (H : Type) (enc : TypeId × Value → H) :
  ReturnsInHanded {} Tryz.checked os 7 .any (fun w args => (Rows.evalPartsSpec.pre enc Tryz.prog Tryz.f7 [] false w args ∧ laidMetH Tryz.prog laid2 w) ∧ sizedMet enc Tryz.prog Tryz.f7 (OpenSpec.ofChange Rows.evalPartsSpec) false w args)
   (Rows.evalPartsSpec.post enc Tryz.prog Tryz.f7 false true false false) := by
 refine returnsInHanded_of_change_and (C := Tryz.checked) (X := fun w _ => laidMetH Tryz.prog laid2 w) (fun _ _ _ hh h => h.of_heap hh) Tryz.own started (by kernel_rfl) Tryz.func7
  (ChangeSpec.witness_shaped (enc := enc) (C := Tryz.checked) (os := os) (X := fun w _ => laidMetH Tryz.prog laid2 w) false (laidWorld os) #[.slice none 0 0, .agg #[.bool false, .slice none 0 0, .slice none 0 0, .slice none 0 0, .slice none 0 0]] 8 rfl (laid_shaped os) (by kernel_rfl) (by kernel_rfl) (by kernel_rfl) (laid_met os _)) ?_
 intro W base args ds gs before hval hW _ _ hL _
 exact law_step (P := Tryz.prog) (m := 8) (tb := 4) (tys := [(false, .sl tyN), (true, tyP)]) rfl (by kernel_rfl) Tryz.laidOut (by kernel_rfl) (by kernel_rfl) Tryz.underlying4
  (fun ds hd => by
   match ds, hd with
   | [d0, d1], _ => rfl) evalParts_all hval hW
theorem evalParts_inPlace : Tryz.prog.inPlace 7 = Rows.evalPartsRow.inPlace := by kernel_rfl
theorem evalParts_unfollowed : Tryz.prog.unfollowed 7 = Rows.evalPartsRow.unfollowed := by kernel_rfl
theorem evalParts_recurses : Tryz.prog.recurses 7 = Rows.evalPartsRow.recurses := by kernel_rfl
theorem evalParts_named : Tryz.prog.varsNamed 7 = Rows.evalPartsRow.named := by kernel_rfl
theorem evalParts_facts : joinedFacts Tryz.prog 7 Tryz.f7 Rows.evalPartsSpec Rows.evalPartsRow = true := by
 unfold joinedFacts
 rw [Tryz.laidOut, Tryz.rowed, Tryz.heard, Tryz.enters, Tryz.keys, Tryz.lifts, Tryz.makes, evalParts_inPlace, evalParts_unfollowed, evalParts_recurses, evalParts_named]
 kernel_rfl
theorem evalParts_holds : Rows.EvalPartsSaid :=
 OpenClaim.holds_of_wide 7 Tryz.f7 rfl rfl rfl rfl rfl rfl rfl ⟨rfl, rfl, rfl, rfl, rfl⟩ rfl rfl rfl rfl rfl (by kernel_rfl) Tryz.func7 evalParts_facts
  (of_decide_eq_true (by kernel_rfl)) (by unfold Func.isWrapper; first | (rw [if_pos (by decide +kernel)]; kernel_rfl) | (rw [if_neg (by decide +kernel)]; exact ⟨rfl, rfl⟩))
  (fun os started H enc _ => evalParts_lifted os started H enc)
theorem evalParts_card : Rows.EvalPartsCardSaid :=
 Claim7.holds_tied_plain_at .later [] [.data, .pinned] true (true, "7100dbdd37d42c621a2b9ddec582d95121f766f2065131ce6da5151ab13258e3") false
  evalParts_holds (fun _ h => by cases h) (by kernel_rfl) (fun _ h => by cases h) evalParts_row_tie rfl ⟨rfl, rfl⟩ (by kernel_rfl) rfl
  (fun f fn hf hfn => by
   obtain rfl : f = 7 := Option.some.inj ((show Tryz.prog.funcNamed Rows.evalPartsRow.func = some 7 by kernel_rfl).symm.trans hf) |>.symm
   obtain rfl : fn = Tryz.f7 := (Option.some.inj (Tryz.func7.symm.trans hfn)).symm
   exact ⟨by kernel_rfl, fun j t ht => by
    have hall : (Tryz.f7.params.toList.all fun u => !Tryz.prog.wantsStandIn u) = true := by kernel_rfl
    have hm : t ∈ Tryz.f7.params.toList := by simpa using Array.mem_of_getElem? ht
    exact (show Tryz.prog.wantsStandIn t = false by simpa using List.all_eq_true.1 hall t hm)⟩)
  (by kernel_rfl)
#print axioms evalParts_card
end Go.Proofs.YtegcbhlfmmgmhaaGreatDoor
end