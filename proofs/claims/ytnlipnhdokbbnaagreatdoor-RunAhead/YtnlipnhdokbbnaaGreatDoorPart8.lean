/-
  Cutting a tape behind its first instructions changes nothing about the results of these instructions: they come out alike, or the same thing stops them at the same place.
  Conditions: none beyond those that the theorems state. (Part 8: HxRunAhead.)
-/
import Derived.Test.YtnlipnhdokbbnaaGreatDoorPart7

set_option linter.unusedSectionVars false
set_option linter.unusedVariables false
set_option linter.unusedSimpArgs false
set_option linter.unnecessarySimpa false

section
namespace Go.Proofs.YtnlipnhdokbbnaaGreatDoor
open Go Go.Ab Go.ChangeShapes Go.WideShapes Go.ChangeAt Go.RowKit
theorem runAhead_all (xs : List AV) (h : OkArgs [(true, tyT), (true, tyP), (false, .int .i64)] xs) : PCall Tryz.prog 3 xs (· = .b true) := by
 obtain ⟨x, l0, rfl, hx, y, l1, rfl, hy, z, l2, rfl, hz, rfl⟩ := h
 obtain ⟨ax, ex, bx_, cx⟩ := tape_arg hx
 obtain ⟨ay, ey⟩ := point_arg hy
 obtain ⟨az, rfl, bz_, cz⟩ := int_arg hz
 exact pcall_part (u := 372) (af := row372) tab_all lTab_part Tryz.mixed (by kernel_rfl) rfl (law26_ahead (T := tab) ax ay az bx_ cx) (by simp [ex, ey, wkA])
set_option maxRecDepth 100000 in
theorem runAhead_lifted (os : Os) (started : os.Started) (H : Type) (enc : TypeId × Value → H) :
  ReturnsInHanded {} Tryz.checked os 3 .any (fun w args => (Rows.runAheadSpec.pre enc Tryz.prog Tryz.f3 [] false w args ∧ laidMetH Tryz.prog laid2 w) ∧ sizedMet enc Tryz.prog Tryz.f3 (OpenSpec.ofChange Rows.runAheadSpec) false w args)
   (Rows.runAheadSpec.post enc Tryz.prog Tryz.f3 false true false false) := by
 refine returnsInHanded_of_change_and (C := Tryz.checked) (X := fun w _ => laidMetH Tryz.prog laid2 w) (fun _ _ _ hh h => h.of_heap hh) Tryz.own started (by kernel_rfl) Tryz.func3
  (ChangeSpec.witness_shaped (enc := enc) (C := Tryz.checked) (os := os) (X := fun w _ => laidMetH Tryz.prog laid2 w) false (laidWorld os) #[.agg #[.slice none 0 0, .slice none 0 0, .int .i64 0, .int .i64 0], .agg #[.bool false, .slice none 0 0, .slice none 0 0, .slice none 0 0, .slice none 0 0], .int .i64 0] 8 rfl (laid_shaped os) (by kernel_rfl) (by kernel_rfl) (by kernel_rfl) (laid_met os _)) ?_
 intro W base args ds gs before hval hW _ _ hL _
 exact law_step (P := Tryz.prog) (m := 8) (tb := 4) (tys := [(true, tyT), (true, tyP), (false, .int .i64)]) rfl (by kernel_rfl) Tryz.laidOut (by kernel_rfl) (by kernel_rfl) Tryz.underlying4
  (fun ds hd => by
   match ds, hd with
   | [d0, d1, d2], _ => rfl) runAhead_all hval hW
theorem runAhead_inPlace : Tryz.prog.inPlace 3 = Rows.runAheadRow.inPlace := by kernel_rfl
theorem runAhead_unfollowed : Tryz.prog.unfollowed 3 = Rows.runAheadRow.unfollowed := by kernel_rfl
theorem runAhead_recurses : Tryz.prog.recurses 3 = Rows.runAheadRow.recurses := by kernel_rfl
theorem runAhead_named : Tryz.prog.varsNamed 3 = Rows.runAheadRow.named := by kernel_rfl
theorem runAhead_facts : joinedFacts Tryz.prog 3 Tryz.f3 Rows.runAheadSpec Rows.runAheadRow = true := by
 unfold joinedFacts
 rw [Tryz.laidOut, Tryz.rowed, Tryz.heard, Tryz.enters, Tryz.keys, Tryz.lifts, Tryz.makes, runAhead_inPlace, runAhead_unfollowed, runAhead_recurses, runAhead_named]
 kernel_rfl
theorem runAhead_holds : Rows.RunAheadSaid :=
 OpenClaim.holds_of_wide 3 Tryz.f3 rfl rfl rfl rfl rfl rfl rfl ⟨rfl, rfl, rfl, rfl, rfl⟩ rfl rfl rfl rfl rfl (by kernel_rfl) Tryz.func3 runAhead_facts
  (of_decide_eq_true (by kernel_rfl)) (by unfold Func.isWrapper; first | (rw [if_pos (by decide +kernel)]; kernel_rfl) | (rw [if_neg (by decide +kernel)]; exact ⟨rfl, rfl⟩))
  (fun os started H enc _ => runAhead_lifted os started H enc)
theorem runAhead_card : Rows.RunAheadCardSaid :=
 Claim7.holds_tied_plain_at .later [] [.data, .pinned] true (true, "d0d71a8f0e09440b1d9c17d9d1574df98810d585347769659a34648b8d4d59f1") false
  runAhead_holds (fun _ h => by cases h) (by kernel_rfl) (fun _ h => by cases h) runAhead_row_tie rfl ⟨rfl, rfl⟩ (by kernel_rfl) rfl
  (fun f fn hf hfn => by
   obtain rfl : f = 3 := Option.some.inj ((show Tryz.prog.funcNamed Rows.runAheadRow.func = some 3 by kernel_rfl).symm.trans hf) |>.symm
   obtain rfl : fn = Tryz.f3 := (Option.some.inj (Tryz.func3.symm.trans hfn)).symm
   exact ⟨by kernel_rfl, fun j t ht => by
    have hall : (Tryz.f3.params.toList.all fun u => !Tryz.prog.wantsStandIn u) = true := by kernel_rfl
    have hm : t ∈ Tryz.f3.params.toList := by simpa using Array.mem_of_getElem? ht
    exact (show Tryz.prog.wantsStandIn t = false by simpa using List.all_eq_true.1 hall t hm)⟩)
  (by kernel_rfl)
#print axioms runAhead_card
end Go.Proofs.YtnlipnhdokbbnaaGreatDoor
end
