/-
  The derivative of any expression by any unknown, or that there is none, and whether it is free of it, are as the document has them, for all arguments.
  Conditions: none beyond those that the theorems state. (Part 7: JdDiffWrites.)
-/
import Derived.Test.YtegcbhlfmmgmhaaDoorPart6

set_option linter.unusedSectionVars false
set_option linter.unusedVariables false
set_option linter.unusedSimpArgs false
set_option linter.unnecessarySimpa false

section
namespace Go.Proofs.YtegcbhlfmmgmhaaDoor
open Go Go.Ab Go.ChangeShapes Go.WideShapes Go.ChangeAt Go.RowKit
theorem diffWrites_all (xs : List AV) (h : OkArgs [(false, .sl tyN), (true, tyN)] xs) : PCall Tryd.prog 3 xs (· = .b true) := by
 obtain ⟨x, l0, rfl, hx, y, l1, rfl, hy, rfl⟩ := h
 obtain ⟨ax, ex⟩ := code_arg hx
 obtain ⟨ay, ey⟩ := node_arg hy
 exact pcall_part (u := 4) (af := row4) tab_all lTab_part Tryd.mixed (by kernel_rfl) rfl (law23_writes (T := tab) ax ay) (by simp [ex, ey])
set_option maxRecDepth 100000 in
theorem diffWrites_lifted (os : Os) (started : os.Started) (H : Type) (enc : TypeId × Value → H) :
  ReturnsInHanded {} Tryd.checked os 3 .any (fun w args => (Rows.diffWritesSpec.pre enc Tryd.prog Tryd.f3 [] false w args ∧ laidMetH Tryd.prog laid2 w) ∧ sizedMet enc Tryd.prog Tryd.f3 (OpenSpec.ofChange Rows.diffWritesSpec) false w args)
   (Rows.diffWritesSpec.post enc Tryd.prog Tryd.f3 false true false false) := by
 refine returnsInHanded_of_change_and (C := Tryd.checked) (X := fun w _ => laidMetH Tryd.prog laid2 w) (fun _ _ _ hh h => h.of_heap hh) Tryd.own started (by kernel_rfl) Tryd.func3
  (ChangeSpec.witness_shaped (enc := enc) (C := Tryd.checked) (os := os) (X := fun w _ => laidMetH Tryd.prog laid2 w) false (laidWorld os) #[.slice none 0 0, .agg #[.int .i64 0, .int .i64 0, .slice none 0 0]] 8 rfl (laid_shaped os) (by kernel_rfl) (by kernel_rfl) (by kernel_rfl) (laid_met os _)) ?_
 intro W base args ds gs before hval hW _ _ hL _
 exact law_step (P := Tryd.prog) (m := 8) (tb := 4) (tys := [(false, .sl tyN), (true, tyN)]) rfl (by kernel_rfl) Tryd.laidOut (by kernel_rfl) (by kernel_rfl) Tryd.underlying4
  (fun ds hd => by
   match ds, hd with
   | [d0, d1], _ => rfl) diffWrites_all hval hW
theorem diffWrites_inPlace : Tryd.prog.inPlace 3 = Rows.diffWritesRow.inPlace := by kernel_rfl
theorem diffWrites_unfollowed : Tryd.prog.unfollowed 3 = Rows.diffWritesRow.unfollowed := by kernel_rfl
theorem diffWrites_recurses : Tryd.prog.recurses 3 = Rows.diffWritesRow.recurses := by kernel_rfl
theorem diffWrites_named : Tryd.prog.varsNamed 3 = Rows.diffWritesRow.named := by kernel_rfl
theorem diffWrites_facts : joinedFacts Tryd.prog 3 Tryd.f3 Rows.diffWritesSpec Rows.diffWritesRow = true := by
 unfold joinedFacts
 rw [Tryd.laidOut, Tryd.rowed, Tryd.heard, Tryd.enters, Tryd.keys, Tryd.lifts, Tryd.makes, diffWrites_inPlace, diffWrites_unfollowed, diffWrites_recurses, diffWrites_named]
 kernel_rfl
theorem diffWrites_holds : Rows.DiffWritesSaid :=
 OpenClaim.holds_of_wide 3 Tryd.f3 rfl rfl rfl rfl rfl rfl rfl ⟨rfl, rfl, rfl, rfl, rfl⟩ rfl rfl rfl rfl rfl (by kernel_rfl) Tryd.func3 diffWrites_facts
  (of_decide_eq_true (by kernel_rfl)) (by unfold Func.isWrapper; first | (rw [if_pos (by decide +kernel)]; kernel_rfl) | (rw [if_neg (by decide +kernel)]; exact ⟨rfl, rfl⟩))
  (fun os started H enc _ => diffWrites_lifted os started H enc)
theorem diffWrites_card : Rows.DiffWritesCardSaid :=
 Claim7.holds_tied_plain_at .later [] [.data, .pinned] true (true, "3aab5666f39467eaed2b72d47553e2466a3e4e58e3b1f2852472263c81b223e9") false
  diffWrites_holds (fun _ h => by cases h) (by kernel_rfl) (fun _ h => by cases h) diffWrites_row_tie rfl ⟨rfl, rfl⟩ (by kernel_rfl) rfl
  (fun f fn hf hfn => by
   obtain rfl : f = 3 := Option.some.inj ((show Tryd.prog.funcNamed Rows.diffWritesRow.func = some 3 by kernel_rfl).symm.trans hf) |>.symm
   obtain rfl : fn = Tryd.f3 := (Option.some.inj (Tryd.func3.symm.trans hfn)).symm
   exact ⟨by kernel_rfl, fun j t ht => by
    have hall : (Tryd.f3.params.toList.all fun u => !Tryd.prog.wantsStandIn u) = true := by kernel_rfl
    have hm : t ∈ Tryd.f3.params.toList := by simpa using Array.mem_of_getElem? ht
    exact (show Tryd.prog.wantsStandIn t = false by simpa using List.all_eq_true.1 hall t hm)⟩)
  (by kernel_rfl)
#print axioms diffWrites_card
end Go.Proofs.YtegcbhlfmmgmhaaDoor
end
