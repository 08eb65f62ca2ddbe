/-
  WholeInts holds: the tied card's statement, proved of the given program for every input.
  Conditions: none beyond those that the theorems state. (Part 8: DtInts.)
-/
import Derived.Test.YtlohcgjleoibpaaDoorPart7

set_option linter.unusedSectionVars false
set_option linter.unusedVariables false
set_option linter.unusedSimpArgs false
set_option linter.unnecessarySimpa false

section
/-
  WholeInts: the given form.
-/
namespace Go.Proofs.YtlohcgjleoibpaaDoor
open Go Go.Ab Go.ChangeShapes Go.WideShapes Go.ChangeAt Go.RowKit

theorem wholeInts_all (xs : List AV) (h : OkArgs [(false, .int .i64), (false, .int .i64), (true, .cons .bool (.cons (.sl (.int .u32)) .nil))] xs) : PCall Tryd.prog 8 xs (· = .b true) := by
  obtain ⟨x, ys, rfl, ⟨i, hx, wi⟩, y, zs, rfl, ⟨j, hy, wj⟩, z, us, rfl, hz, rfl⟩ := h
  obtain ⟨n, a, ha⟩ := whole_arg hz
  cases hx
  cases hy
  have hi : -9223372036854775808 ≤ i ∧ i < 9223372036854775808 := by
    simp [Lit.wf, IntKind.min, IntKind.max, IntKind.signed, IntKind.bits] at wi
    omega
  have hj : -9223372036854775808 ≤ j ∧ j < 9223372036854775808 := by
    simp [Lit.wf, IntKind.min, IntKind.max, IntKind.signed, IntKind.bits] at wj
    omega
  exact pcall_wk (u := 9) (af := row9) tab_all Tryd.mixed (by kernel_rfl) rfl (law08_ints (T := tab) i j hi hj n a) (by simp [ha, wkA])

set_option maxRecDepth 100000 in
theorem wholeInts_lifted (os : Os) (started : os.Started) (H : Type) (enc : TypeId × Value → H) :
    ReturnsInHanded {} Tryd.checked os 8 .any (fun w args => (Rows.wholeIntsSpec.pre enc Tryd.prog Tryd.f8 [] false w args ∧ laidMetH Tryd.prog laid2 w) ∧ sizedMet enc Tryd.prog Tryd.f8 (OpenSpec.ofChange Rows.wholeIntsSpec) false w args)
      (Rows.wholeIntsSpec.post enc Tryd.prog Tryd.f8 false true false false) := by
  refine returnsInHanded_of_change_and (C := Tryd.checked) (X := fun w _ => laidMetH Tryd.prog laid2 w) (fun _ _ _ hh h => h.of_heap hh) Tryd.own started (by kernel_rfl) Tryd.func8
    (ChangeSpec.witness_shaped (enc := enc) (C := Tryd.checked) (os := os) (X := fun w _ => laidMetH Tryd.prog laid2 w) false (laidWorld os) #[.int .i64 0, .int .i64 0, .agg #[.bool false, .slice none 0 0]] 8 rfl (laid_shaped os) (by kernel_rfl) (by kernel_rfl) (by kernel_rfl) (laid_met os _)) ?_
  intro W base args ds gs before hval hW _ _ hL _
  exact law_step (P := Tryd.prog) (m := 6) (tb := 4) (tys := [(false, .int .i64), (false, .int .i64), (true, .cons .bool (.cons (.sl (.int .u32)) .nil))]) rfl (by kernel_rfl) Tryd.laidOut (by kernel_rfl) (by kernel_rfl) Tryd.underlying4
    (fun ds hd => by
      match ds, hd with
      | [d0, d1, d2], _ => rfl) wholeInts_all hval hW

theorem wholeInts_holds : Rows.WholeIntsSaid :=
  OpenClaim.holds_of_wide 8 Tryd.f8 rfl rfl rfl rfl rfl rfl rfl ⟨rfl, rfl, rfl, rfl, rfl⟩ rfl rfl rfl rfl rfl (by kernel_rfl) Tryd.func8 (by kernel_rfl)
    (of_decide_eq_true (by kernel_rfl)) (by unfold Func.isWrapper; first | (rw [if_pos (by decide +kernel)]; kernel_rfl) | (rw [if_neg (by decide +kernel)]; exact ⟨rfl, rfl⟩))
    (fun os started H enc _ => wholeInts_lifted os started H enc)

theorem wholeInts_card : Rows.WholeIntsCardSaid :=
  Claim7.holds_tied_plain_at .later [] [.data, .pinned] true (true, "d8b167b19495b2a810b2e1c30be28d9e63b794f295a1c55a878e097279f31f6d") false
    wholeInts_holds (fun _ h => by cases h) (by kernel_rfl) (fun _ h => by cases h) wholeInts_row_tie rfl ⟨rfl, rfl⟩ (by kernel_rfl) rfl
    (fun f fn hf hfn => by
      obtain rfl : f = 8 := Option.some.inj ((show Tryd.prog.funcNamed "retrospect/retrospectlaw08.WholeInts" = some 8 by kernel_rfl).symm.trans hf) |>.symm
      obtain rfl : fn = Tryd.f8 := (Option.some.inj (Tryd.func8.symm.trans hfn)).symm
      exact ⟨by kernel_rfl, fun j t ht => by
        have hall : (Tryd.f8.params.toList.all fun u => !Tryd.prog.wantsStandIn u) = true := by kernel_rfl
        have hm : t ∈ Tryd.f8.params.toList := by simpa using Array.mem_of_getElem? ht
        exact (show Tryd.prog.wantsStandIn t = false by simpa using List.all_eq_true.1 hall t hm)⟩)
    (by kernel_rfl)
#print axioms wholeInts_card
end Go.Proofs.YtlohcgjleoibpaaDoor
end
