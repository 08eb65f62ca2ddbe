/-
  WholeTells holds: the tied card's statement, proved of the given program for every input.
  Conditions: none beyond those that the theorems state. (Part 8: DtTells.)
-/
import Derived.Test.YtlohcgjleoibpaaDoorPart7

set_option linter.unusedSectionVars false
set_option linter.unusedVariables false
set_option linter.unusedSimpArgs false
set_option linter.unnecessarySimpa false

section
/-
  WholeTells: the given form.
-/
namespace Go.Proofs.YtlohcgjleoibpaaDoor
open Go Go.Ab Go.ChangeShapes Go.WideShapes Go.ChangeAt Go.RowKit

theorem wholeTells_all (xs : List AV) (h : OkArgs [(true, .cons .bool (.cons (.sl (.int .u32)) .nil)), (true, .cons .bool (.cons (.sl (.int .u32)) .nil))] xs) : PCall Tryd.prog 7 xs (· = .b true) := by
  obtain ⟨x, ys, rfl, hx, y, zs, rfl, hy, rfl⟩ := h
  obtain ⟨n, a, ha⟩ := whole_arg hx
  obtain ⟨m, b, hb⟩ := whole_arg hy
  exact pcall_wk (u := 8) (af := row8) tab_all Tryd.mixed (by kernel_rfl) rfl (law08_tells (T := tab) n m a b) (by simp [ha, hb])

set_option maxRecDepth 100000 in
theorem wholeTells_lifted (os : Os) (started : os.Started) (H : Type) (enc : TypeId × Value → H) :
    ReturnsInHanded {} Tryd.checked os 7 .any (fun w args => (Rows.wholeTellsSpec.pre enc Tryd.prog Tryd.f7 [] false w args ∧ laidMetH Tryd.prog laid2 w) ∧ sizedMet enc Tryd.prog Tryd.f7 (OpenSpec.ofChange Rows.wholeTellsSpec) false w args)
      (Rows.wholeTellsSpec.post enc Tryd.prog Tryd.f7 false true false false) := by
  refine returnsInHanded_of_change_and (C := Tryd.checked) (X := fun w _ => laidMetH Tryd.prog laid2 w) (fun _ _ _ hh h => h.of_heap hh) Tryd.own started (by kernel_rfl) Tryd.func7
    (ChangeSpec.witness_shaped (enc := enc) (C := Tryd.checked) (os := os) (X := fun w _ => laidMetH Tryd.prog laid2 w) false (laidWorld os) #[.agg #[.bool false, .slice none 0 0], .agg #[.bool false, .slice none 0 0]] 8 rfl (laid_shaped os) (by kernel_rfl) (by kernel_rfl) (by kernel_rfl) (laid_met os _)) ?_
  intro W base args ds gs before hval hW _ _ hL _
  exact law_step (P := Tryd.prog) (m := 6) (tb := 4) (tys := [(true, .cons .bool (.cons (.sl (.int .u32)) .nil)), (true, .cons .bool (.cons (.sl (.int .u32)) .nil))]) rfl (by kernel_rfl) Tryd.laidOut (by kernel_rfl) (by kernel_rfl) Tryd.underlying4
    (fun ds hd => by
      match ds, hd with
      | [d0, d1], _ => rfl) wholeTells_all hval hW

theorem wholeTells_holds : Rows.WholeTellsSaid :=
  OpenClaim.holds_of_wide 7 Tryd.f7 rfl rfl rfl rfl rfl rfl rfl ⟨rfl, rfl, rfl, rfl, rfl⟩ rfl rfl rfl rfl rfl (by kernel_rfl) Tryd.func7 (by kernel_rfl)
    (of_decide_eq_true (by kernel_rfl)) (by unfold Func.isWrapper; first | (rw [if_pos (by decide +kernel)]; kernel_rfl) | (rw [if_neg (by decide +kernel)]; exact ⟨rfl, rfl⟩))
    (fun os started H enc _ => wholeTells_lifted os started H enc)

theorem wholeTells_card : Rows.WholeTellsCardSaid :=
  Claim7.holds_tied_plain_at .later [] [.data, .pinned] true (true, "d8b167b19495b2a810b2e1c30be28d9e63b794f295a1c55a878e097279f31f6d") false
    wholeTells_holds (fun _ h => by cases h) (by kernel_rfl) (fun _ h => by cases h) wholeTells_row_tie rfl ⟨rfl, rfl⟩ (by kernel_rfl) rfl
    (fun f fn hf hfn => by
      obtain rfl : f = 7 := Option.some.inj ((show Tryd.prog.funcNamed "retrospect/retrospectlaw08.WholeTells" = some 7 by kernel_rfl).symm.trans hf) |>.symm
      obtain rfl : fn = Tryd.f7 := (Option.some.inj (Tryd.func7.symm.trans hfn)).symm
      exact ⟨by kernel_rfl, fun j t ht => by
        have hall : (Tryd.f7.params.toList.all fun u => !Tryd.prog.wantsStandIn u) = true := by kernel_rfl
        have hm : t ∈ Tryd.f7.params.toList := by simpa using Array.mem_of_getElem? ht
        exact (show Tryd.prog.wantsStandIn t = false by simpa using List.all_eq_true.1 hall t hm)⟩)
    (by kernel_rfl)
#print axioms wholeTells_card
end Go.Proofs.YtlohcgjleoibpaaDoor
end
