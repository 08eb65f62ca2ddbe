/-
  Sum, difference, product with a fraction, and the sum of products of any rows, or that there is none, are as the document has them.
  Conditions: none beyond those that the theorems state. (Part 8: FtRowSums.)
-/
import Derived.Test.YtjgkladblmdanaaGreatDoorPart7

set_option linter.unusedSectionVars false
set_option linter.unusedVariables false
set_option linter.unusedSimpArgs false
set_option linter.unnecessarySimpa false

section
namespace Go.Proofs.YtjgkladblmdanaaGreatDoor
open Go Go.Ab Go.ChangeShapes Go.WideShapes Go.ChangeAt Go.RowKit
theorem rowSums_all (xs : List AV) (h : OkArgs [(false, .sl tyF), (false, .sl tyF), (true, tyF)] xs) : PCall Tryz.prog 4 xs (· = .b true) := by
  obtain ⟨x, l0, rfl, hx, y, l1, rfl, hy, z, l2, rfl, hz, rfl⟩ := h
  obtain ⟨ax, ex⟩ := row_arg hx
  obtain ⟨ay, ey⟩ := row_arg hy
  obtain ⟨az, ez⟩ := frac_arg hz
  exact pcall_part (u := 367) (af := row367) tab_all lTab_part Tryz.mixed (by kernel_rfl) rfl (law11_sums (T := tab) ax ay az) (by simp [ex, ey, ez])
set_option maxRecDepth 100000 in
theorem rowSums_lifted (os : Os) (started : os.Started) (H : Type) (enc : TypeId × Value → H) :
    ReturnsInHanded {} Tryz.checked os 4 .any (fun w args => (Rows.rowSumsSpec.pre enc Tryz.prog Tryz.f4 [] false w args ∧ laidMetH Tryz.prog laid2 w) ∧ sizedMet enc Tryz.prog Tryz.f4 (OpenSpec.ofChange Rows.rowSumsSpec) false w args)
      (Rows.rowSumsSpec.post enc Tryz.prog Tryz.f4 false true false false) := by
  refine returnsInHanded_of_change_and (C := Tryz.checked) (X := fun w _ => laidMetH Tryz.prog laid2 w) (fun _ _ _ hh h => h.of_heap hh) Tryz.own started (by kernel_rfl) Tryz.func4
    (ChangeSpec.witness_shaped (enc := enc) (C := Tryz.checked) (os := os) (X := fun w _ => laidMetH Tryz.prog laid2 w) false (laidWorld os) #[.slice none 0 0, .slice none 0 0, .agg #[.bool false, .slice none 0 0, .slice none 0 0]] 8 rfl (laid_shaped os) (by kernel_rfl) (by kernel_rfl) (by kernel_rfl) (laid_met os _)) ?_
  intro W base args ds gs before hval hW _ _ hL _
  exact law_step (P := Tryz.prog) (m := 8) (tb := 4) (tys := [(false, .sl tyF), (false, .sl tyF), (true, tyF)]) rfl (by kernel_rfl) Tryz.laidOut (by kernel_rfl) (by kernel_rfl) Tryz.underlying4
    (fun ds hd => by
      match ds, hd with
      | [d0, d1, d2], _ => rfl) rowSums_all hval hW
theorem rowSums_inPlace : Tryz.prog.inPlace 4 = Rows.rowSumsRow.inPlace := by kernel_rfl
theorem rowSums_unfollowed : Tryz.prog.unfollowed 4 = Rows.rowSumsRow.unfollowed := by kernel_rfl
theorem rowSums_recurses : Tryz.prog.recurses 4 = Rows.rowSumsRow.recurses := by kernel_rfl
theorem rowSums_named : Tryz.prog.varsNamed 4 = Rows.rowSumsRow.named := by kernel_rfl
theorem rowSums_facts : joinedFacts Tryz.prog 4 Tryz.f4 Rows.rowSumsSpec Rows.rowSumsRow = true := by
  unfold joinedFacts
  rw [Tryz.laidOut, Tryz.rowed, Tryz.heard, Tryz.enters, Tryz.keys, Tryz.lifts, Tryz.makes, rowSums_inPlace, rowSums_unfollowed, rowSums_recurses, rowSums_named]
  kernel_rfl
theorem rowSums_holds : Rows.RowSumsSaid :=
  OpenClaim.holds_of_wide 4 Tryz.f4 rfl rfl rfl rfl rfl rfl rfl ⟨rfl, rfl, rfl, rfl, rfl⟩ rfl rfl rfl rfl rfl (by kernel_rfl) Tryz.func4 rowSums_facts
    (of_decide_eq_true (by kernel_rfl)) (by unfold Func.isWrapper; first | (rw [if_pos (by decide +kernel)]; kernel_rfl) | (rw [if_neg (by decide +kernel)]; exact ⟨rfl, rfl⟩))
    (fun os started H enc _ => rowSums_lifted os started H enc)
theorem rowSums_card : Rows.RowSumsCardSaid :=
  Claim7.holds_tied_plain_at .later [] [.data, .pinned] true (true, "e7d7dd7a75272886e74ddfd5dceb53db0c7aae421901c4e4115758f38ea00999") false
    rowSums_holds (fun _ h => by cases h) (by kernel_rfl) (fun _ h => by cases h) rowSums_row_tie rfl ⟨rfl, rfl⟩ (by kernel_rfl) rfl
    (fun f fn hf hfn => by
      obtain rfl : f = 4 := Option.some.inj ((show Tryz.prog.funcNamed Rows.rowSumsRow.func = some 4 by kernel_rfl).symm.trans hf) |>.symm
      obtain rfl : fn = Tryz.f4 := (Option.some.inj (Tryz.func4.symm.trans hfn)).symm
      exact ⟨by kernel_rfl, fun j t ht => by
        have hall : (Tryz.f4.params.toList.all fun u => !Tryz.prog.wantsStandIn u) = true := by kernel_rfl
        have hm : t ∈ Tryz.f4.params.toList := by simpa using Array.mem_of_getElem? ht
        exact (show Tryz.prog.wantsStandIn t = false by simpa using List.all_eq_true.1 hall t hm)⟩)
    (by kernel_rfl)
#print axioms rowSums_card
end Go.Proofs.YtjgkladblmdanaaGreatDoor
end
