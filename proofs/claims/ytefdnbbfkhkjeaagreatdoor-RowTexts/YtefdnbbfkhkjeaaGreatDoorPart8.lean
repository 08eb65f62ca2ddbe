/-
  Any row as a text, and the row that any bytes are, or what is wrong with them first, and where, are as the document has them.
  Conditions: none beyond those that the theorems state. (Part 8: EtRowTexts.)
-/
import Derived.Test.YtefdnbbfkhkjeaaGreatDoorPart7

set_option linter.unusedSectionVars false
set_option linter.unusedVariables false
set_option linter.unusedSimpArgs false
set_option linter.unnecessarySimpa false

section
namespace Go.Proofs.YtefdnbbfkhkjeaaGreatDoor
open Go Go.Ab Go.ChangeShapes Go.WideShapes Go.ChangeAt Go.RowKit
theorem rowTexts_all (xs : List AV) (h : OkArgs [(false, .sl tyF), (false, .str)] xs) : PCall Tryz.prog 13 xs (· = .b true) := by
  obtain ⟨x, l0, rfl, hx, y, l1, rfl, hy, rfl⟩ := h
  obtain ⟨ax, ex⟩ := row_arg hx
  obtain ⟨ay, rfl, by_⟩ := str_arg hy
  exact pcall_part (u := 321) (af := row321) tab_all lTab_part Tryz.mixed (by kernel_rfl) rfl (law11_texts (T := tab) ax ay) (by simp [ex, wkA])
set_option maxRecDepth 100000 in
theorem rowTexts_lifted (os : Os) (started : os.Started) (H : Type) (enc : TypeId × Value → H) :
    ReturnsInHanded {} Tryz.checked os 13 .any (fun w args => (Rows.rowTextsSpec.pre enc Tryz.prog Tryz.f13 [] false w args ∧ laidMetH Tryz.prog laid2 w) ∧ sizedMet enc Tryz.prog Tryz.f13 (OpenSpec.ofChange Rows.rowTextsSpec) false w args)
      (Rows.rowTextsSpec.post enc Tryz.prog Tryz.f13 false true false false) := by
  refine returnsInHanded_of_change_and (C := Tryz.checked) (X := fun w _ => laidMetH Tryz.prog laid2 w) (fun _ _ _ hh h => h.of_heap hh) Tryz.own started (by kernel_rfl) Tryz.func13
    (ChangeSpec.witness_shaped (enc := enc) (C := Tryz.checked) (os := os) (X := fun w _ => laidMetH Tryz.prog laid2 w) false (laidWorld os) #[.slice none 0 0, .string ⟨#[]⟩] 8 rfl (laid_shaped os) (by kernel_rfl) (by kernel_rfl) (by kernel_rfl) (laid_met os _)) ?_
  intro W base args ds gs before hval hW _ _ hL _
  exact law_step (P := Tryz.prog) (m := 8) (tb := 4) (tys := [(false, .sl tyF), (false, .str)]) rfl (by kernel_rfl) Tryz.laidOut (by kernel_rfl) (by kernel_rfl) Tryz.underlying4
    (fun ds hd => by
      match ds, hd with
      | [d0, d1], _ => rfl) rowTexts_all hval hW
theorem rowTexts_inPlace : Tryz.prog.inPlace 13 = Rows.rowTextsRow.inPlace := by kernel_rfl
theorem rowTexts_unfollowed : Tryz.prog.unfollowed 13 = Rows.rowTextsRow.unfollowed := by kernel_rfl
theorem rowTexts_recurses : Tryz.prog.recurses 13 = Rows.rowTextsRow.recurses := by kernel_rfl
theorem rowTexts_named : Tryz.prog.varsNamed 13 = Rows.rowTextsRow.named := by kernel_rfl
theorem rowTexts_facts : joinedFacts Tryz.prog 13 Tryz.f13 Rows.rowTextsSpec Rows.rowTextsRow = true := by
  unfold joinedFacts
  rw [Tryz.laidOut, Tryz.rowed, Tryz.heard, Tryz.enters, Tryz.keys, Tryz.lifts, Tryz.makes, rowTexts_inPlace, rowTexts_unfollowed, rowTexts_recurses, rowTexts_named]
  kernel_rfl
theorem rowTexts_holds : Rows.RowTextsSaid :=
  OpenClaim.holds_of_wide 13 Tryz.f13 rfl rfl rfl rfl rfl rfl rfl ⟨rfl, rfl, rfl, rfl, rfl⟩ rfl rfl rfl rfl rfl (by kernel_rfl) Tryz.func13 rowTexts_facts
    (of_decide_eq_true (by kernel_rfl)) (by unfold Func.isWrapper; first | (rw [if_pos (by decide +kernel)]; kernel_rfl) | (rw [if_neg (by decide +kernel)]; exact ⟨rfl, rfl⟩))
    (fun os started H enc _ => rowTexts_lifted os started H enc)
theorem rowTexts_card : Rows.RowTextsCardSaid :=
  Claim7.holds_tied_plain_at .later [] [.data, .pinned] true (true, "526c3608b1bf4594dab855b5ea5ed6334915c442bf458cdbca8cfed422c7bfc4") false
    rowTexts_holds (fun _ h => by cases h) (by kernel_rfl) (fun _ h => by cases h) rowTexts_row_tie rfl ⟨rfl, rfl⟩ (by kernel_rfl) rfl
    (fun f fn hf hfn => by
      obtain rfl : f = 13 := Option.some.inj ((show Tryz.prog.funcNamed Rows.rowTextsRow.func = some 13 by kernel_rfl).symm.trans hf) |>.symm
      obtain rfl : fn = Tryz.f13 := (Option.some.inj (Tryz.func13.symm.trans hfn)).symm
      exact ⟨by kernel_rfl, fun j t ht => by
        have hall : (Tryz.f13.params.toList.all fun u => !Tryz.prog.wantsStandIn u) = true := by kernel_rfl
        have hm : t ∈ Tryz.f13.params.toList := by simpa using Array.mem_of_getElem? ht
        exact (show Tryz.prog.wantsStandIn t = false by simpa using List.all_eq_true.1 hall t hm)⟩)
    (by kernel_rfl)
#print axioms rowTexts_card
end Go.Proofs.YtefdnbbfkhkjeaaGreatDoor
end
