/-
  Of a polynomial of degree three at most the cubic is that polynomial: the card of the law SpanPolys.
  Conditions: none beyond those that the theorems state. (Part 8: EtSpanPolys.)
-/
import Derived.Test.YtefdnbbfkhkjeaaGreatDoorPart7

set_option linter.unusedSectionVars false
set_option linter.unusedVariables false
set_option linter.unusedSimpArgs false
set_option linter.unnecessarySimpa false

section
namespace Go.Proofs.YtefdnbbfkhkjeaaGreatDoor
open Go Go.Ab Go.ChangeShapes Go.WideShapes Go.ChangeAt Go.RowKit
theorem spanPolys_all (xs : List AV) (h : OkArgs [(false, .sl tyF), (true, repTy 3 tyF)] xs) : PCall Tryz.prog 7 xs (· = .b true) := by
  obtain ⟨x, l0, rfl, hx, y, l1, rfl, hy, rfl⟩ := h
  obtain ⟨ax, ex⟩ := row_arg hx
  obtain ⟨ay, by_, cy, ey⟩ := arr3_arg hy
  exact pcall_part (u := 315) (af := row315) tab_all lTab_part Tryz.mixed (by kernel_rfl) rfl (law41_polys (T := tab) ax ay by_ cy) (by simp [ex, ey])
set_option maxRecDepth 100000 in
theorem spanPolys_lifted (os : Os) (started : os.Started) (H : Type) (enc : TypeId × Value → H) :
    ReturnsInHanded {} Tryz.checked os 7 .any (fun w args => (Rows.spanPolysSpec.pre enc Tryz.prog Tryz.f7 [] false w args ∧ laidMetH Tryz.prog laid2 w) ∧ sizedMet enc Tryz.prog Tryz.f7 (OpenSpec.ofChange Rows.spanPolysSpec) false w args)
      (Rows.spanPolysSpec.post enc Tryz.prog Tryz.f7 false true false false) := by
  refine returnsInHanded_of_change_and (C := Tryz.checked) (X := fun w _ => laidMetH Tryz.prog laid2 w) (fun _ _ _ hh h => h.of_heap hh) Tryz.own started (by kernel_rfl) Tryz.func7
    (ChangeSpec.witness_shaped (enc := enc) (C := Tryz.checked) (os := os) (X := fun w _ => laidMetH Tryz.prog laid2 w) false (laidWorld os) #[.slice none 0 0, .agg #[.bool false, .slice none 0 0, .slice none 0 0, .bool false, .slice none 0 0, .slice none 0 0, .bool false, .slice none 0 0, .slice none 0 0]] 8 rfl (laid_shaped os) (by kernel_rfl) (by kernel_rfl) (by kernel_rfl) (laid_met os _)) ?_
  intro W base args ds gs before hval hW _ _ hL _
  exact law_step (P := Tryz.prog) (m := 8) (tb := 4) (tys := [(false, .sl tyF), (true, repTy 3 tyF)]) rfl (by kernel_rfl) Tryz.laidOut (by kernel_rfl) (by kernel_rfl) Tryz.underlying4
    (fun ds hd => by
      match ds, hd with
      | [d0, d1], _ => rfl) spanPolys_all hval hW
theorem spanPolys_inPlace : Tryz.prog.inPlace 7 = Rows.spanPolysRow.inPlace := by kernel_rfl
theorem spanPolys_unfollowed : Tryz.prog.unfollowed 7 = Rows.spanPolysRow.unfollowed := by kernel_rfl
theorem spanPolys_recurses : Tryz.prog.recurses 7 = Rows.spanPolysRow.recurses := by kernel_rfl
theorem spanPolys_named : Tryz.prog.varsNamed 7 = Rows.spanPolysRow.named := by kernel_rfl
theorem spanPolys_facts : joinedFacts Tryz.prog 7 Tryz.f7 Rows.spanPolysSpec Rows.spanPolysRow = true := by
  unfold joinedFacts
  rw [Tryz.laidOut, Tryz.rowed, Tryz.heard, Tryz.enters, Tryz.keys, Tryz.lifts, Tryz.makes, spanPolys_inPlace, spanPolys_unfollowed, spanPolys_recurses, spanPolys_named]
  kernel_rfl
theorem spanPolys_holds : Rows.SpanPolysSaid :=
  OpenClaim.holds_of_wide 7 Tryz.f7 rfl rfl rfl rfl rfl rfl rfl ⟨rfl, rfl, rfl, rfl, rfl⟩ rfl rfl rfl rfl rfl (by kernel_rfl) Tryz.func7 spanPolys_facts
    (of_decide_eq_true (by kernel_rfl)) (by unfold Func.isWrapper; first | (rw [if_pos (by decide +kernel)]; kernel_rfl) | (rw [if_neg (by decide +kernel)]; exact ⟨rfl, rfl⟩))
    (fun os started H enc _ => spanPolys_lifted os started H enc)
theorem spanPolys_card : Rows.SpanPolysCardSaid :=
  Claim7.holds_tied_plain_at .later [] [.data, .pinned] true (true, "526c3608b1bf4594dab855b5ea5ed6334915c442bf458cdbca8cfed422c7bfc4") false
    spanPolys_holds (fun _ h => by cases h) (by kernel_rfl) (fun _ h => by cases h) spanPolys_row_tie rfl ⟨rfl, rfl⟩ (by kernel_rfl) rfl
    (fun f fn hf hfn => by
      obtain rfl : f = 7 := Option.some.inj ((show Tryz.prog.funcNamed Rows.spanPolysRow.func = some 7 by kernel_rfl).symm.trans hf) |>.symm
      obtain rfl : fn = Tryz.f7 := (Option.some.inj (Tryz.func7.symm.trans hfn)).symm
      exact ⟨by kernel_rfl, fun j t ht => by
        have hall : (Tryz.f7.params.toList.all fun u => !Tryz.prog.wantsStandIn u) = true := by kernel_rfl
        have hm : t ∈ Tryz.f7.params.toList := by simpa using Array.mem_of_getElem? ht
        exact (show Tryz.prog.wantsStandIn t = false by simpa using List.all_eq_true.1 hall t hm)⟩)
    (by kernel_rfl)
#print axioms spanPolys_card
end Go.Proofs.YtefdnbbfkhkjeaaGreatDoor
end
