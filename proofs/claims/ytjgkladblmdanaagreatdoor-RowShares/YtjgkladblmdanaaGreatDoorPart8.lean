/-
  The sum of products is shared out over a sum of rows, a factor goes in and out of it, and the norm of a sum is at most the sum of the norms.
  Conditions: none beyond those that the theorems state. (Part 8: FtRowShares.)
-/
import Derived.Test.YtjgkladblmdanaaGreatDoorPart7

set_option linter.unusedSectionVars false
set_option linter.unusedVariables false
set_option linter.unusedSimpArgs false
set_option linter.unnecessarySimpa false

section
namespace Go.Proofs.YtjgkladblmdanaaGreatDoor
open Go Go.Ab Go.ChangeShapes Go.WideShapes Go.ChangeAt Go.RowKit
theorem rowShares_all (xs : List AV) (h : OkArgs [(false, .sl tyF), (false, .sl tyF), (true, tyF)] xs) : PCall Tryz.prog 6 xs (· = .b true) := by
  obtain ⟨x, l0, rfl, hx, y, l1, rfl, hy, z, l2, rfl, hz, rfl⟩ := h
  obtain ⟨ax, ex⟩ := row_arg hx
  obtain ⟨ay, ey⟩ := row_arg hy
  obtain ⟨az, ez⟩ := frac_arg hz
  exact pcall_part (u := 369) (af := row369) tab_all lTab_part Tryz.mixed (by kernel_rfl) rfl (law11_shares (T := tab) ax ay az) (by simp [ex, ey, ez])
set_option maxRecDepth 100000 in
theorem rowShares_lifted (os : Os) (started : os.Started) (H : Type) (enc : TypeId × Value → H) :
    ReturnsInHanded {} Tryz.checked os 6 .any (fun w args => (Rows.rowSharesSpec.pre enc Tryz.prog Tryz.f6 [] false w args ∧ laidMetH Tryz.prog laid2 w) ∧ sizedMet enc Tryz.prog Tryz.f6 (OpenSpec.ofChange Rows.rowSharesSpec) false w args)
      (Rows.rowSharesSpec.post enc Tryz.prog Tryz.f6 false true false false) := by
  refine returnsInHanded_of_change_and (C := Tryz.checked) (X := fun w _ => laidMetH Tryz.prog laid2 w) (fun _ _ _ hh h => h.of_heap hh) Tryz.own started (by kernel_rfl) Tryz.func6
    (ChangeSpec.witness_shaped (enc := enc) (C := Tryz.checked) (os := os) (X := fun w _ => laidMetH Tryz.prog laid2 w) false (laidWorld os) #[.slice none 0 0, .slice none 0 0, .agg #[.bool false, .slice none 0 0, .slice none 0 0]] 8 rfl (laid_shaped os) (by kernel_rfl) (by kernel_rfl) (by kernel_rfl) (laid_met os _)) ?_
  intro W base args ds gs before hval hW _ _ hL _
  exact law_step (P := Tryz.prog) (m := 8) (tb := 4) (tys := [(false, .sl tyF), (false, .sl tyF), (true, tyF)]) rfl (by kernel_rfl) Tryz.laidOut (by kernel_rfl) (by kernel_rfl) Tryz.underlying4
    (fun ds hd => by
      match ds, hd with
      | [d0, d1, d2], _ => rfl) rowShares_all hval hW
theorem rowShares_inPlace : Tryz.prog.inPlace 6 = Rows.rowSharesRow.inPlace := by kernel_rfl
theorem rowShares_unfollowed : Tryz.prog.unfollowed 6 = Rows.rowSharesRow.unfollowed := by kernel_rfl
theorem rowShares_recurses : Tryz.prog.recurses 6 = Rows.rowSharesRow.recurses := by kernel_rfl
theorem rowShares_named : Tryz.prog.varsNamed 6 = Rows.rowSharesRow.named := by kernel_rfl
theorem rowShares_facts : joinedFacts Tryz.prog 6 Tryz.f6 Rows.rowSharesSpec Rows.rowSharesRow = true := by
  unfold joinedFacts
  rw [Tryz.laidOut, Tryz.rowed, Tryz.heard, Tryz.enters, Tryz.keys, Tryz.lifts, Tryz.makes, rowShares_inPlace, rowShares_unfollowed, rowShares_recurses, rowShares_named]
  kernel_rfl
theorem rowShares_holds : Rows.RowSharesSaid :=
  OpenClaim.holds_of_wide 6 Tryz.f6 rfl rfl rfl rfl rfl rfl rfl ⟨rfl, rfl, rfl, rfl, rfl⟩ rfl rfl rfl rfl rfl (by kernel_rfl) Tryz.func6 rowShares_facts
    (of_decide_eq_true (by kernel_rfl)) (by unfold Func.isWrapper; first | (rw [if_pos (by decide +kernel)]; kernel_rfl) | (rw [if_neg (by decide +kernel)]; exact ⟨rfl, rfl⟩))
    (fun os started H enc _ => rowShares_lifted os started H enc)
theorem rowShares_card : Rows.RowSharesCardSaid :=
  Claim7.holds_tied_plain_at .later [] [.data, .pinned] true (true, "e7d7dd7a75272886e74ddfd5dceb53db0c7aae421901c4e4115758f38ea00999") false
    rowShares_holds (fun _ h => by cases h) (by kernel_rfl) (fun _ h => by cases h) rowShares_row_tie rfl ⟨rfl, rfl⟩ (by kernel_rfl) rfl
    (fun f fn hf hfn => by
      obtain rfl : f = 6 := Option.some.inj ((show Tryz.prog.funcNamed Rows.rowSharesRow.func = some 6 by kernel_rfl).symm.trans hf) |>.symm
      obtain rfl : fn = Tryz.f6 := (Option.some.inj (Tryz.func6.symm.trans hfn)).symm
      exact ⟨by kernel_rfl, fun j t ht => by
        have hall : (Tryz.f6.params.toList.all fun u => !Tryz.prog.wantsStandIn u) = true := by kernel_rfl
        have hm : t ∈ Tryz.f6.params.toList := by simpa using Array.mem_of_getElem? ht
        exact (show Tryz.prog.wantsStandIn t = false by simpa using List.all_eq_true.1 hall t hm)⟩)
    (by kernel_rfl)
#print axioms rowShares_card
end Go.Proofs.YtjgkladblmdanaaGreatDoor
end
