/-
  The words of any bytes, with their places, or the place at which there is none, are as the document has them.
  Conditions: none beyond those that the theorems state. (Part 5: LxLexScans.)
-/
import Derived.Test.YtaclblccdlpblaaPart4

set_option linter.unusedSectionVars false
set_option linter.unusedVariables false
set_option linter.unusedSimpArgs false
set_option linter.unnecessarySimpa false

section
namespace Go.Proofs.Ytaclblccdlpblaa
open Go Go.Ab Go.ChangeShapes Go.WideShapes Go.ChangeAt Go.RowKit
theorem tab_all : TOk Try.prog nu (fun u => lTab.lookup u) := lTab_ok (join_ok) (sign_ok) (str184_ok)
theorem lexScans_all (xs : List AV) (h : OkArgs [(false, .str)] xs) : PCall Try.prog 3 xs (· = .b true) := by
  obtain ⟨x, l0, rfl, hx, rfl⟩ := h
  obtain ⟨ax, rfl, bx⟩ := str_arg hx
  exact pcall_part (u := 164) (af := row164) tab_all lTab_part Try.mixed (by kernel_rfl) rfl (law16_scans (T := tab) ax) (by simp [wkA])
set_option maxRecDepth 100000 in
theorem lexScans_lifted (os : Os) (started : os.Started) (H : Type) (enc : TypeId × Value → H) :
    ReturnsInHanded {} Try.checked os 3 .any (Rows.lexScansSpec.pre6 enc Try.prog Try.f3 Rows.lexScansRow.domain false) (Rows.lexScansSpec.post enc Try.prog Try.f3 false true false false) := by
  refine returnsInHanded_of_change (C := Try.checked) Try.own started (by kernel_rfl) Try.func3
    (ChangeSpec.witness6 (enc := enc) (C := Try.checked) false ⟨#[], #[.string ⟨#[]⟩], []⟩ 8 (by kernel_rfl) (by kernel_rfl) (by kernel_rfl) (by kernel_rfl)) ?_
  intro W base args ds gs before hval hW _ _
  exact law_step (P := Try.prog) (m := 8) (tb := 4) (tys := [(false, .str)]) rfl (by kernel_rfl) Try.laidOut (by kernel_rfl) (by kernel_rfl) Try.underlying4
    (fun ds hd => by
      match ds, hd with
      | [d0], _ => rfl) lexScans_all hval hW
theorem lexScans_holds : Rows.LexScansSaid :=
  OpenClaim.holds_of_wide 3 Try.f3 rfl rfl rfl rfl rfl rfl rfl ⟨rfl, rfl, rfl, rfl, rfl⟩ rfl rfl rfl rfl rfl (by kernel_rfl) Try.func3 (by kernel_rfl)
    (of_decide_eq_true (by kernel_rfl)) (by unfold Func.isWrapper; first | (rw [if_pos (by decide +kernel)]; kernel_rfl) | (rw [if_neg (by decide +kernel)]; exact ⟨rfl, rfl⟩))
    (fun os started H enc _ => lexScans_lifted os started H enc)
#print axioms lexScans_holds
end Go.Proofs.Ytaclblccdlpblaa
end
