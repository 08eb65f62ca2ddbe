/-
  Whether anything is a word, and any words as a text, are as the document has them.
  Conditions: none beyond those that the theorems state. (Part 5: LxLexWords.)
-/
import Derived.Test.YtaclblccdlpblaaPart4

set_option linter.unusedSectionVars false
set_option linter.unusedVariables false
set_option linter.unusedSimpArgs false
set_option linter.unnecessarySimpa false

section
namespace Go.Proofs.Ytaclblccdlpblaa
open Go Go.Ab Go.ChangeShapes Go.WideShapes Go.ChangeAt Go.RowKit
theorem tab_all : TOk Try.prog nu (fun u => lTab.lookup u) := lTab_ok (join_ok) (sign_ok) (str184_ok)
theorem lexWords_all (xs : List AV) (h : OkArgs [(false, .sl tyW)] xs) : PCall Try.prog 4 xs (· = .b true) := by
  obtain ⟨x, l0, rfl, hx, rfl⟩ := h
  obtain ⟨ax, ex, lx⟩ := words_arg hx
  exact pcall_part (u := 165) (af := row165) tab_all lTab_part Try.mixed (by kernel_rfl) rfl (law16_words (T := tab) ax) (by simp [ex])
set_option maxRecDepth 100000 in
theorem lexWords_lifted (os : Os) (started : os.Started) (H : Type) (enc : TypeId × Value → H) :
    ReturnsInHanded {} Try.checked os 4 .any (Rows.lexWordsSpec.pre6 enc Try.prog Try.f4 Rows.lexWordsRow.domain false) (Rows.lexWordsSpec.post enc Try.prog Try.f4 false true false false) := by
  refine returnsInHanded_of_change (C := Try.checked) Try.own started (by kernel_rfl) Try.func4
    (ChangeSpec.witness6 (enc := enc) (C := Try.checked) false ⟨#[], #[.slice none 0 0], []⟩ 8 (by kernel_rfl) (by kernel_rfl) (by kernel_rfl) (by kernel_rfl)) ?_
  intro W base args ds gs before hval hW _ _
  exact law_step (P := Try.prog) (m := 8) (tb := 4) (tys := [(false, .sl tyW)]) rfl (by kernel_rfl) Try.laidOut (by kernel_rfl) (by kernel_rfl) Try.underlying4
    (fun ds hd => by
      match ds, hd with
      | [d0], _ => rfl) lexWords_all hval hW
theorem lexWords_holds : Rows.LexWordsSaid :=
  OpenClaim.holds_of_wide 4 Try.f4 rfl rfl rfl rfl rfl rfl rfl ⟨rfl, rfl, rfl, rfl, rfl⟩ rfl rfl rfl rfl rfl (by kernel_rfl) Try.func4 (by kernel_rfl)
    (of_decide_eq_true (by kernel_rfl)) (by unfold Func.isWrapper; first | (rw [if_pos (by decide +kernel)]; kernel_rfl) | (rw [if_neg (by decide +kernel)]; exact ⟨rfl, rfl⟩))
    (fun os started H enc _ => lexWords_lifted os started H enc)
#print axioms lexWords_holds
end Go.Proofs.Ytaclblccdlpblaa
end
