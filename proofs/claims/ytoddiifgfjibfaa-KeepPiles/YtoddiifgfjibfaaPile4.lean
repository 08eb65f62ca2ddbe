/-
  KeepPiles returns true of any calls and leaves its argument as it read before; no condition.
-/
import Derived.Test.YtoddiifgfjibfaaRows
import Derived.Test.YtoddiifgfjibfaaPart6
import Derived.Test.YtoddiifgfjibfaaPile3
namespace Go.Proofs.Ytoddiifgfjibfaa
open Go Go.Ab Go.ChangeShapes Go.WideShapes Go.ChangeAt Go.RowKit

theorem Try.own : ownKnob Try.prog.godebug = none := by kernel_rfl
theorem Try.laidOut : laidOutB Try.prog = true := by kernel_rfl

theorem nums_of : ∀ (els : List (List AV)), (∀ row ∈ els, Ok (.int .i64) row) → ∃ l, els = nums l
  | [], _ => ⟨[], rfl⟩
  | r :: els, h => by
    obtain ⟨l, rfl⟩ := nums_of els fun row hr => h row (List.mem_cons_of_mem _ hr)
    obtain ⟨n, rfl, _⟩ := h r List.mem_cons_self
    exact ⟨n :: l, rfl⟩

theorem ops_of : ∀ (els : List (List AV)), (∀ row ∈ els, Ok (.cons (.int .i64) (.cons (.sl (.int .i64)) .nil)) row) → ∃ ops : List Op1, els = ops.map opRow
  | [], _ => ⟨[], rfl⟩
  | r :: els, h => by
    obtain ⟨ops, rfl⟩ := ops_of els fun row hr => h row (List.mem_cons_of_mem _ hr)
    obtain ⟨c1, c2, rfl, ⟨n, rfl, _⟩, c3, c4, rfl, ⟨es, f, rfl, _, _, he⟩, rfl⟩ := h r List.mem_cons_self
    obtain ⟨l, rfl⟩ := nums_of es he
    exact ⟨⟨n, l, f⟩ :: ops, rfl⟩

theorem keepPiles_all (xs : List AV) (h : OkArgs [(false, .sl (.cons (.int .i64) (.cons (.sl (.int .i64)) .nil)))] xs) : PCall Try.prog 4 xs (· = .b true) := by
  obtain ⟨x, ys, rfl, ⟨els, f, hx, _, _, he⟩, rfl⟩ := h
  cases hx
  obtain ⟨ops, rfl⟩ := ops_of els he
  exact keepPiles_ok ops f works_ok fun l m f f' hl => sameInts_ok l m f f' hl

set_option maxRecDepth 100000 in
theorem keepPiles_lifted (os : Os) (started : os.Started) (H : Type) (enc : TypeId × Value → H) :
    ReturnsInHanded {} Try.checked os 4 .any (Rows.keepPilesSpec.pre6 enc Try.prog Try.f4 Rows.keepPilesRow.domain false) (Rows.keepPilesSpec.post enc Try.prog Try.f4 false true false false) := by
  refine returnsInHanded_of_change (C := Try.checked) Try.own started (by kernel_rfl) Try.func4
    (ChangeSpec.witness6 (enc := enc) (C := Try.checked) false ⟨#[], #[.slice none 0 0], []⟩ 8 (by kernel_rfl) (by kernel_rfl) (by kernel_rfl) (by kernel_rfl)) ?_
  intro W base args ds gs before hval hW _ _
  exact law_step (P := Try.prog) (m := 6) (tb := 4) (tys := [(false, .sl (.cons (.int .i64) (.cons (.sl (.int .i64)) .nil)))]) rfl (by kernel_rfl) Try.laidOut (by kernel_rfl) (by kernel_rfl) Try.underlying4
    (fun ds hd => by
      match ds, hd with
      | [d], _ => rfl) keepPiles_all hval hW

theorem keepPiles_holds : Rows.KeepPilesSaid :=
  OpenClaim.holds_of_wide 4 Try.f4 rfl rfl rfl rfl rfl rfl rfl ⟨rfl, rfl, rfl, rfl, rfl⟩ rfl rfl rfl rfl rfl (by kernel_rfl) Try.func4 (by kernel_rfl)
    (of_decide_eq_true (by kernel_rfl)) (by unfold Func.isWrapper; first | (rw [if_pos (by decide +kernel)]; kernel_rfl) | (rw [if_neg (by decide +kernel)]; exact ⟨rfl, rfl⟩))
    (fun os started H enc _ => keepPiles_lifted os started H enc)

#print axioms keepPiles_holds
end Go.Proofs.Ytoddiifgfjibfaa
