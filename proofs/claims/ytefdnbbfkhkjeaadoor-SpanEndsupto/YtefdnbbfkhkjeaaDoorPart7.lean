/-
  The cubic of any span has at its ends the states, and its derivative the slopes, where the span and its rows are of bulk at most 1048576.
  Conditions: none beyond those that the theorems state. (Part 7: EzSpanEnds.)
-/
import Derived.Test.YtefdnbbfkhkjeaaDoorPart6
import Derived.JoinedCond
import Derived.Deep.DeepHandedRow

set_option linter.unusedSectionVars false
set_option linter.unusedVariables false
set_option linter.unusedSimpArgs false
set_option linter.unnecessarySimpa false

section
namespace Go.Proofs.YtefdnbbfkhkjeaaDoor
open Go Go.Ab Go.ChangeShapes Go.WideShapes Go.ChangeAt Go.RowKit
theorem bulk_one {H : Type} (d : DataW H) : 1 ≤ Rows.uptoBulk d := by
  cases d with
  | lit l => cases l <;> simp [Rows.uptoBulk]
  | nil => simp [Rows.uptoBulk]
  | ptr d => simp [Rows.uptoBulk]
  | slice elems spare => simp [Rows.uptoBulk]
  | agg parts => simp [Rows.uptoBulk]
  | iface t d => simp [Rows.uptoBulk]
  | map entries => simp [Rows.uptoBulk]
  | held h => simp [Rows.uptoBulk]
theorem bulk_part {H : Type} {d : DataW H} : ∀ {l : List (DataW H)}, d ∈ l → Rows.uptoBulk d ≤ Rows.uptoBulkAll l
  | [], h => by cases h
  | x :: r, h => by
    simp only [Rows.uptoBulkAll]
    rcases List.mem_cons.1 h with rfl | h
    · omega
    · have := bulk_part h
      omega
theorem bulk_len {H : Type} : ∀ l : List (DataW H), l.length ≤ Rows.uptoBulkAll l
  | [] => by simp [Rows.uptoBulkAll]
  | x :: r => by
    have h1 := bulk_one x
    have h2 := bulk_len r
    simp only [Rows.uptoBulkAll, List.length_cons]
    omega
theorem bulk_slice {H : Type} (elems spare : List (DataW H)) : elems.length ≤ Rows.uptoBulk (.slice elems spare) := by
  have := bulk_len elems
  simp only [Rows.uptoBulk]
  omega
theorem bulk_agg {H : Type} (parts : List (DataW H)) (d : DataW H) (h : d ∈ parts) : Rows.uptoBulk d ≤ Rows.uptoBulk (.agg parts) := by
  have := bulk_part h
  simp only [Rows.uptoBulk]
  omega
theorem spanEnds_all (xs : List AV) (h : OkArgs [(true, tyS)] xs) (hs : ∀ x ∈ xs, ShortA 1048576 x) : PCall Tryd.prog 3 xs (· = .b true) := by
  obtain ⟨x, l0, rfl, hx, rfl⟩ := h
  obtain ⟨tx, kx, px, qx, rx, sx, ex, lx⟩ := span_arg_short hx (hs x List.mem_cons_self)
  exact pcall_part (u := 365) (af := row365) tab_all lTab_part Tryd.mixed (by kernel_rfl) rfl (law41_ends (T := tab) tx kx px qx rx sx fun r hr => Nat.le_trans (lx r hr) (by decide)) (by simp [ex])
theorem reads (os : Os) {H : Type} (enc : TypeId × Value → H) : ∃ places, DataW.whole enc Tryd.prog ((laidWorld os).forCall (fun _ _ => 0) ⟨#[], #[.agg #[.bool false, .slice none 0 0, .slice none 0 0, .bool false, .slice none 0 0, .slice none 0 0, .slice none 0 0, .slice none 0 0, .slice none 0 0, .slice none 0 0]], []⟩).memory Tryd.f3.params.toList Rows.spanEndsSpec.vars false #[Value.agg #[.bool false, .slice none 0 0, .slice none 0 0, .bool false, .slice none 0 0, .slice none 0 0, .slice none 0 0, .slice none 0 0, .slice none 0 0, .slice none 0 0]].toList 8 =
    some ([.agg [.agg [.lit (.bool false), .nil, .nil], .agg [.lit (.bool false), .nil, .nil], .nil, .nil, .nil, .nil]], [], places) :=
  ⟨[], by kernel_rfl⟩
set_option maxRecDepth 100000 in
theorem spanEnds_lifted (os : Os) (started : os.Started) (H : Type) (enc : TypeId × Value → H) (F : Stop.Interp) :
    ReturnsInHanded {} Tryd.checked os 3 .any ((Rows.OpenSpec.upto Rows.spanEndsSpec).preRow enc Tryd.prog Tryd.f3 Rows.spanEndsUptoRow.domain false Rows.spanEndsUptoRow.laid) (((Rows.OpenSpec.upto Rows.spanEndsSpec).at F).post enc Tryd.prog Tryd.f3 false true false false) := by
  obtain ⟨places, hx⟩ := reads os enc
  refine returnsInHanded_of_row (C := Tryd.checked) (s := Rows.OpenSpec.upto Rows.spanEndsSpec) Tryd.own started (by kernel_rfl) Tryd.func3
    (witness_row_at (enc := enc) (C := Tryd.checked) false (laidWorld os) #[.agg #[.bool false, .slice none 0 0, .slice none 0 0, .bool false, .slice none 0 0, .slice none 0 0, .slice none 0 0, .slice none 0 0, .slice none 0 0, .slice none 0 0]] rfl (by kernel_rfl) (by kernel_rfl) (by kernel_rfl)
      (OpenSpec.preRow_of_cond 8 hx (by kernel_rfl) (fun k hk => by cases hk; kernel_rfl) (by kernel_rfl) (laid_met os _))) ?_
  intro W base args ds gs before hval hW _ hcond _ hL _ _
  have hk := hcond _ rfl
  have hb : Rows.uptoBulkAll (ds ++ gs) ≤ 1048576 := of_decide_eq_true hk
  exact law_step_short (P := Tryd.prog) (bk := Rows.uptoBulk) bulk_slice bulk_agg (B := 1048576) (m := 8) (tb := 4) (tys := [(true, tyS)]) rfl (by kernel_rfl) Tryd.laidOut (by kernel_rfl) (by kernel_rfl) Tryd.underlying4
    (fun ds hd => by
      match ds, hd with
      | [d0], _ => rfl) spanEnds_all hval hW fun d hd => Nat.le_trans (bulk_part (List.mem_append_left _ hd)) hb
theorem spanEnds_inPlace : Tryd.prog.inPlace 3 = Rows.spanEndsUptoRow.inPlace := by kernel_rfl
theorem spanEnds_unfollowed : Tryd.prog.unfollowed 3 = Rows.spanEndsUptoRow.unfollowed := by kernel_rfl
theorem spanEnds_recurses : Tryd.prog.recurses 3 = Rows.spanEndsUptoRow.recurses := by kernel_rfl
theorem spanEnds_named : Tryd.prog.varsNamed 3 = Rows.spanEndsUptoRow.named := by kernel_rfl
theorem spanEnds_facts : joinedFacts Tryd.prog 3 Tryd.f3 (Rows.OpenSpec.upto Rows.spanEndsSpec).bare Rows.spanEndsUptoRow = true := by
  unfold joinedFacts
  rw [Tryd.laidOut, Tryd.rowed, Tryd.heard, Tryd.enters, Tryd.keys, Tryd.lifts, Tryd.makes, spanEnds_inPlace, spanEnds_unfollowed, spanEnds_recurses, spanEnds_named]
  kernel_rfl
theorem spanEnds_holds : Rows.SpanEndsUptoSaid :=
  OpenClaim.holds_of_cond 3 Tryd.f3 rfl rfl rfl rfl rfl rfl rfl ⟨rfl, rfl, rfl, rfl, rfl⟩ rfl rfl rfl rfl rfl (by kernel_rfl) Tryd.func3 spanEnds_facts
    (of_decide_eq_true (by kernel_rfl)) (by unfold Func.isWrapper; first | (rw [if_pos (by decide +kernel)]; kernel_rfl) | (rw [if_neg (by decide +kernel)]; exact ⟨rfl, rfl⟩))
    (fun os started H enc _ F => by rw [OpenClaim.pre_eq_preRow]; exact spanEnds_lifted os started H enc F)
theorem spanEnds_card : Rows.SpanEndsUptoCardSaid :=
  Claim7.holds_tied_plain_at .later [] _ _ _ _
    spanEnds_holds (fun _ h => by cases h) (by kernel_rfl) (fun _ h => by cases h) spanEndsUpto_row_tie rfl ⟨rfl, rfl⟩ (by kernel_rfl) rfl
    (fun f fn hf hfn => by
      obtain rfl : f = 3 := Option.some.inj ((show Tryd.prog.funcNamed Rows.spanEndsUptoRow.func = some 3 by kernel_rfl).symm.trans hf) |>.symm
      obtain rfl : fn = Tryd.f3 := (Option.some.inj (Tryd.func3.symm.trans hfn)).symm
      exact ⟨by kernel_rfl, fun j t ht => by
        have hall : (Tryd.f3.params.toList.all fun u => !Tryd.prog.wantsStandIn u) = true := by kernel_rfl
        have hm : t ∈ Tryd.f3.params.toList := by simpa using Array.mem_of_getElem? ht
        exact (show Tryd.prog.wantsStandIn t = false by simpa using List.all_eq_true.1 hall t hm)⟩)
    (by kernel_rfl)
#print axioms spanEnds_card
end Go.Proofs.YtefdnbbfkhkjeaaDoor
end
