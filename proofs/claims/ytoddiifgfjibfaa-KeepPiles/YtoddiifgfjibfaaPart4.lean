/-
  Two lists of numbers compared, walked.
-/
import Derived.Test.YtoddiifgfjibfaaPart3
namespace Go.Proofs.Ytoddiifgfjibfaa
open Go Go.Ab

theorem ints_get (l : List Int) (i : Nat) (h : i < l.length) : (ints l)[i]? = some [.i .i64 l[i]] := by
  simp [ints, h]

theorem take_one (l m : List Int) (i : Nat) (h1 : i < l.length) (h2 : i < m.length) (he : l.take i = m.take i) : (l.take (i + 1) = m.take (i + 1)) ↔ l[i] = m[i] := by
  rw [List.take_add_one, List.take_add_one, he, List.append_right_inj]
  simp [h1, h2]

theorem sameInts_ok (l m : List Int) (f f' : Fl) (hl : l.length ≤ 1000000) : PCall Try.prog 7 [.sl (ints l) f, .sl (ints m) f'] (· = .b (decide (l = m))) := by
  refine pcall_of r7 mixed rfl fun cx hP _ => ?_
  unfold a7
  refine AWp_seq (AWp_reg ?_)
  simp
  refine AWp_seq (AWp_reg ?_)
  simp
  refine AWp_seq (AWp_seq (AWp_reg ?_))
  simp
  refine AWp_block (AWp_loop (α := Nat)
    (fun i => ⟨[(0, .sl (ints l) f), (1, .sl (ints m) f'), (5, .b (decide (l.length = m.length ∧ l.take i = m.take i))), (6, .i .i64 i)], [], 0⟩)
    (fun i => i ≤ l.length) (fun i => l.length - i) 0 (Nat.zero_le _) ?_ ?_)
  · refine Sub_intro ?_ (by simp) (by simp)
    simp [ints]
    by_cases h : l.length = m.length <;> simp [h]
    omega
  · intro i hI
    have hI : i ≤ l.length := hI
    by_cases h1 : l.length = m.length ∧ l.take i = m.take i
    · obtain ⟨h0, h1⟩ := h1
      by_cases h2 : i < l.length
      · have h3 : i < m.length := by omega
        refine AWp_seq (AWp_seq (AWp_reg ?_))
        simp [h0, h1, h2, h3, ints]
        refine AWp_cond (t := true) (by simp) (fun _ => AWp_skip ?_) (fun h => by cases h)
        simp
        refine AWp_seq (AWp_block (AWp_draw ?_))
        simp [h0, h1, h2, h3]
        refine AWp_reg ?_
        have hw : IntKind.wrap .i64 ((i : Int) + 1) = (i : Int) + 1 := wrap_i64 _ (by omega)
        simp [hw]
        refine ⟨i + 1, by omega, Sub_intro ?_ (by simp) (by simp), by omega⟩
        have := take_one l m i h2 h3 h1
        simp [h0, this]
        by_cases hb : l[i] = m[i] <;> simp [hb]
      · refine AWp_seq (AWp_seq (AWp_reg ?_))
        have h3 : ¬ i < m.length := by omega
        simp [h0, h1, h2, h3, ints]
        refine AWp_cond (t := false) (by simp) (fun h => by cases h) (fun _ => AWp_exit ?_)
        simp
        refine AWp_seq (AWp_reg ?_)
        simp
        refine AWp_ret ?_
        have e1 : l = m := by
          rw [List.take_of_length_le (by omega), List.take_of_length_le (by omega)] at h1
          exact h1
        simp [h1, h0, e1]
    · have hne : l ≠ m := by rintro rfl; exact h1 ⟨rfl, rfl⟩
      refine AWp_seq (AWp_seq (AWp_reg ?_))
      simp [h1]
      refine AWp_cond (t := false) (by simp) (fun h => by cases h) (fun _ => AWp_exit ?_)
      simp
      refine AWp_seq (AWp_reg ?_)
      simp
      refine AWp_ret ?_
      simp [h1, hne]
end Go.Proofs.Ytoddiifgfjibfaa
