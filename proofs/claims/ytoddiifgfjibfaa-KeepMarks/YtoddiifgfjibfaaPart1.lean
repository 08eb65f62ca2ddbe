/-
  The distance of marks, and the marks of the document, walked.
-/
import Derived.Test.YtoddiifgfjibfaaCode
import Derived.Test.YtoddiifgfjibfaaAb23
namespace Go.Proofs.Ytoddiifgfjibfaa
open Go Go.Ab

def cutZ (k : Int) : Int := min (max k 1) 200

theorem cut_ok (k : Int) : PCall Try.prog 17 [.i .i64 k] (· = .i .i64 (cutZ k)) := by
  refine pcall_of r17 mixed rfl fun cx hP _ => ?_
  unfold a17
  refine AWp_seq (AWp_reg ?_)
  simp
  refine AWp_seq (AWp_reg ?_)
  simp
  refine AWp_ret ?_
  simp [cutZ]
  repeat' split
  all_goals omega

theorem cut2_ok (k : Int) : PCall Try.prog 15 [.i .i64 k] (· = .i .i64 (cutZ k)) := by
  refine pcall_of r15 mixed rfl fun cx hP _ => ?_
  unfold a15
  refine AWp_seq (AWp_reg ?_)
  simp
  refine AWp_seq (AWp_reg ?_)
  simp
  refine AWp_ret ?_
  simp [cutZ]
  repeat' split
  all_goals omega

def ints (l : List Int) : List (List AV) := l.map fun x => [.i .i64 x]

/-- the marks below i -/
def marks (c : Int) : Nat → List Int
  | 0 => []
  | i + 1 => if (i : Int).tmod c = 0 then marks c i ++ [(i : Int)] else marks c i

theorem marks_len (c : Int) (i : Nat) : (marks c i).length ≤ i := by
  induction i with
  | zero => simp [marks]
  | succ i ih => simp only [marks]; split <;> (try simp) <;> omega

theorem cutZ_pos (k : Int) : 1 ≤ cutZ k ∧ cutZ k ≤ 200 := by unfold cutZ; omega

theorem refMarks_ok (n k : Int) : PCall Try.prog 5 [.i .i64 n, .i .i64 k] (fun r => r = .sl (ints (marks (cutZ k) (if n ≤ 200 then n.toNat else 0))) .an) := by
  refine pcall_of r5 mixed rfl fun cx hP _ => ?_
  unfold a5
  refine AWp_seq (AWp_reg ?_)
  simp
  refine AWp_seq (AWp_reg ?_)
  simp
  refine AWp_seq (AWp_seq (AWp_reg ?_))
  simp
  refine AWp.open_nil 5 (.loc 5) 1 rfl ?_
  refine AWp_block (AWp_loop (α := Nat × Nat × Nat)
    (fun x => ⟨[(0, .i .i64 n), (1, .i .i64 k), (5, .bs (.loc 5) x.2.1 1 0 (marks (cutZ k) x.1).length), (6, .i .i64 x.1)], [(.loc 5, ⟨x.2.1, .own, 1, ints (marks (cutZ k) x.1)⟩)], x.2.2⟩)
    (fun x => x.1 ≤ (if n ≤ 200 then n.toNat else 0)) (fun x => 200 - x.1) (0, 0, 1) (Nat.zero_le _) ?_ ?_)
  · exact Sub_intro (by simp [marks]) (by simp [marks, ints]) (by simp)
  · rintro ⟨i, g, c⟩ hI
    simp only at hI
    by_cases h1 : (i : Int) < n
    · by_cases h2 : n ≤ 200
      · refine AWp_seq (AWp_seq (AWp_reg ?_))
        simp [h1, h2]
        refine AWp_cond (t := true) (by simp) (fun _ => AWp_skip ?_) (fun h => by cases h)
        simp
        refine AWp_seq (AWp_block (AWp_seq (AWp_reg ?_)))
        simp
        rw [hP]
        refine opK_call (ys := [.i .i64 k]) (cut2_ok k) (by simp) ?_
        rintro r rfl
        simp
        have hc := cutZ_pos k
        refine ⟨by omega, ?_⟩
        have hl := marks_len (cutZ k) i
        have hw : IntKind.wrap .i64 ((i : Int) + 1) = (i : Int) + 1 := wrap_i64 _ (by omega)
        by_cases h3 : (i : Int).tmod (cutZ k) = 0
        · refine AWp_cond (t := true) (by simp [h3]) (fun _ => AWp_reg ?_) (fun h => by cases h)
          simp [ints, List.take_of_length_le]
          refine ⟨by omega, ?_⟩
          refine AWp_reg ?_
          simp [hw]
          exact ⟨i + 1, by omega, ⟨c, c + 1, Sub_intro (by simp [marks, h3]) (by simp [marks, h3, List.take_of_length_le]) (by simp)⟩, by omega⟩
        · refine AWp_cond (t := false) (by simp [h3]) (fun h => by cases h) (fun _ => AWp_skip ?_)
          simp
          refine AWp_reg ?_
          simp [hw]
          exact ⟨i + 1, by omega, ⟨g, c, Sub_intro (by simp [marks, h3]) (by simp [marks, h3]) (by simp)⟩, by omega⟩
      · refine AWp_seq (AWp_seq (AWp_reg ?_))
        simp [h1, h2]
        refine AWp_cond (t := false) (by simp) (fun h => by cases h) (fun _ => AWp_exit ?_)
        simp
        refine AWp_seq (AWp_reg ?_)
        simp
        refine AWp_ret ?_
        simp [h2] at hI
        subst hI
        simp [h2, ints, marks]
    · refine AWp_seq (AWp_seq (AWp_reg ?_))
      simp [h1]
      refine AWp_cond (t := false) (by simp) (fun h => by cases h) (fun _ => AWp_exit ?_)
      simp
      refine AWp_seq (AWp_reg ?_)
      simp
      refine AWp_ret ?_
      have hi : i = (if n ≤ 200 then n.toNat else 0) := by split at hI <;> split <;> omega
      subst hi
      simp [ints, List.take_of_length_le]
end Go.Proofs.Ytoddiifgfjibfaa
