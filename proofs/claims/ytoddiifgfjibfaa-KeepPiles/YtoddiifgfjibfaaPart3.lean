/-
  The marks of the program, walked.
-/
import Derived.Test.YtoddiifgfjibfaaPart1
import Derived.Test.YtoddiifgfjibfaaAb24
namespace Go.Proofs.Ytoddiifgfjibfaa
open Go Go.Ab

theorem tmod_add (c : Int) (m j : Nat) (hm : (m : Int).tmod c = 0) (h1 : 1 ≤ j) (h2 : (j : Int) < c) : ((m + j : Nat) : Int).tmod c ≠ 0 := by
  rw [Int.tmod_eq_emod_of_nonneg (by omega)] at *
  have : ((m + j : Nat) : Int) % c = j := by
    rw [Int.natCast_add, Int.add_emod, hm, Int.zero_add, Int.emod_emod_of_dvd _ (Int.dvd_refl c), Int.emod_eq_of_lt (by omega) h2]
  omega

theorem marks_add (c : Int) (m : Nat) (hm : (m : Int).tmod c = 0) : ∀ d : Nat, (d : Int) < c → marks c (m + (d + 1)) = marks c m ++ [(m : Int)] := by
  intro d
  induction d with
  | zero => intro _; show marks c (m + 1) = _; simp [marks, hm]
  | succ d ih =>
    intro hd
    show marks c ((m + (d + 1)) + 1) = _
    have := tmod_add c m (d + 1) hm (by omega) (by exact_mod_cast hd)
    rw [marks, if_neg this]
    exact ih (by omega)

theorem marks_min (c : Int) (m n : Nat) (hm : (m : Int).tmod c = 0) (hmn : m < n) (k : Nat) (hk : (k : Int) = c) (h1 : 1 ≤ k) : marks c (min (m + k) n) = marks c m ++ [(m : Int)] := by
  have h : min (m + k) n = m + ((min (m + k) n - m - 1) + 1) := by omega
  rw [h]
  exact marks_add c m hm _ (by omega)

theorem tmod_step (c : Int) (m k : Nat) (hm : (m : Int).tmod c = 0) (hk : (k : Int) = c) : ((m + k : Nat) : Int).tmod c = 0 := by
  rw [Int.tmod_eq_emod_of_nonneg (by omega)] at *
  rw [Int.natCast_add, hk, Int.add_emod_right]
  exact hm

/-- how many steps there are to be marked -/
def many (n : Int) : Nat := if n ≤ 200 then n.toNat else 0

theorem marks_ok (n k : Int) : PCall Try.prog 8 [.i .i64 n, .i .i64 k] (fun r => ∃ f, r = .sl (ints (marks (cutZ k) (many n))) f ∧ (f = .nl → many n = 0) ∧ (f = .nl ∨ f = .an)) := by
  refine pcall_of r8 mixed rfl fun cx hP _ => ?_
  unfold a8
  have hc := cutZ_pos k
  obtain ⟨q, hq⟩ : ∃ q : Nat, cutZ k = q := ⟨(cutZ k).toNat, by omega⟩
  refine AWp_seq (AWp_reg ?_)
  simp
  by_cases h1 : n < 1
  · refine AWp_seq (AWp_seq (AWp_reg ?_))
    simp [h1]
    refine AWp_cond (t := true) (by simp) (fun _ => ?_) (fun h => by cases h)
    refine AWp_seq (AWp_reg ?_)
    simp
    refine AWp_ret ?_
    have : many n = 0 := by unfold many; split <;> omega
    simp [this, ints, marks]
  by_cases h2 : 200 < n
  · refine AWp_seq (AWp_seq (AWp_reg ?_))
    simp [h1, h2]
    refine AWp_cond (t := true) (by simp) (fun _ => ?_) (fun h => by cases h)
    refine AWp_seq (AWp_reg ?_)
    simp
    refine AWp_ret ?_
    have : many n = 0 := by unfold many; split <;> omega
    simp [this, ints, marks]
  obtain ⟨N, rfl⟩ : ∃ N : Nat, n = N := ⟨n.toNat, by omega⟩
  have hN : many (N : Int) = N := by unfold many; split <;> omega
  refine AWp_seq (AWp_seq (AWp_reg ?_))
  simp [h1, h2]
  refine AWp_cond (t := false) (by simp) (fun h => by cases h) (fun _ => AWp_skip ?_)
  simp
  refine AWp_seq (AWp_reg ?_)
  simp
  refine AWp_seq (AWp_seq (AWp_reg ?_))
  simp
  refine AWp.open_nil 5 (.loc 5) 1 rfl ?_
  refine AWp_block (AWp_loop (α := Nat × Nat × Nat)
    (fun x => ⟨[(0, .i .i64 N), (1, .i .i64 k), (5, .bs (.loc 5) x.2.1 1 0 (marks q (min x.1 N)).length), (6, .i .i64 x.1)], [(.loc 5, ⟨x.2.1, .own, 1, ints (marks q (min x.1 N))⟩)], x.2.2⟩)
    (fun x => (x.1 : Int).tmod q = 0 ∧ x.1 < N + q) (fun x => N + q - x.1) (0, 0, 1) ⟨by simp, by show 0 < N + q; omega⟩ ?_ ?_)
  · exact Sub_intro (by simp [marks]) (by simp [marks, ints]) (by simp)
  · rintro ⟨i, g, c⟩ ⟨hI, hI2⟩
    simp only at hI hI2
    by_cases h3 : i < N
    · refine AWp_seq (AWp_seq (AWp_reg ?_))
      simp [h3]
      refine AWp_cond (t := true) (by simp) (fun _ => AWp_skip ?_) (fun h => by cases h)
      simp
      have hl := marks_len q i
      have hmi : min i N = i := by omega
      refine AWp_seq (AWp_block (AWp_reg ?_))
      simp [ints, hmi]
      refine ⟨by omega, ?_⟩
      refine AWp_reg ?_
      simp
      rw [hP]
      refine opK_call (ys := [.i .i64 k]) (cut_ok k) (by simp) ?_
      rintro r rfl
      have hw : IntKind.wrap .i64 ((i : Int) + q) = (i : Int) + q := wrap_i64 _ (by omega)
      simp [hq, hw]
      have hm := marks_min q i N hI h3 q rfl (by omega)
      refine ⟨i + q, ⟨tmod_step q i q hI rfl, by omega⟩, ⟨c, c + 1, Sub_intro (by simp [hm]) (by simp [hm, List.take_of_length_le]) (by simp)⟩, by omega⟩
    · refine AWp_seq (AWp_seq (AWp_reg ?_))
      simp [h3]
      refine AWp_cond (t := false) (by simp) (fun h => by cases h) (fun _ => AWp_exit ?_)
      simp
      refine AWp_seq (AWp_reg ?_)
      simp
      refine AWp_ret ?_
      have hmi : min i N = N := by omega
      simp [ints, hmi, hN, hq, List.take_of_length_le]
end Go.Proofs.Ytoddiifgfjibfaa
