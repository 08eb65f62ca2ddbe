/-
  The plain law of marks and segments; works, walked.
-/
import Derived.Test.YtoddiifgfjibfaaPart5
namespace Go.Proofs.Ytoddiifgfjibfaa
open Go Go.Ab

/-! the plain law -/

def ceilN (q N : Nat) : Nat := (N + q - 1) / q

theorem ceil_lt (q N j : Nat) (hq : 1 ≤ q) : j < ceilN q N ↔ j * q < N := by
  unfold ceilN
  rw [← Nat.succ_le_iff, Nat.le_div_iff_mul_le (by omega), Nat.succ_mul]
  omega

theorem eq_of_lt_iff (a b : Nat) (h : ∀ j, j < a ↔ j < b) : a = b := by
  have h1 := h a
  have h2 := h b
  omega

theorem marks_eq (q : Nat) (hq : 1 ≤ q) (N : Nat) : marks q N = (List.range (ceilN q N)).map fun j => ((j * q : Nat) : Int) := by
  induction N with
  | zero =>
    have : ceilN q 0 = 0 := eq_of_lt_iff _ _ fun j => by rw [ceil_lt q 0 j hq]; omega
    simp [marks, this]
  | succ N ih =>
    simp only [marks]
    have hd : ((N : Int).tmod q = 0) ↔ N % q = 0 := by
      rw [Int.tmod_eq_emod_of_nonneg (by omega)]
      omega
    by_cases h : N % q = 0
    · rw [if_pos (hd.2 h), ih]
      obtain ⟨t, ht⟩ : ∃ t, N = q * t := Nat.dvd_of_mod_eq_zero h
      have e1 : ceilN q N = t := eq_of_lt_iff _ _ fun j => by
        rw [ceil_lt q N j hq, ht, Nat.mul_comm q t]
        exact ⟨fun h => Nat.lt_of_mul_lt_mul_right h, fun h => Nat.mul_lt_mul_of_pos_right h (by omega)⟩
      have e2 : ceilN q (N + 1) = t + 1 := eq_of_lt_iff _ _ fun j => by
        rw [ceil_lt q _ j hq, ht, Nat.mul_comm q t, Nat.lt_succ_iff, Nat.lt_succ_iff]
        exact ⟨fun h => Nat.le_of_mul_le_mul_right h (by omega), fun h => Nat.mul_le_mul_right _ h⟩
      rw [e1, e2, List.range_succ, List.map_append]
      simp [ht, Nat.mul_comm]
    · rw [if_neg (fun hh => h (hd.1 hh)), ih]
      have : ceilN q (N + 1) = ceilN q N := eq_of_lt_iff _ _ fun j => by
        rw [ceil_lt q _ j hq, ceil_lt q _ j hq]
        have : j * q ≠ N := by rintro rfl; exact h (Nat.mul_mod_left j q)
        omega
      rw [this]

theorem marks_seg (q N : Nat) (hq : 1 ≤ q) (n : Int) (hn : many n = N) (hN : 0 < N) (j : Nat) (hj : j < (marks q N).length) :
    pairZ q n (marks q N)[j] = ((marks q N)[j], if h : j + 1 < (marks q N).length then (marks q N)[j + 1] else n) := by
  have hnN : n = N := by unfold many at hn; split at hn <;> omega
  have hl : (marks q N).length = ceilN q N := by rw [marks_eq q hq]; simp
  have hg : ∀ i (h : i < (marks q N).length), (marks q N)[i] = ((i * q : Nat) : Int) := by
    intro i h
    have := marks_eq q hq N
    simp [this]
  unfold pairZ
  congr 1
  rw [hg j hj]
  have hjN : j * q < N := (ceil_lt q N j hq).1 (by omega)
  by_cases h : j + 1 < (marks q N).length
  · rw [dif_pos h, hg _ h]
    have := (ceil_lt q N (j + 1) hq).1 (by omega)
    rw [Nat.add_mul, Nat.one_mul] at this ⊢
    omega
  · rw [dif_neg h]
    have : ¬ (j + 1) * q < N := fun hh => h (by rw [hl]; exact (ceil_lt q N (j + 1) hq).2 hh)
    rw [Nat.add_mul, Nat.one_mul] at this
    omega

/-! the rest of the walk -/

theorem works_ok : PCall Try.prog 9 [] (· = .b true) := by
  refine pcall_of r9 mixed rfl fun cx hP _ => ?_
  unfold a9
  refine AWp_seq (AWp_reg ?_)
  simp
  refine AWp_seq (AWp_reg ?_)
  simp only [runK_cons, stepK_none]
  rw [hP]
  refine opK_call (ys := [.i .i64 5, .i .i64 2]) (segs_ok 5 2) (by simp) ?_
  rintro r rfl
  have e1 : marks (cutZ 2) (many 5) = [0, 2, 4] := by decide
  have e2 : (segL (cutZ 2) 5 [0, 2, 4]).reverse = [(4, 5), (2, 4), (0, 2)] := by decide
  rw [e1, e2]
  simp [segs]
  refine AWp_seq (AWp_reg ?_)
  simp only [runK_cons, stepK_none]
  rw [hP]
  refine opK_call (ys := [.i .i64 5, .i .i64 2]) (marks_ok 5 2) (by simp) ?_
  rintro r ⟨f, rfl, _, _⟩
  rw [e1]
  simp [ints]
  refine AWp_seq (AWp_reg ?_)
  simp
  refine AWp_ret ?_
  simp
end Go.Proofs.Ytoddiifgfjibfaa
