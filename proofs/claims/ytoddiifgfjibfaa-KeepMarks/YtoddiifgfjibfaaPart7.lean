/-
  KeepMarks walked: at every n and k it returns true.
-/
import Derived.Test.YtoddiifgfjibfaaPart6
namespace Go.Proofs.Ytoddiifgfjibfaa
open Go Go.Ab

theorem seg_at (k n : Int) (j : Nat) (hj : j < (marks (cutZ k) (many n)).length) :
    pairZ (cutZ k) n (marks (cutZ k) (many n))[j] = ((marks (cutZ k) (many n))[j], (marks (cutZ k) (many n)).getD (j + 1) n) := by
  have hc := cutZ_pos k
  obtain ⟨q, hq⟩ : ∃ q : Nat, cutZ k = q := ⟨(cutZ k).toNat, by omega⟩
  have e : marks (cutZ k) (many n) = marks q (many n) := by rw [hq]
  rw [hq] at hc
  simp only [hq] at hj ⊢
  have hN : 0 < many n := by
    have := marks_len q (many n)
    omega
  have := marks_seg q (many n) (by omega) n rfl hN j hj
  rw [this]
  congr 1
  rw [List.getD_eq_getElem?_getD]
  split
  · rename_i h; simp [h]
  · rename_i h; rw [List.getElem?_eq_none (by omega)]; rfl

theorem keepMarks_ok (n k : Int) : PCall Try.prog 3 [.i .i64 n, .i .i64 k] (· = .b true) := by
  refine pcall_of r3 mixed rfl fun cx hP _ => ?_
  unfold a3
  have hmany : many n ≤ 200 := by unfold many; split <;> omega
  have hM0 := marks_len (cutZ k) (many n)
  have hseg := seg_at k n
  have hr5 := refMarks_ok n k
  have e0 : (if n ≤ 200 then n.toNat else 0) = many n := rfl
  rw [e0] at hr5
  have hr6 := segs_ok n k
  have hr8 := marks_ok n k
  generalize hMd : marks (cutZ k) (many n) = M at *
  have hK : M.length ≤ 200 := by omega
  refine AWp_seq (AWp_reg ?_)
  simp
  refine AWp_seq (AWp_reg ?_)
  simp
  rw [hP]
  refine opK_call (ys := [.i .i64 n, .i .i64 k]) hr5 (by simp) ?_
  rintro r rfl
  simp
  refine AWp_seq (AWp_reg ?_)
  simp
  rw [hP]
  refine opK_call (ys := [.i .i64 n, .i .i64 k]) hr6 (by simp) ?_
  rintro r rfl
  simp
  refine AWp_seq (AWp_seq (AWp_reg ?_))
  simp
  rw [hP]
  refine opK_call (ys := [.i .i64 n, .i .i64 k]) hr8 (by simp) ?_
  rintro r ⟨f, rfl, _, _⟩
  simp
  refine opK_call (ys := [.sl (ints M) f, .sl (ints M) .an]) (sameInts_ok M M f .an (by omega)) (by simp) ?_
  rintro r rfl
  have hRl : (segs (segL (cutZ k) n M).reverse).length = M.length := by simp [segL, segs]
  have hIl : (ints M).length = M.length := by simp [ints]
  have hR : ∀ i, i < M.length → (segs (segL (cutZ k) n M).reverse)[i]? = some [.i .i64 (M.getD (M.length - 1 - i) 0), .i .i64 (M.getD (M.length - i) n)] := by
    intro i hi
    have hj : M.length - 1 - i < M.length := by omega
    have h1 : (segL (cutZ k) n M).reverse[i]? = some (pairZ (cutZ k) n M[M.length - 1 - i]) := by
      rw [List.getElem?_reverse (by simp [segL]; omega)]
      simp [segL, hj]
    have h2 : (segs (segL (cutZ k) n M).reverse)[i]? = ((segL (cutZ k) n M).reverse[i]?).map fun p => [.i .i64 p.1, .i .i64 p.2] := by unfold segs; rw [List.getElem?_map]
    rw [h2, h1, hseg _ hj]
    have e1 : M.length - 1 - i + 1 = M.length - i := by omega
    simp [e1, hj]
  have hI : ∀ i, i < M.length → (ints M)[i]? = some [.i .i64 (M.getD i 0)] := by
    intro i hi
    simp [ints, hi]
  obtain ⟨E, hE0, hR', hI'⟩ : ∃ E : Nat → Int, E 0 = n ∧ (∀ i (h : i < (segs (segL (cutZ k) n M).reverse).length), (segs (segL (cutZ k) n M).reverse)[i] = [.i .i64 (E (i + 1)), .i .i64 (E i)]) ∧ ∀ i (h : M.length - 1 - i < (ints M).length), i < M.length → (ints M)[M.length - 1 - i] = [.i .i64 (E (i + 1))] := by
    refine ⟨fun i => M.getD (M.length - i) n, by simp, fun i h => ?_, fun i h hi => ?_⟩
    · have h2 := hR i (by omega)
      rw [List.getElem?_eq_getElem h] at h2
      injection h2 with h2
      rw [h2]
      have e1 : M.length - 1 - i = M.length - (i + 1) := by omega
      have e2 : M.length - (i + 1) < M.length := by omega
      simp [e1, e2]
    · have h2 := hI (M.length - 1 - i) (by omega)
      rw [List.getElem?_eq_getElem h] at h2
      injection h2 with h2
      rw [h2]
      have e1 : M.length - 1 - i = M.length - (i + 1) := by omega
      have e2 : M.length - (i + 1) < M.length := by omega
      simp [e1, e2]
  clear hR hI
  generalize segs (segL (cutZ k) n M).reverse = R at *
  generalize ints M = I at *
  simp [hRl, hIl]
  refine AWp_cond (t := false) (by simp) (fun h => by cases h) (fun _ => AWp_skip ?_)
  simp
  refine AWp_seq (AWp_reg ?_)
  simp
  refine AWp_seq (AWp_seq (AWp_reg ?_))
  simp
  refine AWp_block (AWp_loop (α := Nat)
    (fun i => ⟨[(5, .sl I .an), (6, .sl R .an), (7, .i .i64 (E i)), (8, .i .i64 i)], [], 0⟩)
    (fun i => i ≤ M.length) (fun i => M.length - i) 0 (Nat.zero_le _) ?_ ?_)
  · exact Sub_intro (by simp [hE0]) (by simp) (by simp)
  · intro i hi
    have hi : i ≤ M.length := hi
    by_cases h1 : i < M.length
    · refine AWp_seq (AWp_seq (AWp_reg ?_))
      simp [hRl, h1]
      refine AWp_cond (t := true) (by simp) (fun _ => AWp_skip ?_) (fun h => by cases h)
      simp
      have hw1 : IntKind.wrap .i64 ((M.length : Int) - 1) = ((M.length - 1 : Nat) : Int) := by rw [wrap_i64 _ (by omega)]; omega
      have hw2 : IntKind.wrap .i64 (((M.length - 1 : Nat) : Int) - i) = ((M.length - 1 - i : Nat) : Int) := by rw [wrap_i64 _ (by omega)]; omega
      have hw3 : IntKind.wrap .i64 ((i : Int) + 1) = ((i + 1 : Nat) : Int) := by rw [wrap_i64 _ (by omega)]; omega
      have hj : M.length - 1 - i < M.length := by omega
      have e2 : M.length - 1 - i = M.length - (i + 1) := by omega
      refine AWp_seq (AWp_block (AWp_seq (AWp_reg ?_)))
      simp [hw1, hw2, hj, hIl, hI', h1]
      refine AWp_seq (AWp_seq (AWp_reg ?_))
      simp [hRl, h1, hR']
      refine AWp_cond (t := false) (by simp) (fun h => by cases h) (fun _ => AWp_skip ?_)
      simp
      refine AWp_reg ?_
      simp
      refine AWp_reg ?_
      simp [hw3]
      exact ⟨i + 1, by omega, Sub_intro (by simp) (by simp) (by simp), by omega⟩
    · refine AWp_seq (AWp_seq (AWp_reg ?_))
      simp [hRl, h1]
      refine AWp_cond (t := false) (by simp) (fun h => by cases h) (fun _ => AWp_exit ?_)
      simp
      refine AWp_seq (AWp_reg ?_)
      simp
      rw [hP]
      refine opK_call (ys := []) works_ok (by simp) ?_
      rintro r rfl
      simp
      refine AWp_ret ?_
      simp
end Go.Proofs.Ytoddiifgfjibfaa
