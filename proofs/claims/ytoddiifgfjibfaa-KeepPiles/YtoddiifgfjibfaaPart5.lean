/-
  The segments between marks, walked.
-/
import Derived.Test.YtoddiifgfjibfaaPart2
import Derived.Test.YtoddiifgfjibfaaPart4
namespace Go.Proofs.Ytoddiifgfjibfaa
open Go Go.Ab

def pairZ (c n : Int) (m : Int) : Int × Int := (m, min (m + c) n)

def segL (c n : Int) (M : List Int) : List (Int × Int) := M.map (pairZ c n)

structure S1 where
  j : Nat
  g0 : Nat
  g1 : Nat
  clk : Nat

structure S2 where
  r : Nat
  g0 : Nat
  g1 : Nat
  g8 : Nat
  g9 : Nat
  clk : Nat
  m : List (Int × Int)

theorem last_of (L : List (Int × Int)) (r : Nat) (h : r + 1 ≤ L.length) : last (L.take (r + 1)) = .agg [.i .i64 (L[r]'(by omega)).1, .i .i64 (L[r]'(by omega)).2] := by
  have : L.take (r + 1) = L.take r ++ [L[r]'(by omega)] := by rw [List.take_add_one]; simp [show r < L.length by omega]
  unfold last
  rw [this, List.getLast?_concat]

def lastC (l : List (Int × Int)) : List AV := match l.getLast? with | some p => [.i .i64 p.1, .i .i64 p.2] | none => [.i .i64 0, .i .i64 0]
theorem last_eq (l : List (Int × Int)) : last l = .agg (lastC l) := by unfold last lastC; cases l.getLast? <;> rfl
theorem lastC_len (l : List (Int × Int)) : (lastC l).length = 2 := by unfold lastC; cases l.getLast? <;> rfl
theorem lastC_pure (l : List (Int × Int)) : (lastC l).all pureC = true := by unfold lastC; cases l.getLast? <;> rfl

set_option maxHeartbeats 2000000 in
theorem segs_ok (n k : Int) : PCall Try.prog 6 [.i .i64 n, .i .i64 k] (fun r => r = .sl (segs (segL (cutZ k) n (marks (cutZ k) (many n))).reverse) .an) := by
  refine pcall_of r6 mixed rfl fun cx hP _ => ?_
  unfold a6
  have hc := cutZ_pos k
  have hmany : many n ≤ 200 := by unfold many; split <;> omega
  have hM0 := marks_len (cutZ k) (many n)
  have hMb : ∀ x ∈ marks (cutZ k) (many n), 0 ≤ x ∧ x < 200 ∧ x < n := by
    have key : ∀ (c : Int) (N : Nat), ∀ x ∈ marks c N, 0 ≤ x ∧ x < N := by
      intro c N
      induction N with
      | zero => intro x hx; simp [marks] at hx
      | succ N ih =>
        intro x hx
        simp only [marks] at hx
        split at hx
        · rcases List.mem_append.1 hx with h | h
          · have := ih x h; omega
          · simp at h; omega
        · have := ih x hx; omega
    intro x hx
    have := key _ _ x hx
    unfold many at this
    split at this <;> omega
  generalize hMd : marks (cutZ k) (many n) = M at *
  refine AWp_seq (AWp_reg ?_)
  simp
  refine AWp_seq (AWp_reg ?_)
  simp
  refine AWp_seq (AWp_seq ?_)
  refine AWp.open_fld (.loc 5) (.bor 1) 2 0 0 (bx := ⟨0, .str, 1, [[.sl [] .nl]]⟩) (r := [.sl [] .nl]) rfl rfl rfl rfl rfl ?_
  refine AWp_reg ?_
  simp
  rw [hP]
  refine opK_call (ys := [.i .i64 n, .i .i64 k]) (marks_ok n k) (by simp) ?_
  rintro r ⟨f, rfl, _, hf⟩
  rw [hMd]
  have hsh : ∀ h : Heap, (if scalar (.sl (ints M) f) = true then h else shareIds [] h) = h := by intro h; split <;> rfl
  simp [hsh]
  refine AWp_block (AWp_loop (α := S1)
    (fun x => ⟨[(0, .i .i64 n), (1, .i .i64 k), (5, .ptr (.loc 5) x.g0 1 0 0), (13, .sl (ints M) f), (14, .i .i64 M.length), (15, .i .i64 x.j)], pile x.g0 x.g1 x.j (segs (segL (cutZ k) n (M.take x.j))), x.clk⟩)
    (fun x => x.j ≤ M.length) (fun x => M.length - x.j) ⟨0, 0, 1, 2⟩ (Nat.zero_le _) ?_ ?_)
  · exact Sub_intro (by simp [ints]) (by simp [pile, segL, segs]) (by simp)
  · rintro ⟨j, g0, g1, clk⟩ hI
    have hI : j ≤ M.length := hI
    by_cases hj : j < M.length
    · refine AWp_seq (AWp_reg ?_)
      simp [hj, pile]
      refine AWp_seq (AWp_cond (t := true) (by simp) (fun _ => AWp_skip ?_) (fun h => by cases h))
      simp
      refine AWp_seq (AWp_block (AWp_seq (AWp_reg ?_)))
      simp [hj, ints]
      have hb := hMb M[j] (List.getElem_mem hj)
      refine AWp_reg ?_
      simp
      rw [hP]
      refine opK_call (ys := [.i .i64 k]) (cut_ok k) (by simp) ?_
      rintro r rfl
      have hw : IntKind.wrap .i64 (M[j] + cutZ k) = M[j] + cutZ k := wrap_i64 _ (by omega)
      simp [hw]
      refine opK_callB (hb := pile g0 g1 j (segs (segL (cutZ k) n (M.take j)))) (hr := []) (xs := [.ptr (.loc 5) g0 1 0 0, .sl [[.i .i64 M[j], .i .i64 (min (M[j] + cutZ k) n)]] .fu]) (post := fun r h _ => r = .tup [] ∧ ∃ g1', h = pile g0 g1' (j + 1) (segs (segL (cutZ k) n (M.take (j + 1))))) ?_ ?_ (by intro id; simp [pile]) (by simp) ?_
      · have := push_ok g0 g1 clk (segL (cutZ k) n (M.take j)) M[j] (min (M[j] + cutZ k) n) (by simp [segL]; omega)
        have e1 : (segL (cutZ k) n (M.take j)).length = j := by simp [segL]; omega
        have e2 : segL (cutZ k) n (M.take j) ++ [(M[j], min (M[j] + cutZ k) n)] = segL (cutZ k) n (M.take (j + 1)) := by
          unfold segL
          rw [List.take_add_one, List.map_append]
          congr 1
          simp [hj, pairZ]
        rw [e1, e2] at this
        exact this
      · simp
        split <;> omega
      · rintro r hb' clk' hle ⟨rfl, g1', rfl⟩
        refine ⟨by simp, rfl, by simp [pile, heapOk, refOkC, segs], ?_⟩
        have hw2 : IntKind.wrap .i64 ((j : Int) + 1) = (j : Int) + 1 := wrap_i64 _ (by omega)
        simp
        refine AWp_reg ?_
        simp [hw2]
        exact ⟨⟨j + 1, g0, g1', clk'⟩, by show j + 1 ≤ _; omega, Sub_intro (by simp) (by simp [pile]) (by simp), by show _ - (j + 1) < _ - j; omega⟩
    · refine AWp_seq (AWp_reg ?_)
      simp [hj, pile]
      refine AWp_seq (AWp_cond (t := false) (by simp) (fun h => by cases h) (fun _ => AWp_exit ?_))
      simp
      obtain rfl : j = M.length := by omega
      have hL : (segL (cutZ k) n M).length = M.length := by simp [segL]
      rw [List.take_length]
      generalize hLd : segL (cutZ k) n M = L at *
      refine AWp_seq (AWp_reg ?_)
      simp
      refine AWp_seq (AWp_seq ?_)
      refine AWp.sub (st' := ⟨[(5, .ptr (.loc 5) g0 1 0 0), (8, .sl [] .nl)], pile g0 g1 L.length (segs (L ++ [])), clk⟩) (Sub_intro (by simp) (by simp [pile, hL]) (by simp)) ?_
      refine AWp_reg ?_
      simp only [runK_cons, stepK_none]
      rw [hP]
      refine opK_callB (hb := pile g0 g1 L.length (segs (L ++ []))) (hr := []) (pop_ok g0 g1 clk L [] (by omega)) (by simp) (by intro id; simp) (by simp) ?_
      rintro r hb' clk' hle ⟨rfl, g1', m, rfl⟩
      refine ⟨by simp, last_ref _ _ _, by simp [pile, heapOk, refOkC, segs], ?_⟩
      have hll := lastC_len L
      simp [last_eq, hll, pile]
      refine AWp.open_nil 8 (.loc 8) 2 rfl ?_
      simp
      refine AWp_block (AWp_loop (α := S2)
        (fun x => ⟨[(5, .ptr (.loc 5) x.g0 1 0 0), (8, .bs (.loc 8) x.g8 2 0 (L.drop x.r).length), (9, .ptr (.loc 9) x.g9 2 0 0), (10, .b (decide (0 < x.r)))],
          pile x.g0 x.g1 (x.r - 1) (segs (L.take (x.r - 1) ++ x.m)) ++ [(.loc 9, ⟨x.g9, .str, 2, [lastC (L.take x.r)]⟩), (.loc 8, ⟨x.g8, .own, 2, segs (L.drop x.r).reverse⟩)], x.clk⟩)
        (fun x => x.r ≤ L.length) (fun x => x.r) ⟨L.length, g0, g1', clk' + 1, clk', clk' + 2, m⟩ (Nat.le_refl _) ?_ ?_)
      · refine Sub_intro ?_ ?_ (by simp)
        · simp [List.isEmpty_iff]
          cases L <;> simp
        · simp [pile, segs, List.dropLast_eq_take]
      · rintro ⟨r, g0, g1, g8, g9, clk, m⟩ hI
        have hI : r ≤ L.length := hI
        cases r with
        | zero =>
          refine AWp_seq (AWp_seq (AWp_reg ?_))
          simp [pile]
          refine AWp_cond (t := false) (by simp) (fun h => by cases h) (fun _ => AWp_exit ?_)
          simp
          refine AWp_seq (AWp_reg ?_)
          simp
          refine AWp_ret ?_
          simp [segs, List.take_of_length_le]
        | succ r =>
          have hlast : last (L.take (r + 1)) = .agg [.i .i64 (L[r]'(by omega)).1, .i .i64 (L[r]'(by omega)).2] := last_of L r hI
          have hlc : lastC (L.take (r + 1)) = [.i .i64 (L[r]'(by omega)).1, .i .i64 (L[r]'(by omega)).2] := by
            rw [last_eq] at hlast
            injection hlast
          have hdrop : L.drop r = L[r]'(by omega) :: L.drop (r + 1) := List.drop_eq_getElem_cons (by omega)
          refine AWp_seq (AWp_seq (AWp_reg ?_))
          simp [pile]
          refine AWp_cond (t := true) (by simp) (fun _ => AWp_skip ?_) (fun h => by cases h)
          simp
          refine AWp_seq (AWp_block (AWp_reg ?_))
          simp [hlc, segs]
          refine ⟨by omega, ?_⟩
          refine AWp_seq (AWp_seq (AWp_reg ?_))
          simp
          refine AWp_reg ?_
          simp
          refine AWp.sub (st' := ⟨[(5, .ptr (.loc 5) g0 1 0 0), (8, .bs (.loc 8) clk 2 0 (L.drop r).length), (9, .ptr (.loc 9) (clk + 1) 2 0 0)], pile g0 g1 (L.take r).length (segs (L.take r ++ m)) ++ [(.loc 9, ⟨clk + 1, .str, 2, [lastC (L.take (r + 1))]⟩), (.loc 8, ⟨clk, .own, 2, segs (L.drop r).reverse⟩)], clk + 2⟩) ?_ ?_
          · refine Sub_intro ?_ ?_ (by simp)
            · simp
              omega
            · have e8 : segs (L.drop r).reverse = segs (L.drop (r + 1)).reverse ++ [[.i .i64 (L[r]'(by omega)).1, .i .i64 (L[r]'(by omega)).2]] := by
                rw [hdrop, List.reverse_cons]
                unfold segs
                rw [List.map_append]
                rfl
              have hmin : min r L.length = r := by omega
              rw [e8]
              simp [pile, segs, hlc, hmin, List.take_of_length_le]
          refine AWp_reg ?_
          simp only [runK_cons, stepK_none]
          rw [hP]
          refine opK_callB (hb := pile g0 g1 (L.take r).length (segs (L.take r ++ m))) (hr := [(.loc 9, ⟨clk + 1, .str, 2, [lastC (L.take (r + 1))]⟩), (.loc 8, ⟨clk, .own, 2, segs (L.drop r).reverse⟩)]) (pop_ok g0 g1 (clk + 2) (L.take r) m (by simp; omega)) (by simp) (by intro id; simp) (by simp [pile]) ?_
          rintro x hb' clk' hle ⟨rfl, g1', m', rfl⟩
          refine ⟨by simp [pile], last_ref _ _ _, by simp [pile, heapOk, refOkC, segs], ?_⟩
          have hll := lastC_len (L.take r)
          simp [last_eq, hll, pile, hlc]
          have hle2 : clk + 2 ≤ clk' := hle
          refine ⟨⟨r, g0, g1', clk, clk + 1, clk', m'⟩, by show r ≤ _; omega, Sub_intro ?_ ?_ (by simp), by show r < r + 1; omega⟩
          · simp
            cases r <;> simp
            intro h
            simp [h] at hI
          · have hmin : min r L.length = r := by omega
            have hmin2 : min (r - 1) r = r - 1 := by omega
            simp [List.dropLast_eq_take, hmin, segs, List.take_take, hmin2]
end Go.Proofs.Ytoddiifgfjibfaa
