/-
  KeepPiles walked: of any calls it returns true.
-/
import Derived.Test.YtoddiifgfjibfaaPile2
namespace Go.Proofs.Ytoddiifgfjibfaa
open Go Go.Ab

structure Op1 where
  k : Int
  l : List Int
  f : Fl

def opRow (o : Op1) : List AV := [.i .i64 o.k, .sl (nums o.l) o.f]

structure PS where
  l : List Int
  m : List Int
  g0 : Nat
  g1 : Nat
  q : List Int
  m4 : List Int
  g4 : Nat
  clk : Nat
  x : Int

/-- the state of the loop: the pile, the list of the document, the number of the call -/
def stP (ops : List Op1) (f : Fl) (i : Nat) (env : Env) (y : PS) : St :=
  ⟨env ++ [(0, .sl (ops.map opRow) f), (3, .ptr (.loc 3) y.g0 1 0 0), (4, .bs (.loc 62) y.g4 1 0 y.q.length), (5, .i .i64 i)],
    pileN y.g0 y.g1 y.l.length (nums (y.l ++ y.m)) ++ [(.loc 62, ⟨y.g4, .own, 1, nums (y.q ++ y.m4)⟩)], y.clk⟩

theorem bodyOps (o : Op1) : (opRow o).length = 2 := rfl

set_option maxHeartbeats 4000000 in
theorem keepPiles_ok (ops : List Op1) (f : Fl) (hw0 : PCall Try.prog 9 [] (· = .b true)) (hs : ∀ (l m : List Int) (f f' : Fl), l.length ≤ 1000000 → PCall Try.prog 7 [.sl (nums l) f, .sl (nums m) f'] (· = .b (decide (l = m)))) :
    PCall Try.prog 4 [.sl (ops.map opRow) f] (· = .b true) := by
  refine pcall_of r4 mixed rfl fun cx hP _ => ?_
  unfold a4
  refine AWp_seq (AWp_reg ?_)
  simp
  by_cases hbig : 60 < ops.length
  · refine AWp_seq (AWp_seq (AWp_reg ?_))
    have hbig' : (60 : Int) < (ops.length : Int) := by omega
    simp [hbig, hbig']
    refine AWp_cond (t := true) (by simp [hbig]) (fun _ => ?_) (fun h => by cases h)
    refine AWp_seq (AWp_reg ?_)
    simp
    rw [hP]
    refine opK_call (ys := []) hw0 (by simp) ?_
    rintro r rfl
    simp
    refine AWp_ret ?_
    simp
  · refine AWp_seq (AWp_seq (AWp_reg ?_))
    have hbig' : ¬ (60 : Int) < (ops.length : Int) := by omega
    simp [hbig, hbig']
    refine AWp_cond (t := false) (by simp [hbig]) (fun h => by cases h) (fun _ => AWp_skip ?_)
    simp
    refine AWp_seq (AWp_reg ?_)
    simp
    refine AWp_seq (AWp_reg ?_)
    simp
    refine AWp_seq (AWp_seq (AWp_reg ?_))
    simp
    refine AWp.open_nil 4 (.loc 62) 1 rfl ?_
    refine AWp.open_fld (.loc 3) (.bor 1) 1 0 0 (bx := ⟨0, .str, 1, [[.sl [] .nl]]⟩) (r := [.sl [] .nl]) rfl rfl rfl rfl rfl ?_
    simp
    refine AWp_block (AWp_loop (α := Nat × PS) (fun y => stP ops f y.1 [] y.2) (fun y => y.1 ≤ ops.length ∧ y.2.q = y.2.l ∧ y.2.l.length ≤ y.1 * 20) (fun y => ops.length - y.1)
      (0, ⟨[], [], 0, 2, [], [], 1, 3, 0⟩) ⟨Nat.zero_le _, rfl, Nat.zero_le _⟩ ?_ ?_)
    · exact Sub_intro (by simp [stP]) (by simp [stP, pileN, nums]) (by simp [stP])
    · rintro ⟨i, ⟨l, m, g0, g1, q, m4, g4, clk, x⟩⟩ ⟨hi, hq, hl⟩
      have hi : i ≤ ops.length := hi
      have hq : q = l := hq
      have hl : l.length ≤ i * 20 := hl
      have hl0 : q.length ≤ i * 20 := by rw [hq]; exact hl
      subst hq
      by_cases h1 : i < ops.length
      · have h1' : (i : Int) < (ops.length : Int) := by omega
        refine AWp_seq (AWp_seq (AWp_reg ?_))
        simp [stP, h1, h1']
        refine AWp_cond (t := true) (by simp [h1]) (fun _ => AWp_skip ?_) (fun h => by cases h)
        simp
        refine AWp_seq (AWp_block (AWp_seq (AWp_seq (AWp_reg ?_))))
        obtain ⟨o, ho⟩ : ∃ o, ops[i] = o := ⟨_, rfl⟩
        have hlo : (nums o.l).length = o.l.length := by simp [nums]
        simp [h1, ho, bodyOps, opRow, hlo]
        by_cases h20 : 20 < o.l.length
        · have h20' : (20 : Int) < (o.l.length : Int) := by omega
          refine AWp_cond (t := true) (by simp; exact h20') (fun _ => ?_) (fun h => by cases h)
          refine AWp_seq (AWp_reg ?_)
          simp
          rw [hP]
          refine opK_call (ys := []) hw0 (by simp) ?_
          rintro r rfl
          simp
          refine AWp_ret ?_
          simp
        have h20' : ¬ (20 : Int) < (o.l.length : Int) := by omega
        refine AWp_cond (t := false) (by simp; omega) (fun h => by cases h) (fun _ => AWp_skip ?_)
        simp
        refine AWp_seq (AWp_reg ?_)
        simp
        refine AWp_seq (AWp_reg ?_)
        simp
        refine AWp.sub (st' := stP ops f i [(6, .i .i64 0), (7, .b false)] ⟨q, m, g0, g1, q, m4, g4, clk, 0⟩) (Sub_intro (by simp [stP]) (by simp [stP, pileN]) (by simp [stP])) ?_
        refine AWp_mid (α := PS) (fun y => stP ops f i [(6, .i .i64 (lastN y.q)), (7, .b (!y.q.isEmpty))] y)
          (fun y => y.q = (if o.k = 2 ∨ o.k = 3 ∨ o.k = 4 then q else q ++ o.l) ∧ y.l = (if o.k = 2 ∨ o.k = 3 then y.q.dropLast else y.q) ∧ y.g0 = g0) ?_ ?_
        · by_cases hk2 : o.k = 2 ∨ o.k = 3
          · have hk2b : (o.k == 2 || o.k == 3) = true := by simpa using hk2
            refine AWp_seq (AWp_reg ?_)
            rcases hk2 with hk | hk
            · simp [stP, h1, ho, opRow, hk]
              refine AWp_cond (t := true) (by simp) (fun _ => ?_) (fun h => by cases h)
              refine AWp.sub (st' := stP ops f i [] ⟨q, m, g0, g1, q, m4, g4, clk, 0⟩) (Sub_intro (by simp [stP]) (by simp [stP, pileN]) (by simp [stP])) ?_
              refine AWp_reg ?_
              simp [stP]
              rw [hP]
              refine opK_callB (hb := pileN g0 g1 q.length (nums (q ++ m))) (hr := [(.loc 62, ⟨g4, .own, 1, nums (q ++ m4)⟩)]) (popN_ok g0 g1 clk q m (by omega)) (by simp) (by intro id; simp [pileN]) (by simp [pileN]) ?_
              rintro r hb' clk' hle ⟨rfl, g1', m', rfl⟩
              refine ⟨by simp [pileN], by simp [refOk, refOk1, refOkC], by simp [pileN, heapOk, refOkC, nums], ?_⟩
              simp
              refine ⟨⟨q.dropLast, m', g0, g1', q, m4, g4, clk', 0⟩, ⟨rfl, rfl, rfl⟩, Sub_intro (by simp [stP]) (by simp [stP, pileN]) (by simp [stP])⟩
            · simp [stP, h1, ho, opRow, hk]
              refine AWp_cond (t := true) (by simp) (fun _ => ?_) (fun h => by cases h)
              refine AWp.sub (st' := stP ops f i [] ⟨q, m, g0, g1, q, m4, g4, clk, 0⟩) (Sub_intro (by simp [stP]) (by simp [stP, pileN]) (by simp [stP])) ?_
              refine AWp_reg ?_
              simp [stP]
              rw [hP]
              refine opK_callB (hb := pileN g0 g1 q.length (nums (q ++ m))) (hr := [(.loc 62, ⟨g4, .own, 1, nums (q ++ m4)⟩)]) (popN_ok g0 g1 clk q m (by omega)) (by simp) (by intro id; simp [pileN]) (by simp [pileN]) ?_
              rintro r hb' clk' hle ⟨rfl, g1', m', rfl⟩
              refine ⟨by simp [pileN], by simp [refOk, refOk1, refOkC], by simp [pileN, heapOk, refOkC, nums], ?_⟩
              simp
              refine ⟨⟨q.dropLast, m', g0, g1', q, m4, g4, clk', 0⟩, ⟨rfl, rfl, rfl⟩, Sub_intro (by simp [stP]) (by simp [stP, pileN]) (by simp [stP])⟩
          · have hk2a : o.k ≠ 2 := fun h => hk2 (.inl h)
            have hk3a : o.k ≠ 3 := fun h => hk2 (.inr h)
            refine AWp_seq (AWp_reg ?_)
            simp [stP, h1, ho, opRow, hk2a, hk3a]
            refine AWp_cond (t := false) (by simp [hk2a, hk3a]) (fun h => by cases h) (fun _ => ?_)
            refine AWp.sub (st' := stP ops f i [(6, .i .i64 0), (7, .b false)] ⟨q, m, g0, g1, q, m4, g4, clk, 0⟩) (Sub_intro (by simp [stP]) (by simp [stP, pileN]) (by simp [stP])) ?_
            refine AWp_seq (AWp_reg ?_)
            simp [stP, h1, ho, opRow]
            by_cases hk4 : o.k = 4
            · refine AWp_cond (t := true) (by simp [hk4]) (fun _ => ?_) (fun h => by cases h)
              refine AWp.sub (st' := stP ops f i [] ⟨q, m, g0, g1, q, m4, g4, clk, 0⟩) (Sub_intro (by simp [stP]) (by simp [stP, pileN]) (by simp [stP])) ?_
              refine AWp_reg ?_
              simp [stP]
              rw [hP]
              refine opK_callB (hb := pileN g0 g1 q.length (nums (q ++ m))) (hr := [(.loc 62, ⟨g4, .own, 1, nums (q ++ m4)⟩)]) (topN_ok g0 g1 clk q m (by omega)) (by simp) (by intro id; simp [pileN]) (by simp [pileN]) ?_
              rintro r hb' clk' hle ⟨rfl, rfl⟩
              refine ⟨by simp [pileN], by simp [refOk, refOk1, refOkC], by simp [pileN, heapOk, refOkC, nums], ?_⟩
              simp
              refine ⟨⟨q, m, g0, g1, q, m4, g4, clk', 0⟩, ⟨by simp [hk4], by simp [hk2], rfl⟩, Sub_intro (by simp [stP]) (by simp [stP, pileN]) (by simp [stP])⟩
            · refine AWp_cond (t := false) (by simp [hk4]) (fun h => by cases h) (fun _ => ?_)
              refine AWp.sub (st' := stP ops f i [(6, .i .i64 0)] ⟨q, m, g0, g1, q, m4, g4, clk, 0⟩) (Sub_intro (by simp [stP]) (by simp [stP, pileN]) (by simp [stP])) ?_
              refine AWp_seq (AWp_reg ?_)
              simp [stP, h1, ho, opRow]
              rw [hP]
              refine opK_callB (hb := pileN g0 g1 q.length (nums (q ++ m))) (hr := [(.loc 62, ⟨g4, .own, 1, nums (q ++ m4)⟩)]) (pushN_ok g0 g1 clk q m o.l o.f (by omega)) (by simp) (by intro id; simp [pileN]) (by simp [pileN]) ?_
              rintro r hb' clk' hle ⟨rfl, g1', rfl⟩
              refine ⟨by simp [pileN], by simp [refOk, refOk1, refOkC], by simp [pileN, heapOk, refOkC, nums], ?_⟩
              simp
              refine AWp.sub (st' := stP ops f i [(6, .i .i64 0)] ⟨q ++ o.l, [], g0, g1', q, m4, g4, clk', 0⟩) (Sub_intro (by simp [stP]) (by simp [stP, pileN]) (by simp [stP])) ?_
              have hqz : rowZ 1 (nums q) = true := by
                unfold rowZ nums
                cases q <;> simp
              have hz2 : (Option.all (fun r : List AV => decide (r.length = 1)) (nums o.l).head?) = true := by cases o.l <;> simp [nums]
              have hnq : (nums q).length = q.length := by simp [nums]
              have hn2 : (nums (q ++ m4)).length = q.length + m4.length := by simp [nums]
              have ht : (nums (q ++ m4)).take q.length = nums q := by simp [nums, List.take_of_length_le]
              have ht2 : (nums q).take q.length = nums q := by simp [nums, List.take_of_length_le]
              refine AWp_seq (AWp_draw ?_)
              simp [stP, pileN, h1, ho, opRow, hz2, hnq, hn2, ht, ht2, hlo]
              refine ⟨by omega, by omega, ?_⟩
              generalize hqo : q ++ o.l = Q
              have hQl : Q.length = q.length + o.l.length := by rw [← hqo]; simp
              have hQn : nums q ++ nums o.l = nums Q := by rw [← hqo]; simp [nums]
              refine AWp.sub (st' := stP ops f i [(6, .i .i64 0)] ⟨Q, [], g0, g1', Q, [], clk' + 1, clk' + 2, 0⟩) (Sub_intro (by simp [stP, hQl]) (by simp [stP, pileN, hQl, hQn]) (by simp [stP])) ?_
              refine AWp_seq (AWp_reg ?_)
              simp [stP, pileN]
              refine AWp_seq (AWp_reg ?_)
              simp
              rcases List.eq_nil_or_concat Q with rfl | ⟨Q, p, rfl⟩
              · refine AWp_cond (t := false) (by simp) (fun h => by cases h) (fun _ => AWp_skip ?_)
                simp
                exact ⟨⟨[], [], g0, g1', [], [], clk' + 1, clk' + 2, 0⟩, ⟨by simp [hk2a, hk3a, hk4, hqo], by simp [hk2], rfl⟩, Sub_intro (by simp [stP, lastN]) (by simp [stP, pileN]) (by simp [stP])⟩
              · have hQ2 : Q.length + 1 = q.length + o.l.length := by simpa using hQl
                have hw : IntKind.wrap .i64 (Q.length : Int) = Q.length := wrap_i64 _ (by omega)
                refine AWp_cond (t := true) (by simp) (fun _ => ?_) (fun h => by cases h)
                refine AWp_reg ?_
                simp [hw, nums]
                refine ⟨by omega, ?_⟩
                exact ⟨⟨Q ++ [p], [], g0, g1', Q ++ [p], [], clk' + 1, clk' + 2, 0⟩, ⟨by simp [hk2a, hk3a, hk4, hqo], by simp [hk2], rfl⟩, Sub_intro (by simp [stP, lastN]) (by simp [stP, pileN, nums]) (by simp [stP])⟩
        · rintro ⟨P, m1, g0', g1, Q, m4, g4, clk, x⟩ ⟨hQ, hPQ, hg⟩
          have hg : g0' = g0 := hg
          subst hg
          have hQ : Q = (if o.k = 2 ∨ o.k = 3 ∨ o.k = 4 then q else q ++ o.l) := hQ
          have hPQ : P = (if o.k = 2 ∨ o.k = 3 then Q.dropLast else Q) := hPQ
          have hQlen : Q.length ≤ i * 20 + 20 := by
            rw [hQ]
            have := hl0
            split
            · omega
            · rw [List.length_append]; omega
          have hPlen : P.length ≤ Q.length := by rw [hPQ]; split <;> first | simp | omega
          refine AWp_mid (α := PS) (fun y => stP ops f i [(7, .b (!Q.isEmpty))] y) (fun y => y = ⟨P, m1, g0', g1, Q, m4, g4, clk, x⟩) ?_ ?_
          · refine AWp_seq (AWp_reg ?_)
            rcases List.eq_nil_or_concat Q with hQe | ⟨Q', p, hQe⟩
            · simp [stP, pileN, hQe, lastN]
              refine AWp_cond (t := false) (by simp) (fun h => by cases h) (fun _ => AWp_skip ?_)
              simp
              exact Sub_intro (by simp [stP, hQe]) (by simp [stP, pileN, hQe]) (by simp [stP])
            · have hl2 : Q'.length + 1 ≤ i * 20 + 20 := by rw [hQe] at hQlen; simpa using hQlen
              have hw : IntKind.wrap .i64 (Q'.length : Int) = Q'.length := wrap_i64 _ (by omega)
              simp [stP, pileN, hQe, lastN, hw, nums]
              refine ⟨by omega, ?_⟩
              refine AWp_cond (t := false) (by simp) (fun h => by cases h) (fun _ => AWp_skip ?_)
              simp
              exact Sub_intro (by simp) (by simp) (by simp)
          · rintro y rfl
            refine AWp_mid (α := PS) (fun y => stP ops f i [] y) (fun y => y.q = y.l ∧ y.l.length ≤ (i + 1) * 20) ?_ ?_
            · refine AWp_seq (AWp_reg ?_)
              by_cases hk : o.k = 2 ∨ o.k = 3
              · rw [if_pos hk] at hPQ
                rcases List.eq_nil_or_concat Q with hQe | ⟨Q', p, hQe⟩
                · have hPe : P = [] := by rw [hPQ, hQe]; rfl
                  simp [stP, pileN, hQe, hPe, h1, ho, opRow]
                  refine AWp_cond (t := false) (by simp) (fun h => by cases h) (fun _ => AWp_skip ?_)
                  simp
                  exact ⟨⟨[], m1, g0', g1, [], m4, g4, clk, 0⟩, ⟨rfl, Nat.zero_le _⟩, Sub_intro (by simp [stP]) (by simp [stP, pileN]) (by simp [stP])⟩
                · have hPe : P = Q' := by rw [hPQ, hQe]; simp
                  have hl2 : Q'.length + 1 ≤ i * 20 + 20 := by rw [hQe] at hQlen; simpa using hQlen
                  have hw : IntKind.wrap .i64 (Q'.length : Int) = Q'.length := wrap_i64 _ (by omega)
                  rcases hk with hk | hk
                  · simp [stP, pileN, hQe, hPe, h1, ho, opRow, hk]
                    refine AWp_cond (t := true) (by simp) (fun _ => ?_) (fun h => by cases h)
                    refine AWp.sub (st' := stP ops f i [] ⟨Q', m1, g0', g1, Q' ++ [p], m4, g4, clk, 0⟩) (Sub_intro (by simp [stP]) (by simp [stP, pileN]) (by simp [stP])) ?_
                    refine AWp_reg ?_
                    simp [stP, pileN, hw]
                    exact ⟨⟨Q', m1, g0', g1, Q', p :: m4, g4, clk, 0⟩, ⟨rfl, by show Q'.length ≤ _; omega⟩, Sub_intro (by simp [stP]) (by simp [stP, pileN]) (by simp [stP])⟩
                  · simp [stP, pileN, hQe, hPe, h1, ho, opRow, hk]
                    refine AWp_cond (t := true) (by simp) (fun _ => ?_) (fun h => by cases h)
                    refine AWp.sub (st' := stP ops f i [] ⟨Q', m1, g0', g1, Q' ++ [p], m4, g4, clk, 0⟩) (Sub_intro (by simp [stP]) (by simp [stP, pileN]) (by simp [stP])) ?_
                    refine AWp_reg ?_
                    simp [stP, pileN, hw]
                    exact ⟨⟨Q', m1, g0', g1, Q', p :: m4, g4, clk, 0⟩, ⟨rfl, by show Q'.length ≤ _; omega⟩, Sub_intro (by simp [stP]) (by simp [stP, pileN]) (by simp [stP])⟩
              · rw [if_neg hk] at hPQ
                have hka : o.k ≠ 2 := fun h => hk (.inl h)
                have hkb : o.k ≠ 3 := fun h => hk (.inr h)
                rcases List.eq_nil_or_concat Q with hQe | ⟨Q', p, hQe⟩
                · simp [stP, pileN, hQe, h1, ho, opRow]
                  refine AWp_cond (t := false) (by simp) (fun h => by cases h) (fun _ => AWp_skip ?_)
                  simp
                  exact ⟨⟨P, m1, g0', g1, Q, m4, g4, clk, 0⟩, ⟨hPQ.symm, by show P.length ≤ _; omega⟩, Sub_intro (by simp [stP, hQe]) (by simp [stP, pileN, hQe]) (by simp [stP])⟩
                · simp [stP, pileN, hQe, h1, ho, opRow, hka, hkb]
                  refine AWp_cond (t := false) (by simp [hka, hkb]) (fun h => by cases h) (fun _ => AWp_skip ?_)
                  simp
                  exact ⟨⟨P, m1, g0', g1, Q, m4, g4, clk, 0⟩, ⟨hPQ.symm, by show P.length ≤ _; omega⟩, Sub_intro (by simp [stP, hQe]) (by simp [stP, pileN, hQe]) (by simp [stP])⟩
            · rintro ⟨P, m1, g0', g1, Q, m4, g4, clk, x⟩ ⟨hyq, hyl⟩
              have hyq : Q = P := hyq
              have hyl : P.length ≤ (i + 1) * 20 := hyl
              subst hyq
              have ht : (nums (Q ++ m4)).take Q.length = nums Q := by simp [nums, List.take_of_length_le]
              have hn2 : (nums (Q ++ m4)).length = Q.length + m4.length := by simp [nums]
              refine AWp_seq (AWp_reg ?_)
              simp [stP]
              rw [hP]
              refine opK_callB (hb := pileN g0' g1 Q.length (nums (Q ++ m1))) (hr := [(.loc 62, ⟨g4, .own, 1, nums (Q ++ m4)⟩)]) (lenN_ok g0' g1 clk Q m1) (by simp) (by intro id; simp [pileN]) (by simp [pileN]) ?_
              rintro r hb' clk' hle ⟨rfl, rfl⟩
              refine ⟨by simp [pileN], rfl, by simp [pileN, heapOk, refOkC, nums], ?_⟩
              simp [pileN]
              refine opK_callB (hb := pileN g0' g1 Q.length (nums (Q ++ m1))) (hr := [(.loc 62, ⟨g4, .own, 1, nums (Q ++ m4)⟩)]) (allN_ok g0' g1 clk' Q m1 (by omega)) (by simp) (by intro id; simp [pileN]) (by simp [pileN]) ?_
              rintro r hb' clk2 hle2 ⟨rfl, rfl⟩
              refine ⟨by simp [pileN], rfl, by simp [pileN, heapOk, refOkC, nums], ?_⟩
              simp [pileN]
              refine opK_call (ys := [.sl (nums Q) .an, .sl (nums Q) .an]) (hs Q Q .an .an (by omega)) (by simp [ht, hn2]) ?_
              rintro r rfl
              simp
              refine AWp_cond (t := false) (by simp) (fun h => by cases h) (fun _ => AWp_skip ?_)
              simp
              refine AWp_reg ?_
              have hwi : IntKind.wrap .i64 ((i : Int) + 1) = (i : Int) + 1 := wrap_i64 _ (by omega)
              simp [hwi]
              exact ⟨i + 1, ⟨Q, m1, g0', g1, Q, m4, g4, clk2, 0⟩, ⟨by omega, rfl, hyl⟩, Sub_intro (by simp [stP]) (by simp [stP, pileN]) (by simp [stP]), by omega⟩
      · refine AWp_seq (AWp_seq (AWp_reg ?_))
        have h1' : ¬ (i : Int) < (ops.length : Int) := by omega
        simp [stP, h1, h1']
        refine AWp_cond (t := false) (by simp [h1]) (fun h => by cases h) (fun _ => AWp_exit ?_)
        simp
        refine AWp_seq (AWp_reg ?_)
        simp
        rw [hP]
        refine opK_call (ys := []) hw0 (by simp) ?_
        rintro r rfl
        simp
        refine AWp_ret ?_
        simp
end Go.Proofs.Ytoddiifgfjibfaa
