/-
  Push, Top and Pop of a pile of segments, walked.
-/
import Derived.Test.YtoddiifgfjibfaaPart1
import Derived.Test.YtoddiifgfjibfaaAb24
namespace Go.Proofs.Ytoddiifgfjibfaa
open Go Go.Ab

def segs (l : List (Int × Int)) : List (List AV) := l.map fun p => [.i .i64 p.1, .i .i64 p.2]

def pile (g0 g1 n : Nat) (els : List (List AV)) : Heap := [(.loc 5, ⟨g0, .str, 1, [[.bs (.bor 1) g1 2 0 n]]⟩), (.bor 1, ⟨g1, .own, 2, els⟩)]

theorem push_ok (g0 g1 clk : Nat) (l : List (Int × Int)) (a b : Int) (hl : l.length < 1000) :
    ACall Try.prog 16 [.ptr (.loc 5) g0 1 0 0, .sl [[.i .i64 a, .i .i64 b]] .fu] (pile g0 g1 l.length (segs l)) clk
      (fun r h _ => r = .tup [] ∧ ∃ g1', h = pile g0 g1' (l.length + 1) (segs (l ++ [(a, b)]))) := by
  refine acall_of' r16 mixed rfl fun cx hP _ => ?_
  unfold a16
  refine AWp_reg ?_
  simp [pile, segs, List.take_of_length_le]
  refine ⟨by omega, ?_⟩
  exact exitC_intro (r := .tup []) (pile g0 clk (l.length + 1) (segs (l ++ [(a, b)]))) (clk + 1) (.inl rfl) (by simp) (by simp [pile, segs]) (by simp) ⟨rfl, clk, by simp [pile, segs]⟩

def last (l : List (Int × Int)) : AV := match l.getLast? with | some p => .agg [.i .i64 p.1, .i .i64 p.2] | none => .agg [.i .i64 0, .i .i64 0]

theorem top_ok (g0 g1 clk : Nat) (l m : List (Int × Int)) (hl : l.length < 1000) :
    ACall Try.prog 19 [.ptr (.loc 5) g0 1 0 0] (pile g0 g1 l.length (segs (l ++ m))) clk
      (fun r h _ => r = .tup [last l, .b (!l.isEmpty)] ∧ h = pile g0 g1 l.length (segs (l ++ m))) := by
  refine acall_of' r19 mixed rfl fun cx hP _ => ?_
  unfold a19
  refine AWp_seq (AWp_reg ?_)
  simp [pile]
  refine AWp_seq (AWp_seq (AWp_reg ?_))
  simp
  rcases List.eq_nil_or_concat l with rfl | ⟨l, p, rfl⟩
  · refine AWp_cond (t := true) (by simp) (fun _ => ?_) (fun h => by cases h)
    refine AWp_seq (AWp_reg ?_)
    simp
    refine AWp_seq (AWp_reg ?_)
    simp
    refine AWp_ret ?_
    exact exitC_intro (r := .tup [.agg [.i .i64 0, .i .i64 0], .b false]) (pile g0 g1 0 (segs m)) (clk + 2) (.inr rfl) (by simp) (by simp [pile, segs]) (by simp) ⟨by simp [last], by simp [pile]⟩
  · have hl' : l.length + 1 < 1000 := by simpa using hl
    refine AWp_cond (t := false) (by simp; omega) (fun h => by cases h) (fun _ => AWp_skip ?_)
    simp
    refine AWp_seq (AWp_draw ?_)
    have hw : IntKind.wrap .i64 (l.length : Int) = l.length := wrap_i64 _ (by omega)
    simp [hw, segs]
    refine ⟨by omega, ?_⟩
    refine AWp_ret ?_
    exact exitC_intro (r := .tup [.agg [.i .i64 p.1, .i .i64 p.2], .b true]) (pile g0 g1 (l.length + 1) (segs (l ++ p :: m))) (clk + 1) (.inr rfl) (by simp) (by simp [pile, segs]) (by simp) ⟨by simp [last], by simp [pile, segs]⟩

theorem last_ref (h : Heap) (l : List (Int × Int)) (b : Bool) : refOk h (.tup [last l, .b b]) = true := by
  unfold last
  cases l.getLast? <;> simp [refOk, refOk1, refOkC]

set_option maxHeartbeats 2000000 in
theorem pop_ok (g0 g1 clk : Nat) (l m : List (Int × Int)) (hl : l.length < 1000) :
    ACall Try.prog 18 [.ptr (.loc 5) g0 1 0 0] (pile g0 g1 l.length (segs (l ++ m))) clk
      (fun r h _ => r = .tup [last l, .b (!l.isEmpty)] ∧ ∃ g1' m', h = pile g0 g1' (l.length - 1) (segs (l.dropLast ++ m'))) := by
  refine acall_of' r18 mixed rfl fun cx hP _ => ?_
  unfold a18
  refine AWp_seq (AWp_reg ?_)
  simp [pile]
  refine AWp_seq (AWp_reg ?_)
  simp
  rw [hP]
  refine opK_callB (hb := pile g0 g1 l.length (segs (l ++ m))) (hr := [(.loc 2, ⟨clk, .str, 2, [[.i .i64 0, .i .i64 0]]⟩)]) (top_ok g0 g1 (clk + 1) l m hl) (by simp) (by intro id; simp [pile]; repeat' split <;> simp_all) (by simp [pile]) ?_
  rintro r hb' clk' hle ⟨rfl, rfl⟩
  refine ⟨by simp [pile], last_ref _ _ _, by simp [pile, heapOk, refOkC, segs], ?_⟩
  rcases List.eq_nil_or_concat l with rfl | ⟨l, p, rfl⟩
  · simp [pile, last]
    refine AWp_seq (AWp_seq (AWp_reg ?_))
    simp
    refine AWp_cond (t := false) (by simp) (fun h => by cases h) (fun _ => AWp_skip ?_)
    simp
    refine AWp_seq (AWp_reg ?_)
    simp
    refine AWp_ret ?_
    exact exitC_intro (r := .tup [.agg [.i .i64 0, .i .i64 0], .b false]) (pile g0 g1 0 (segs m)) (clk' + 1) (.inr rfl) (by simp) (by simp [pile, segs]) (by simp) ⟨by simp [last], g1, m, by simp [pile]⟩
  · have hl' : l.length + 1 < 1000 := by simpa using hl
    have hw : IntKind.wrap .i64 (l.length : Int) = l.length := wrap_i64 _ (by omega)
    simp [pile, last]
    refine AWp_seq (AWp_seq (AWp_reg ?_))
    simp
    refine AWp_cond (t := true) (by simp) (fun _ => ?_) (fun h => by cases h)
    refine AWp_seq (AWp_reg ?_)
    simp
    refine AWp_seq ?_
    have z0 : (4, (.ptr (.loc 4) clk' 2 0 0 : AV)) = (4, .ptr (.loc 4) clk' 2 0 0) := rfl
    refine AWp.sub (st' := ⟨[(0, .ptr (.loc 5) g0 1 0 0), (2, .ptr (.loc 2) clk 2 0 0), (4, .ptr (.loc 4) clk' 2 0 0), (5, .b true), (6, .ptr (.loc 6) (clk' + 1) 2 0 0)],
      [(.loc 5, ⟨g0, .str, 1, [[.bs (.bor 1) g1 2 0 (l.length + 1)]]⟩), (.bor 1, ⟨g1, .own, 2, segs (l ++ p :: m)⟩), (.loc 2, ⟨clk, .str, 2, [[.i .i64 0, .i .i64 0]]⟩), (.loc 4, ⟨clk', .str, 2, [[.i .i64 p.1, .i .i64 p.2]]⟩), (.loc 6, ⟨clk' + 1, .str, 2, [[.i .i64 0, .i .i64 0]]⟩)], clk' + 2⟩) (Sub_intro (by simp) (by simp) (by simp)) ?_
    refine AWp_draw ?_
    simp [hw, segs]
    refine ⟨by omega, ?_⟩
    refine AWp.sub (st' := ⟨[(0, .ptr (.loc 5) g0 1 0 0), (2, .ptr (.loc 2) clk 2 0 0), (4, .ptr (.loc 4) clk' 2 0 0), (5, .b true)],
      [(.loc 5, ⟨g0, .str, 1, [[.bs (.bor 1) g1 2 0 (l.length + 1)]]⟩), (.bor 1, ⟨g1, .own, 2, segs (l ++ (0, 0) :: m)⟩), (.loc 2, ⟨clk, .str, 2, [[.i .i64 0, .i .i64 0]]⟩), (.loc 4, ⟨clk', .str, 2, [[.i .i64 p.1, .i .i64 p.2]]⟩)], clk' + 2⟩) (Sub_intro (by simp) (by simp [segs]) (by simp)) ?_
    refine AWp_draw ?_
    simp [hw, segs]
    refine AWp_seq (AWp_reg ?_)
    simp
    refine AWp_ret ?_
    exact exitC_intro (r := .tup [.agg [.i .i64 p.1, .i .i64 p.2], .b true]) (pile g0 g1 l.length (segs (l ++ (0, 0) :: m))) (clk' + 2) (.inr rfl) (by simp) (by simp [pile, segs]) (by simp) ⟨by simp, g1, (0, 0) :: m, by simp [pile, segs]⟩
end Go.Proofs.Ytoddiifgfjibfaa
