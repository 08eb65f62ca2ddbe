/-
  A pile of numbers: Pop, walked.
-/
import Derived.Test.YtoddiifgfjibfaaPile1
namespace Go.Proofs.Ytoddiifgfjibfaa
open Go Go.Ab

set_option maxHeartbeats 2000000 in
theorem popN_ok (g0 g1 clk : Nat) (l m : List Int) (hl : l.length < 100000) :
    ACall Try.prog 10 [.ptr (.loc 3) g0 1 0 0] (pileN g0 g1 l.length (nums (l ++ m))) clk
      (fun r h _ => r = .tup [.i .i64 (lastN l), .b (!l.isEmpty)] ∧ ∃ g1' m', h = pileN g0 g1' (l.length - 1) (nums (l.dropLast ++ m'))) := by
  refine acall_of' r10 mixed rfl fun cx hP _ => ?_
  unfold a10
  refine AWp_seq (AWp_reg ?_)
  simp
  refine AWp_seq (AWp_reg ?_)
  simp
  rw [hP]
  refine opK_callB (hb := pileN g0 g1 l.length (nums (l ++ m))) (hr := []) (topN_ok g0 g1 clk l m hl) (by simp) (by intro id; simp) (by simp) ?_
  rintro r hb' clk' hle ⟨rfl, rfl⟩
  refine ⟨by simp, by simp [refOk, refOk1, refOkC], by simp [pileN, heapOk, refOkC, nums], ?_⟩
  rcases List.eq_nil_or_concat l with rfl | ⟨l, p, rfl⟩
  · simp [pileN, lastN]
    refine AWp_seq (AWp_seq (AWp_reg ?_))
    simp
    refine AWp_cond (t := false) (by simp) (fun h => by cases h) (fun _ => AWp_skip ?_)
    simp
    refine AWp_seq (AWp_reg ?_)
    simp
    refine AWp_ret ?_
    exact exitC_intro (r := .tup [.i .i64 0, .b false]) (pileN g0 g1 0 (nums m)) clk' (.inr rfl) (by simp) (by simp [pileN]) (by simp) ⟨rfl, g1, m, by simp [pileN]⟩
  · have hl' : l.length + 1 < 100000 := by simpa using hl
    have hw : IntKind.wrap .i64 (l.length : Int) = l.length := wrap_i64 _ (by omega)
    simp [pileN, lastN]
    refine AWp_seq (AWp_seq (AWp_reg ?_))
    simp
    refine AWp_cond (t := true) (by simp) (fun _ => ?_) (fun h => by cases h)
    refine AWp_seq (AWp_reg ?_)
    simp
    refine AWp_seq ?_
    refine AWp.sub (st' := ⟨[(0, .ptr (.loc 3) g0 1 0 0), (4, .i .i64 p), (5, .b true), (6, .i .i64 0)], pileN g0 g1 (l.length + 1) (nums (l ++ p :: m)), clk'⟩) (Sub_intro (by simp) (by simp [pileN]) (by simp)) ?_
    refine AWp_draw ?_
    simp [hw, nums, pileN]
    refine ⟨by omega, ?_⟩
    refine AWp.sub (st' := ⟨[(0, .ptr (.loc 3) g0 1 0 0), (4, .i .i64 p), (5, .b true)], pileN g0 g1 (l.length + 1) (nums (l ++ 0 :: m)), clk'⟩) (Sub_intro (by simp) (by simp [pileN, nums]) (by simp)) ?_
    refine AWp_draw ?_
    simp [hw, nums, pileN]
    refine AWp_seq (AWp_reg ?_)
    simp
    refine AWp_ret ?_
    exact exitC_intro (r := .tup [.i .i64 p, .b true]) (pileN g0 g1 l.length (nums (l ++ 0 :: m))) clk' (.inr rfl) (by simp) (by simp [pileN, nums]) (by simp) ⟨by simp, g1, 0 :: m, by simp [pileN, nums]⟩
end Go.Proofs.Ytoddiifgfjibfaa
