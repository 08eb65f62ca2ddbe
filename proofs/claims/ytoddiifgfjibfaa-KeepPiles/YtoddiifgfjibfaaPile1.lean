/-
  A pile of numbers: Push, Top, Pop, Len and All, walked.
-/
import Derived.Test.YtoddiifgfjibfaaPartCode
import Derived.Test.YtoddiifgfjibfaaAb27
namespace Go.Proofs.Ytoddiifgfjibfaa
open Go Go.Ab

def nums (l : List Int) : List (List AV) := l.map fun x => [.i .i64 x]

def pileN (g0 g1 n : Nat) (els : List (List AV)) : Heap := [(.loc 3, ⟨g0, .str, 1, [[.bs (.bor 1) g1 1 0 n]]⟩), (.bor 1, ⟨g1, .own, 1, els⟩)]

def lastN (l : List Int) : Int := l.getLast?.getD 0

theorem pushN_ok (g0 g1 clk : Nat) (l m ys : List Int) (f : Fl) (hl : l.length + ys.length < 100000) :
    ACall Try.prog 12 [.ptr (.loc 3) g0 1 0 0, .sl (nums ys) f] (pileN g0 g1 l.length (nums (l ++ m))) clk
      (fun r h _ => r = .tup [] ∧ ∃ g1', h = pileN g0 g1' (l ++ ys).length (nums (l ++ ys))) := by
  refine acall_of' r12 mixed rfl fun cx hP _ => ?_
  unfold a12
  refine AWp_reg ?_
  have hz : rowZ 1 (nums ys) = true := by
    unfold rowZ nums
    cases ys <;> simp
  have hz2 : (Option.all (fun r : List AV => decide (r.length = 1)) (nums ys).head?) = true := by cases ys <;> simp [nums]
  have hn : (nums ys).length = ys.length := by simp [nums]
  have hn2 : (nums (l ++ m)).length = l.length + m.length := by simp [nums]
  have ht : (nums (l ++ m)).take l.length = nums l := by simp [nums]
  simp [pileN, hz2, hn, hn2, ht]
  refine ⟨by omega, ?_⟩
  exact exitC_intro (r := .tup []) (pileN g0 clk (l.length + ys.length) (nums l ++ nums ys)) (clk + 1) (.inl rfl) (by simp) (by simp [pileN]) (by simp) ⟨rfl, clk, by simp [pileN, nums]⟩

theorem topN_ok (g0 g1 clk : Nat) (l m : List Int) (hl : l.length < 100000) :
    ACall Try.prog 11 [.ptr (.loc 3) g0 1 0 0] (pileN g0 g1 l.length (nums (l ++ m))) clk
      (fun r h _ => r = .tup [.i .i64 (lastN l), .b (!l.isEmpty)] ∧ h = pileN g0 g1 l.length (nums (l ++ m))) := by
  refine acall_of' r11 mixed rfl fun cx hP _ => ?_
  unfold a11
  refine AWp_seq (AWp_reg ?_)
  simp [pileN]
  refine AWp_seq (AWp_seq (AWp_reg ?_))
  simp
  rcases List.eq_nil_or_concat l with rfl | ⟨l, p, rfl⟩
  · refine AWp_cond (t := true) (by simp) (fun _ => ?_) (fun h => by cases h)
    refine AWp_seq (AWp_reg ?_)
    simp
    refine AWp_seq (AWp_reg ?_)
    simp
    refine AWp_ret ?_
    exact exitC_intro (r := .tup [.i .i64 0, .b false]) (pileN g0 g1 0 (nums m)) clk (.inr rfl) (by simp) (by simp [pileN]) (by simp) ⟨by simp [lastN], by simp [pileN]⟩
  · have hl' : l.length + 1 < 100000 := by simpa using hl
    refine AWp_cond (t := false) (by simp; omega) (fun h => by cases h) (fun _ => AWp_skip ?_)
    simp
    refine AWp_seq (AWp_draw ?_)
    have hw : IntKind.wrap .i64 (l.length : Int) = l.length := wrap_i64 _ (by omega)
    simp [hw, nums]
    refine ⟨by omega, ?_⟩
    refine AWp_ret ?_
    exact exitC_intro (r := .tup [.i .i64 p, .b true]) (pileN g0 g1 (l.length + 1) (nums (l ++ p :: m))) clk (.inr rfl) (by simp) (by simp [pileN, nums]) (by simp) ⟨by simp [lastN], by simp [pileN, nums]⟩

theorem lenN_ok (g0 g1 clk : Nat) (l m : List Int) :
    ACall Try.prog 13 [.ptr (.loc 3) g0 1 0 0] (pileN g0 g1 l.length (nums (l ++ m))) clk
      (fun r h _ => r = .i .i64 l.length ∧ h = pileN g0 g1 l.length (nums (l ++ m))) := by
  refine acall_of' r13 mixed rfl fun cx hP _ => ?_
  unfold a13
  refine AWp_seq (AWp_reg ?_)
  simp [pileN]
  refine AWp_seq (AWp_reg ?_)
  simp
  refine AWp_ret ?_
  exact exitC_intro (r := .i .i64 l.length) (pileN g0 g1 l.length (nums (l ++ m))) clk (.inr rfl) (by simp) (by simp [pileN]) (by simp) ⟨rfl, by simp [pileN]⟩

theorem allN_ok (g0 g1 clk : Nat) (l m : List Int) (hl : l.length < 100000) :
    ACall Try.prog 14 [.ptr (.loc 3) g0 1 0 0] (pileN g0 g1 l.length (nums (l ++ m))) clk
      (fun r h _ => r = .sl (nums l) .an ∧ h = pileN g0 g1 l.length (nums (l ++ m))) := by
  refine acall_of' r14 mixed rfl fun cx hP _ => ?_
  unfold a14
  have hn2 : (nums (l ++ m)).length = l.length + m.length := by simp [nums]
  have ht : (nums (l ++ m)).take l.length = nums l := by simp [nums]
  have hn : (nums l).length = l.length := by simp [nums]
  have ht2 : (nums l).take l.length = nums l := by simp [nums, List.take_of_length_le]
  refine AWp_seq (AWp_reg ?_)
  simp [pileN]
  refine AWp_seq (AWp_reg ?_)
  simp [hn2, ht, hn]
  refine ⟨by omega, ?_⟩
  refine AWp.freeze 2 (y := .sl (nums l) .an) (by simp [hn, ht2]) ?_
  refine AWp_ret ?_
  exact exitC_intro (r := .sl (nums l) .an) (pileN g0 g1 l.length (nums (l ++ m))) (clk + 1) (.inr rfl) (by simp) (by simp [pileN]) (by simp) ⟨rfl, by simp [pileN]⟩
end Go.Proofs.Ytoddiifgfjibfaa
