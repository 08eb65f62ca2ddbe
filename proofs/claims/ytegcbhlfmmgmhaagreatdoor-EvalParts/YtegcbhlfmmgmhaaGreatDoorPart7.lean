/-
  A calculus of values, boxes and code, and what functions of the program compute, proved in it.
  Conditions: none beyond those that the theorems state. (Part 7.)
-/
import Derived.Test.YtegcbhlfmmgmhaaGreatDoorPart6
import Derived.Lib.IndexAny
import Derived.Lib.Bytealg

set_option linter.unusedSectionVars false
set_option linter.unusedVariables false
set_option linter.unusedSimpArgs false
set_option linter.unnecessarySimpa false

namespace Go.Ab
def dps (l : List Nat) : List (List AV) := l.map fun n => [.i .i64 (n : Nat)]
@[simp] theorem dps_length (l : List Nat) : (dps l).length = l.length := by simp [dps]
@[simp] theorem dps_wk (l : List Nat) : wkL (dps l) = dps l := by rw [wkL_map]; simp [dps, wkR, wkA]
@[simp] theorem dps_get (l : List Nat) (i : Nat) (h : i < (dps l).length) : (dps l)[i] = [.i .i64 (l[i]'(by simpa using h) : Nat)] := by simp [dps]
@[simp] theorem dps_take (l : List Nat) (n : Nat) : (dps l).take n = dps (l.take n) := by simp [dps]
@[simp] theorem dps_nil : dps [] = [] := rfl
theorem dps_push {m : List Nat} {n : Nat} (x : Nat) : wkL (dps (List.take n m) ++ [[.i .i64 (x : Nat)]]) = dps (List.take n m ++ [x]) := by
 have : dps (List.take n m) ++ [[.i .i64 (x : Nat)]] = dps (List.take n m ++ [x]) := by simp [dps]
 rw [this, dps_wk]
def depE (s : List Nat) (x : Nd) : List Nat := if arN x.op = 0 then 1 :: s else if arN x.op = 1 then (s.headD 0 + 1) :: s.tail else (max (s.headD 0) (s.tail.headD 0) + 1) :: s.tail.tail
def depS : List Nat → List Nd → List Nat
 | s, [] => s
 | s, x :: r => depS (depE s x) r
def depN (l : List Nd) : Nat := if wrongN l = -1 then (depS [] l).headD 0 else 0
theorem rowC_push {m : List (List Nd)} {n : Nat} (h : m.length = n) (x : List Nd) : wkL (rowC (List.take n m) ++ [[.sl (rowN x) .an]]) = rowC (m ++ [x]) := by
 rw [List.take_of_length_le (by omega), rowC_snoc, rowC_wk]
@[simp] theorem rowC_take (l : List (List Nd)) (n : Nat) : (rowC l).take n = rowC (l.take n) := by simp [rowC]
section
variable {T : Tbl} [CTree T] [CTree2 T]
theorem tree_copied (l : List Nd) (hl : l.length ≤ 4294967295) (hn : thin 1000 l) : callF T 483 [.sl (rowN l) .an] = some (.sl (rowN l) .an) := by
 have hlo : loopN T 0 0 (.norm false [3]) l483_0 ⟨[(3, .bs (.loc 3) 1 3 0 0), (6, .sl (rowN l) .an), (7, .i .i64 l.length), (8, .i .i64 0)], [(.loc 3, ⟨1, .own, 3, []⟩)], 3⟩ =
   some (.n, ⟨[(3, .bs (.loc 3) 1 3 0 l.length)], [(.loc 3, ⟨1, .own, 3, rowN l⟩)], 3⟩) := by
  have := range_loop (T := T) (k := 0) (id := 0) (g2 := .norm false [3]) (c := l483_0) (fun i => ⟨[(3, .bs (.loc 3) 1 3 0 i), (6, .sl (rowN l) .an), (7, .i .i64 l.length), (8, .i .i64 (i : Int))], [(.loc 3, ⟨1, .own, 3, rowN (l.take i)⟩)], 3⟩) l.length
   (some (.n, ⟨[(3, .bs (.loc 3) 1 3 0 l.length)], [(.loc 3, ⟨1, .own, 3, rowN l⟩)], 3⟩)) (fun i hi => ?_) ?_
  ·simpa using this
  ·have hg : l[i]? = some (l[i]'hi) := List.getElem?_eq_getElem hi
   have hi' : (i : Int) < l.length := by omega
   have hws := wrapS hi (by omega)
   have hs : l.take (i + 1) = l.take i ++ [l[i]'hi] := by rw [List.take_succ_eq_append_getElem hi]
   have hp := rowN_push (n := i) (show (l.take i).length = i by rw [List.length_take]; omega) (l[i]'hi)
   have hle : i ≤ (l.take i).length := by rw [List.length_take]; omega
   have h32 : i + 1 ≤ 4294967296 := by omega
   have hth := hn _ (List.getElem_mem hi)
   rw [hs]
   generalize hx : l[i]'hi = x at *
   generalize l.take i = m at *
   obtain ⟨op, j, n⟩ := x
   dsimp only at hth
   have hn32 : n.length ≤ 4294967296 := by omega
   clear hs hn
   simp -implicitDefEqProofs [l483_0, hi, hi', hg, hx, hws, hp, hle, h32, hn32]
  ·constructor <;> simp -implicitDefEqProofs [l483_0]
 rw [f483 _ rfl, b483]
 simp -implicitDefEqProofs [hlo]
def thinD (w n : Nat) (f : Fd) : Prop := ∀ c ∈ codesD f, c.length ≤ n ∧ thin w c
theorem tree_Codes (f : Fd) (h1 : f.lets.length ≤ 100000) (h2 : f.outs.length ≤ 100000) (hn : thinD 1000 4294967295 f) : callF T 493 [efd f] = some (.sl (rowC (codesD f)) .an) := by
 obtain ⟨L, O⟩ := f
 dsimp only at h1 h2
 have hL : loopN T 0 0 (.norm false [1, 3]) l493_0 ⟨[(1, .ptr (.loc 1) 1 2 0 0), (3, .bs (.loc 3) 2 1 0 0), (9, .sl (rowLt L) .an), (10, .i .i64 L.length), (11, .i .i64 0)], [(.loc 1, ⟨1, .str, 2, [[.sl (rowLt L) .an, .sl (rowC O) .an]]⟩), (.loc 3, ⟨2, .own, 1, []⟩)], 4⟩ =
   some (.n, ⟨[(1, .ptr (.loc 1) 1 2 0 0), (3, .bs (.loc 3) 2 1 0 L.length)], [(.loc 1, ⟨1, .str, 2, [[.sl (rowLt L) .an, .sl (rowC O) .an]]⟩), (.loc 3, ⟨2, .own, 1, rowC (L.map (·.code))⟩)], 4⟩) := by
  have := range_loop (T := T) (k := 0) (id := 0) (g2 := .norm false [1, 3]) (c := l493_0) (fun i => ⟨[(1, .ptr (.loc 1) 1 2 0 0), (3, .bs (.loc 3) 2 1 0 i), (9, .sl (rowLt L) .an), (10, .i .i64 L.length), (11, .i .i64 (i : Int))], [(.loc 1, ⟨1, .str, 2, [[.sl (rowLt L) .an, .sl (rowC O) .an]]⟩), (.loc 3, ⟨2, .own, 1, rowC ((L.take i).map (·.code))⟩)], 4⟩) L.length
   (some (.n, ⟨[(1, .ptr (.loc 1) 1 2 0 0), (3, .bs (.loc 3) 2 1 0 L.length)], [(.loc 1, ⟨1, .str, 2, [[.sl (rowLt L) .an, .sl (rowC O) .an]]⟩), (.loc 3, ⟨2, .own, 1, rowC (L.map (·.code))⟩)], 4⟩)) (fun i hi => ?_) ?_
  ·simpa using this
  ·have hg : L[i]? = some (L[i]'hi) := List.getElem?_eq_getElem hi
   have hi' : (i : Int) < L.length := by omega
   have hws := wrapS hi (by omega)
   have hs : (L.take (i + 1)).map (·.code) = (L.take i).map (·.code) ++ [(L[i]'hi).code] := by rw [List.take_succ_eq_append_getElem hi, List.map_append]; rfl
   have hml : ((L.take i).map (·.code)).length = i := by rw [List.length_map, List.length_take]; omega
   have hp := rowC_push (n := i) hml (L[i]'hi).code
   have hle : i ≤ ((L.take i).map (·.code)).length := by omega
   have h32 : i + 1 ≤ 4294967296 := by omega
   obtain ⟨hc1, hc2⟩ := hn (L[i]'hi).code (List.mem_append.2 (.inl (List.mem_map.2 ⟨_, List.getElem_mem hi, rfl⟩)))
   have cc := tree_copied (T := T) (L[i]'hi).code hc1 hc2
   rw [hs]
   generalize hx : L[i]'hi = x at *
   generalize (L.take i).map (·.code) = m at *
   obtain ⟨nm, code⟩ := x
   dsimp only at *
   clear hs hn
   simp -implicitDefEqProofs [l493_0, hi, hi', hg, hx, hws, hp, hle, h32, cc]
  ·constructor <;> simp -implicitDefEqProofs [l493_0]
 have hO : loopN T 0 2 (.norm false [3]) l493_1 ⟨[(3, .bs (.loc 3) 1 1 0 L.length), (23, .sl (rowC O) .an), (24, .i .i64 O.length), (25, .i .i64 0)], [(.loc 3, ⟨1, .own, 1, rowC (L.map (·.code))⟩)], 3⟩ =
   some (.n, ⟨[(3, .bs (.loc 3) 1 1 0 (L.length + O.length : Nat))], [(.loc 3, ⟨1, .own, 1, rowC (L.map (·.code) ++ O)⟩)], 3⟩) := by
  have := range_loop (T := T) (k := 0) (id := 2) (g2 := .norm false [3]) (c := l493_1) (fun i => ⟨[(3, .bs (.loc 3) 1 1 0 (L.length + i : Nat)), (23, .sl (rowC O) .an), (24, .i .i64 O.length), (25, .i .i64 (i : Int))], [(.loc 3, ⟨1, .own, 1, rowC (L.map (·.code) ++ O.take i)⟩)], 3⟩) O.length
   (some (.n, ⟨[(3, .bs (.loc 3) 1 1 0 (L.length + O.length : Nat))], [(.loc 3, ⟨1, .own, 1, rowC (L.map (·.code) ++ O)⟩)], 3⟩)) (fun i hi => ?_) ?_
  ·simpa using this
  ·have hg : O[i]? = some (O[i]'hi) := List.getElem?_eq_getElem hi
   have hi' : (i : Int) < O.length := by omega
   have hws := wrapS hi (by omega)
   have hs : L.map (·.code) ++ O.take (i + 1) = (L.map (·.code) ++ O.take i) ++ [O[i]'hi] := by rw [List.take_succ_eq_append_getElem hi, List.append_assoc]
   have hml : (L.map (·.code) ++ O.take i).length = L.length + i := by rw [List.length_append, List.length_map, List.length_take]; omega
   have hp := rowC_push hml (O[i]'hi)
   have hle : L.length + i ≤ (L.map (·.code) ++ O.take i).length := by omega
   have h32 : L.length + i + 1 ≤ 4294967296 := by omega
   obtain ⟨hc1, hc2⟩ := hn (O[i]'hi) (List.mem_append.2 (.inr (List.getElem_mem hi)))
   have cc := tree_copied (T := T) (O[i]'hi) hc1 hc2
   have hw2 : L.length + (i + 1) = L.length + i + 1 := by omega
   rw [hs, hw2]
   generalize hx : O[i]'hi = x at *
   generalize L.map (·.code) ++ O.take i = m at *
   generalize L.length + i = k at *
   clear hs hn hL
   simp -implicitDefEqProofs [l493_1, hi, hi', hg, hx, hws, hp, hle, h32, cc]
  ·constructor <;> simp -implicitDefEqProofs [l493_1]
 unfold codesD
 dsimp only
 have hM : (L.map (·.code)).length = L.length := List.length_map _
 generalize L.map (·.code) = M at *
 rw [f493 _ rfl, b493]
 simp -implicitDefEqProofs [hL, hO]
 exact ⟨by omega, by rw [List.take_of_length_le (by rw [List.length_append]; omega)]⟩
theorem sum_le_all {l : List (List Nd)} (i : Nat) : ((l.take i).map List.length).sum ≤ (l.map List.length).sum := by
 conv => rhs; rw [← List.take_append_drop i l]
 rw [List.map_append, List.sum_append]
 omega
def sizeD (f : Fd) : Nat := ((codesD f).map List.length).sum
theorem tree_Size (f : Fd) (h1 : f.lets.length ≤ 100000) (h2 : f.outs.length ≤ 100000) (hn : thinD 1000 4294967295 f) (hs : sizeD f ≤ 4294967295) : callF T 491 [efd f] = some (.i .i64 (sizeD f)) := by
 have c := tree_Codes (T := T) f h1 h2 hn
 have hlen : (codesD f).length ≤ 200000 := by unfold codesD; rw [List.length_append, List.length_map]; omega
 unfold sizeD at *
 obtain ⟨L, O⟩ := f
 generalize codesD ⟨L, O⟩ = M at *
 have hlo : loopN T 0 0 (.norm false [3]) l491_0 ⟨[(3, .i .i64 0), (7, .sl (rowC M) .an), (8, .i .i64 M.length), (9, .i .i64 0)], [], 2⟩ =
   some (.n, ⟨[(3, .i .i64 ((M.map List.length).sum : Nat))], [], 2⟩) := by
  have := range_loop (T := T) (k := 0) (id := 0) (g2 := .norm false [3]) (c := l491_0) (fun i => ⟨[(3, .i .i64 (((M.take i).map List.length).sum : Nat)), (7, .sl (rowC M) .an), (8, .i .i64 M.length), (9, .i .i64 (i : Int))], [], 2⟩) M.length
   (some (.n, ⟨[(3, .i .i64 ((M.map List.length).sum : Nat))], [], 2⟩)) (fun i hi => ?_) ?_
  ·simpa using this
  ·have hg : M[i]? = some (M[i]'hi) := List.getElem?_eq_getElem hi
   have hi' : (i : Int) < M.length := by omega
   have hws := wrapS hi (by omega)
   have hs1 : ((M.take (i + 1)).map List.length).sum = ((M.take i).map List.length).sum + (M[i]'hi).length := by rw [List.take_succ_eq_append_getElem hi, List.map_append, List.sum_append]; simp
   have hle := sum_le_all (l := M) (i + 1)
   have hw : IntKind.wrap .i64 ((((M.take i).map List.length).sum : Nat) + (M[i]'hi).length) = ((((M.take i).map List.length).sum + (M[i]'hi).length : Nat) : Int) := by rw [wrap_i64 _ (by omega)]; omega
   rw [hs1]
   generalize hx : M[i]'hi = x at *
   generalize ((M.take i).map List.length).sum = k at *
   clear hs1 hn c hs hle
   simp -implicitDefEqProofs [l491_0, hi, hi', hg, hx, hws, hw]
  ·rw [List.take_length]
   constructor <;> simp -implicitDefEqProofs [l491_0]
 generalize (M.map List.length).sum = S at *
 rw [f491 _ rfl, b491]
 simp -implicitDefEqProofs [c, hlo]
def mxT (F : List Nat) (k : Nat) : Nat → Nat
 | 0 => 0
 | j + 1 => max (mxT F k j) (F.getD (k - j - 1) 0)
def stDi (l : List Nd) (F : List Nat) (i k a j : Nat) : St := ⟨[(3, .bs (.loc 3) 1 1 0 (k - j)), (6, .i .i64 (mxT F k j : Nat)), (10, .sl (rowN l) .an), (11, .i .i64 l.length), (12, .i .i64 i), (18, .i .i64 a), (19, .i .i64 j)], [(.loc 3, ⟨1, .own, 1, dps F⟩)], 3⟩
theorem mxT_le (F : List Nat) (k w : Nat) (h : ∀ n ∈ F, n ≤ w) : ∀ j, mxT F k j ≤ w
 | 0 => Nat.zero_le _
 | j + 1 => by
  have h1 := mxT_le F k w h j
  have h2 : F.getD (k - j - 1) 0 ≤ w := by
   rw [List.getD_eq_getElem?_getD]
   cases hg : F[k - j - 1]? with
   | none => exact Nat.zero_le _
   | some x => exact h x (List.mem_of_getElem? hg)
  exact Nat.max_le.2 ⟨h1, h2⟩
theorem dep_in (l : List Nd) (F : List Nat) (i k a : Nat) (ha : a ≤ k) (hk : k ≤ F.length) (hF : ∀ n ∈ F, n ≤ 100000) (hkk : k ≤ 100000) :
  loopN T 0 2 (.norm false [3, 6, 10, 11, 12]) l492_0 (stDi l F i k a 0) =
   some (.n, ⟨[(3, .bs (.loc 3) 1 1 0 (k - a)), (6, .i .i64 (mxT F k a : Nat)), (10, .sl (rowN l) .an), (11, .i .i64 l.length), (12, .i .i64 i)], [(.loc 3, ⟨1, .own, 1, dps F⟩)], 3⟩) := by
 refine range_loop (T := T) (stDi l F i k a) a _ (fun j hj => ?_) ?_
 ·have hq : k - j = (k - j - 1) + 1 := by omega
  have hq2 : k - (j + 1) = k - j - 1 := by omega
  have hlt : k - j - 1 < F.length := by omega
  have hg : F[k - j - 1]? = some (F.getD (k - j - 1) 0) := by rw [List.getD_eq_getElem?_getD, List.getElem?_eq_getElem hlt]; rfl
  have hge : F[k - j - 1]'hlt = F.getD (k - j - 1) 0 := by rw [List.getD_eq_getElem?_getD, List.getElem?_eq_getElem hlt]; rfl
  have hmx := mxT_le F k 100000 hF j
  have hws := wrapS hj (by omega)
  have hj' : (j : Int) < a := by omega
  have hmm : mxT F k (j + 1) = max (mxT F k j) (F.getD (k - j - 1) 0) := rfl
  unfold stDi
  rw [hq2, hq, hmm]
  generalize F.getD (k - j - 1) 0 = v at *
  generalize mxT F k j = m at *
  clear hF
  generalize k - j - 1 = q at *
  have hw : IntKind.wrap .i64 (q : Int) = q := wrap_i64 _ (by omega)
  have h1 : (q : Int) < (q : Int) + 1 := by omega
  have h2 : (q : Int) ≤ (q : Int) + 1 := by omega
  clear hq hq2 hmm
  simp -implicitDefEqProofs [l492_0, hj, hj', hg, hge, hlt, hws, hw, h1, h2]
  split <;> omega
 ·unfold stDi
  constructor <;> simp -implicitDefEqProofs [l492_0]
theorem take_top {F : List Nat} {a : Nat} {r : List Nat} (h : F.take (a :: r).length = (a :: r).reverse) : F.take r.length = r.reverse ∧ F.getD r.length 0 = a ∧ r.length < F.length := by
 rw [List.reverse_cons, List.length_cons] at h
 have hl := congrArg List.length h
 rw [List.length_take, List.length_append, List.length_reverse] at hl
 have hlt : r.length < F.length := by simp at hl; omega
 rw [List.take_succ_eq_append_getElem hlt] at h
 have h2 := List.append_inj' h rfl
 refine ⟨h2.1, ?_, hlt⟩
 have h3 := h2.2
 rw [List.getD_eq_getElem?_getD, List.getElem?_eq_getElem hlt]
 simpa using h3
def stDo (l : List Nd) (F : List Nat) (k i : Nat) : St := ⟨[(3, .bs (.loc 3) 1 1 0 k), (10, .sl (rowN l) .an), (11, .i .i64 l.length), (12, .i .i64 i)], [(.loc 3, ⟨1, .own, 1, dps F⟩)], 3⟩
theorem dep_round (l : List Nd) (hl : l.length ≤ 50000) (F s : List Nat) (i : Nat) (hi : i < l.length) (h1 : F.take s.length = s.reverse) (h2 : s.length ≤ F.length) (h3 : s.length ≤ i) (h4 : ∀ n ∈ F, n ≤ i) (ha0 : 0 ≤ arN (l[i]'hi).op) (ha : arN (l[i]'hi).op ≤ s.length) :
  ∃ F' : List Nat, (F'.take (depE s (l[i]'hi)).length = (depE s (l[i]'hi)).reverse ∧ (depE s (l[i]'hi)).length ≤ F'.length ∧ ∀ n ∈ F', n ≤ i + 1) ∧ evX (orc T) T 0 l492_1 (stDo l F s.length i) = some (.n, stDo l F' (depE s (l[i]'hi)).length (i + 1)) := by
 have ca := tree_arity (T := T) (l[i]'hi).op
 have hg : l[i]? = some (l[i]'hi) := List.getElem?_eq_getElem hi
 have hi' : (i : Int) < l.length := by omega
 have hws := wrapS hi (by omega)
 generalize hx : l[i]'hi = x at *
 obtain ⟨a, hea⟩ : ∃ a : Nat, arN x.op = a := ⟨(arN x.op).toNat, by omega⟩
 have hak : a ≤ s.length := by omega
 have hin := dep_in (T := T) l F i s.length a hak h2 (fun n hn => Nat.le_trans (h4 n hn) (by omega)) (by omega)
 have hm1 : mxT F s.length a ≤ i := mxT_le F s.length i h4 a
 -- the stack behind the node
 obtain ⟨s', hs', hde⟩ : ∃ s' : List Nat, (F.take s'.length = s'.reverse ∧ s'.length = s.length - a) ∧ depE s x = (mxT F s.length a + 1) :: s' := by
  unfold depE
  rcases arN_cases x.op with ⟨e, _⟩ | ⟨e, _⟩ | ⟨e, _⟩ | ⟨e, _⟩
  ·have : a = 0 := by omega
   subst this
   rw [if_pos e]
   exact ⟨s, ⟨h1, rfl⟩, rfl⟩
  ·have : a = 1 := by omega
   subst this
   rw [if_neg (by omega), if_pos e]
   cases s with
   | nil => simp at hak
   | cons u r =>
    obtain ⟨t1, t2, t3⟩ := take_top h1
    refine ⟨r, ⟨t1, by simp⟩, ?_⟩
    show (u + 1) :: r = (max 0 (F.getD (r.length + 1 - 0 - 1) 0) + 1) :: r
    rw [show r.length + 1 - 0 - 1 = r.length by omega, t2, Nat.zero_max]
  ·have : a = 2 := by omega
   subst this
   rw [if_neg (by omega), if_neg (by omega)]
   cases s with
   | nil => simp at hak
   | cons u r =>
    obtain ⟨t1, t2, t3⟩ := take_top h1
    cases r with
    | nil => simp at hak
    | cons v q =>
     obtain ⟨w1, w2, w3⟩ := take_top t1
     refine ⟨q, ⟨w1, by simp⟩, ?_⟩
     show (max u v + 1) :: q = (max (max 0 (F.getD (q.length + 1 + 1 - 0 - 1) 0)) (F.getD (q.length + 1 + 1 - 1 - 1) 0) + 1) :: q
     rw [show q.length + 1 + 1 - 1 - 1 = q.length by omega, w2, show q.length + 1 + 1 - 0 - 1 = (v :: q).length by simp, t2, Nat.zero_max]
  ·omega
 rw [hde]
 generalize mxT F s.length a = v at *
 obtain ⟨hs1, hs2⟩ := hs'
 have hle : s'.length ≤ F.length := by omega
 refine ⟨F.take s'.length ++ [v + 1], ⟨?_, ?_, ?_⟩, ?_⟩
 ·rw [List.length_cons, List.take_of_length_le (by rw [List.length_append, List.length_take]; simp; omega), hs1, List.reverse_cons]
 ·rw [List.length_append, List.length_take, List.length_cons]; simp; omega
 ·intro n hn
  rcases List.mem_append.1 hn with hn | hn
  ·have := h4 n (List.mem_of_mem_take hn); omega
  ·rw [List.mem_singleton.1 hn]; omega
 ·have hp := dps_push (m := F) (n := s'.length) (v + 1)
  rw [hea] at ca
  rw [← hs2] at hin
  have hwv : IntKind.wrap .i64 ((v : Int) + 1) = ((v + 1 : Nat) : Int) := wrap_i64 _ (by omega)
  have h32 : s'.length + 1 ≤ 4294967296 := by omega
  unfold stDi at hin
  unfold stDo
  rw [List.length_cons]
  simp only [mxT, Nat.sub_zero, Int.natCast_zero] at hin
  obtain ⟨op, j, n⟩ := x
  dsimp only at *
  generalize F.take s'.length ++ [v + 1] = F' at *
  clear hde hs1 h1 h4 hm1
  simp -implicitDefEqProofs [l492_1, hi, hi', hg, hx, hws, hle, h32, ca, hin, hwv]
  exact hp
theorem depS_len (hl : True) : ∀ (l : List Nd) (i : Nat) (s : List Nat), wrongL i s.length l = -1 → (depS s l).length = 1
 | [], i, s, h => by
  unfold wrongL at h
  by_cases h1 : (s.length : Int) = 1
  ·show s.length = 1; omega
  ·rw [if_neg h1] at h; omega
 | x :: r, i, s, h => by
  unfold wrongL at h
  by_cases h1 : arN x.op < 0 ∨ (s.length : Int) < arN x.op
  ·rw [if_pos h1] at h; omega
  ·rw [if_neg h1] at h
   refine depS_len hl r (i + 1) (depE s x) ?_
   rw [← h]
   congr 1
   unfold depE
   rcases arN_cases x.op with ⟨e, _⟩ | ⟨e, _⟩ | ⟨e, _⟩ | ⟨e, _⟩
   ·rw [if_pos e, e]; simp
   ·rw [if_neg (by omega), if_pos e, e, List.length_cons, List.length_tail]; omega
   ·rw [if_neg (by omega), if_neg (by omega), e, List.length_cons, List.length_tail, List.length_tail]; omega
   ·omega
theorem depE_len {s : List Nat} {x : Nd} (h0 : 0 ≤ arN x.op) (h1 : arN x.op ≤ s.length) : ((depE s x).length : Int) = s.length + 1 - arN x.op := by
 unfold depE
 rcases arN_cases x.op with ⟨e, _⟩ | ⟨e, _⟩ | ⟨e, _⟩ | ⟨e, _⟩
 ·rw [if_pos e, e]; simp
 ·rw [if_neg (by omega), if_pos e, e, List.length_cons, List.length_tail]; omega
 ·rw [if_neg (by omega), if_neg (by omega), e, List.length_cons, List.length_tail, List.length_tail]; omega
 ·omega
theorem tree_Depth (l : List Nd) (hl : l.length ≤ 50000) : callF T 492 [.sl (rowN l) .an] = some (.i .i64 (depN l)) := by
 have c := tree_right (T := T) l (by omega)
 by_cases hw : wrongN l = -1
 ·rw [decide_eq_true hw] at c
  have e : depN l = (depS [] l).headD 0 := by unfold depN; rw [if_pos hw]
  have hone := depS_len trivial l 0 [] hw
  have hlo : ∃ r, (∃ F : List Nat, F[0]? = some ((depS [] l).headD 0) ∧ r = (Ex.n, (⟨[(3, .bs (.loc 3) 1 1 0 1)], [(.loc 3, ⟨1, .own, 1, dps F⟩)], 3⟩ : St))) ∧ loopN T 0 0 (.norm false [3]) l492_1 (stDo l [] 0 0) = some r := by
   refine loopN_ex (fun p : Nat × List Nat × List Nat => stDo l p.2.2 p.2.1.length p.1)
    (fun p => p.1 ≤ l.length ∧ p.2.2.take p.2.1.length = p.2.1.reverse ∧ p.2.1.length ≤ p.2.2.length ∧ p.2.1.length ≤ p.1 ∧ (∀ n ∈ p.2.2, n ≤ p.1) ∧ (∃ j, wrongL j p.2.1.length (l.drop p.1) = -1) ∧ depS p.2.1 (l.drop p.1) = depS [] l)
    (fun p => l.length - p.1) _ ?_ (0, [], []) ⟨Nat.zero_le _, rfl, Nat.le_refl _, Nat.le_refl _, by simp, ⟨0, hw⟩, rfl⟩
   rintro ⟨i, s, F⟩ ⟨hi, h1, h2, h3, h4, ⟨j, h5⟩, h6⟩
   dsimp only at *
   by_cases hlt : i < l.length
   ·left
    have hd : l.drop i = l[i]'hlt :: l.drop (i + 1) := List.drop_eq_getElem_cons hlt
    rw [hd] at h5 h6
    have hc : ¬ (arN (l[i]'hlt).op < 0 ∨ (s.length : Int) < arN (l[i]'hlt).op) := by
     intro hh
     unfold wrongL at h5
     rw [if_pos hh] at h5
     omega
    unfold wrongL at h5
    rw [if_neg hc] at h5
    have ha0 : 0 ≤ arN (l[i]'hlt).op := by omega
    have ha1 : arN (l[i]'hlt).op ≤ s.length := by omega
    obtain ⟨F', ⟨g1, g2, g3⟩, g4⟩ := dep_round (T := T) l hl F s i hlt h1 h2 h3 h4 ha0 ha1
    have hln := depE_len ha0 ha1
    refine ⟨(i + 1, depE s (l[i]'hlt), F'), ⟨by dsimp only; omega, g1, g2, by dsimp only; omega, g3, ⟨j + 1, ?_⟩, h6⟩, by dsimp only; omega, g4⟩
    rw [← h5]
    dsimp only
    rw [hln]
   ·right
    have hil : i = l.length := by omega
    subst hil
    rw [List.drop_length] at h5 h6
    have hs : depS s [] = s := rfl
    rw [hs] at h6
    subst h6
    obtain ⟨a, ha⟩ : ∃ a, depS [] l = [a] := List.length_eq_one_iff.1 hone
    rw [ha] at h1 h2 ⊢
    have hF0 : F[0]? = some a := by
     obtain ⟨t1, t2, t3⟩ := take_top h1
     rw [List.getD_eq_getElem?_getD] at t2
     have t4 : 0 < F.length := t3
     rw [List.length_nil, List.getElem?_eq_getElem t4] at t2
     rw [List.getElem?_eq_getElem t4]
     exact congrArg some t2
    refine ⟨_, ⟨F, hF0, rfl⟩, ?_⟩
    unfold stDo
    clear h4 h1
    constructor <;> simp -implicitDefEqProofs [l492_1]
  obtain ⟨_, ⟨F, hF, rfl⟩, hlo⟩ := hlo
  rw [e]
  unfold stDo at hlo
  simp only [Int.natCast_zero, dps_nil] at hlo
  obtain ⟨hlt, hge⟩ := List.getElem?_eq_some_iff.1 hF
  generalize (depS [] l).headD 0 = v at *
  rw [f492 _ rfl, b492]
  clear e hone
  simp -implicitDefEqProofs [c, hlo, hF, hge, hlt]
 ·rw [decide_eq_false hw] at c
  have e : depN l = 0 := by unfold depN; rw [if_neg hw]
  rw [e, f492 _ rfl, b492]
  simp -implicitDefEqProofs [c]
end
section
variable {T : Tbl} [CJoin T] [CLex T]
theorem lex_digit (c : UInt8) : callF T 185 [u8 c.toNat] = some (.b (isD c)) := by
 rw [f185 _ rfl, b185]
 by_cases h1 : 48 ≤ c.toNat
 ·simp -implicitDefEqProofs [isD, h1]
 ·simp -implicitDefEqProofs [isD, h1]
theorem lex_letter (c : UInt8) : callF T 186 [u8 c.toNat] = some (.b (isL c)) := by
 rw [f186 _ rfl, b186]
 by_cases h1 : 97 ≤ c.toNat <;> by_cases h2 : c.toNat ≤ 122 <;> by_cases h3 : 65 ≤ c.toNat <;> by_cases h4 : c.toNat ≤ 90 <;> by_cases h5 : c.toNat = 95 <;>
  simp -implicitDefEqProofs [isL, h1, h2, h3, h4, h5]
theorem lex_sign (c : UInt8) : callF T 187 [u8 c.toNat] = some (.b (isS c)) := by rw [p187, prim187_eq]
theorem lex_kind (c : UInt8) : callF T 177 [u8 c.toNat] = some (.i .i64 (kindN c)) := by
 have h1 := lex_digit (T := T) c
 have h2 := lex_letter (T := T) c
 have h3 := lex_sign (T := T) c
 rw [f177 _ rfl, b177]
 cases e1 : isD c <;> cases e2 : isL c <;> cases e3 : isS c <;> simp -implicitDefEqProofs [kindN, h1, h2, h3, e1, e2, e3]
theorem lex_goes (k : Nat) (c : UInt8) : callF T 188 [.i .i64 k, u8 c.toNat] = some (.b (moreN k c)) := by
 have h1 := lex_digit (T := T) c
 have h2 := lex_letter (T := T) c
 rw [f188 _ rfl, b188]
 by_cases k1 : k = 1
 ·subst k1
  cases e1 : isD c <;> cases e2 : isL c <;> simp -implicitDefEqProofs [moreN, h1, h2, e1, e2]
 ·have k1' : ¬ (k : Int) = 1 := by omega
  by_cases k2 : k = 2
  ·subst k2
   cases e1 : isD c <;> cases e2 : isL c <;> simp -implicitDefEqProofs [moreN, h1, h2, e1, e2]
  ·have k2' : ¬ (k : Int) = 2 := by omega
   simp -implicitDefEqProofs [moreN, h1, h2, k1, k2, k1', k2']
theorem lex_most (k : Nat) : callF T 179 [.i .i64 k] = some (.i .i64 (mostN k)) := by
 rw [f179 _ rfl, b179]
 by_cases k1 : k = 1
 ·subst k1
  simp -implicitDefEqProofs [mostN]
 ·have k1' : ¬ (k : Int) = 1 := by omega
  by_cases k2 : k = 2
  ·subst k2
   simp -implicitDefEqProofs [mostN]
  ·have k2' : ¬ (k : Int) = 2 := by omega
   simp -implicitDefEqProofs [mostN, k1, k2, k1', k2']
theorem first_loop (s : List UInt8) (hs : s.length ≤ 1000000) (k F : Nat) : ∀ n : Nat, (n ≤ s.length ∧ n + ((s.drop n).takeWhile (moreN k)).length = F) →
  loopN T 0 0 (.norm false [5]) l178_0 ⟨[(0, .s s), (1, .i .i64 k), (5, .i .i64 n)], [], 2⟩ = some (.n, ⟨[(5, .i .i64 F)], [], 2⟩) := by
 refine loopN_eq (fun n : Nat => ⟨[(0, .s s), (1, .i .i64 k), (5, .i .i64 n)], [], 2⟩) _ (fun n => s.length - n) _ ?_
 rintro n ⟨hn, hF⟩
 by_cases h0 : n < s.length
 ·have hg : s[n]? = some (s[n]'h0) := List.getElem?_eq_getElem h0
  have hd := List.drop_eq_getElem_cons h0
  have hgo := lex_goes (T := T) k (s[n]'h0)
  have hw : IntKind.wrap .i64 ((n : Int) + 1) = ((n + 1 : Nat) : Int) := wrap_i64 _ (by omega)
  by_cases hc : moreN k (s[n]'h0) = true
  ·left
   rw [hd, List.takeWhile_cons_of_pos hc] at hF
   refine ⟨n + 1, ⟨h0, by simp only [List.length_cons] at hF; omega⟩, by show s.length - (n + 1) < s.length - n; omega, ?_, rfl⟩
   simp -implicitDefEqProofs [l178_0, h0, hg, hgo, hc, hw]
  ·right
   rw [hd, List.takeWhile_cons_of_neg hc] at hF
   simp only [List.length_nil, Nat.add_zero] at hF
   subst hF
   constructor <;> simp -implicitDefEqProofs [l178_0, h0, hg, hgo, hc]
 ·right
  have : n = s.length := by omega
  subst this
  rw [List.drop_length] at hF
  simp only [List.takeWhile_nil, List.length_nil, Nat.add_zero] at hF
  subst hF
  constructor <;> simp -implicitDefEqProofs [l178_0]
theorem lex_first (c : UInt8) (r : List UInt8) (hs : r.length ≤ 100000) (k : Nat) : callF T 178 [.s (c :: r), .i .i64 k] = some (.i .i64 (firstN k r)) := by
 have h := first_loop (T := T) (c :: r) (by simp; omega) k (firstN k r) 1 ⟨by simp, rfl⟩
 rw [f178 _ rfl, b178]
 simp at h
 simp -implicitDefEqProofs [h]
def wdR (w : Wd) : List AV := [.i .i64 w.1, .s w.2.1, .i .i64 w.2.2]
def rowsW (l : List Wd) : List (List AV) := l.map wdR
def stScL (s : List UInt8) (i : Nat) (acc : List Wd) : St :=
 ⟨[(0, .s s), (3, .ptr (.loc 3) 1 4 0 0), (4, .bs (.loc 4) 2 3 0 acc.length), (5, .i .i64 i)], [(.loc 3, ⟨1, .str, 4, [[.i .i64 0, .i .i64 0, .i .i64 0, .i .i64 0]]⟩), (.loc 4, ⟨2, .own, 3, rowsW acc⟩)], 4⟩
def resSc : Except Nat (List Wd) → Option (Ex × St)
 | .ok ws => some (.n, ⟨[(3, .ptr (.loc 3) 1 4 0 0), (4, .bs (.loc 4) 2 3 0 ws.length)], [(.loc 3, ⟨1, .str, 4, [[.i .i64 0, .i .i64 0, .i .i64 0, .i .i64 0]]⟩), (.loc 4, ⟨2, .own, 3, rowsW ws⟩)], 4⟩)
 | .error e => some (.r, ⟨[(2, .sl [] .an), (3, .ptr (.loc 3) 1 4 0 0)], [(.loc 3, ⟨1, .str, 4, [[.i .i64 1, .i .i64 0, .i .i64 0, .i .i64 e]]⟩)], 3⟩)
def ansScan (r : Except Nat (List Wd)) : AV :=
 match r with
 | .ok ws => .tup [.sl (rowsW ws) .an, .agg [.i .i64 0, .i .i64 0, .i .i64 0, .i .i64 0]]
 | .error e => .tup [.sl [] .an, .agg [.i .i64 1, .i .i64 0, .i .i64 0, .i .i64 e]]
def scanT (s : List UInt8) : Except Nat (List Wd) := if 4000 < s.length then .error 4000 else scanL (s.drop (skipC false s)) (skipC false s) []
def rightB (k : Int) (t : List UInt8) : Bool :=
 match t with
 | [] => false
 | c :: r => decide (k ≠ 0) && decide ((kindN c : Int) = k) && decide (firstN (kindN c) r = r.length + 1) && decide (r.length + 1 ≤ mostN (kindN c))
theorem lex_right (k a : Int) (t : List UInt8) (ht : t.length ≤ 100000) : callF T 172 [.agg [.i .i64 k, .s t, .i .i64 a]] = some (.b (rightB k t)) := by
 rw [f172 _ rfl, b172]
 cases t with
 | nil => simp -implicitDefEqProofs [rightB]
 | cons c r =>
  simp only [List.length_cons] at ht
  have hk := lex_kind (T := T) c
  have hf := lex_first (T := T) c r (by omega) (kindN c)
  have hm := lex_most (T := T) (kindN c)
  by_cases h0 : k = 0
  ·simp -implicitDefEqProofs [rightB, h0]
  ·by_cases h1 : (kindN c : Int) = k
   ·subst h1
    have h0' : ¬ kindN c = 0 := by omega
    by_cases h2 : firstN (kindN c) r = r.length + 1
    ·have h2' : ((firstN (kindN c) r : Nat) : Int) = (r.length : Int) + 1 := by omega
     by_cases h3 : r.length + 1 ≤ mostN (kindN c)
     ·have h3' : (r.length : Int) + 1 ≤ (mostN (kindN c) : Nat) := by omega
      simp -implicitDefEqProofs [rightB, h0', hk, hf, hm, h2, h2', h3, h3']
     ·have h3' : ¬ (r.length : Int) + 1 ≤ (mostN (kindN c) : Nat) := by omega
      simp -implicitDefEqProofs [rightB, h0', hk, hf, hm, h2, h2', h3, h3']
    ·have h2' : ¬ ((firstN (kindN c) r : Nat) : Int) = (r.length : Int) + 1 := by omega
     simp -implicitDefEqProofs [rightB, h0', hk, hf, hm, h2, h2']
   ·simp -implicitDefEqProofs [rightB, h0, hk, h1]
abbrev Wz := Int × List UInt8 × Int
def wzR (w : Wz) : List AV := [.i .i64 w.1, .s w.2.1, .i .i64 w.2.2]
def rowsZ (l : List Wz) : List (List AV) := l.map wzR
def stTe (l : List Wz) (i : Nat) (b : BId) : St :=
 ⟨[(3, .bs (.loc 3) 1 1 0 i), (6, .sl (rowsZ l) .an), (7, .i .i64 l.length), (8, .i .i64 i)], [(.loc 3, ⟨1, .own, 1, rowsT ((l.take i).map (·.2.1))⟩)], 3⟩
end
def nameB (s : List UInt8) : Bool := rightB 2 s && decide (s ≠ [116]) && decide (s ≠ [121]) && decide (s ≠ [112]) && decide (s ≠ [108, 101, 116])
def twB (l : List Lt) (nm : List UInt8) : Bool := l.any fun x => decide (x.name = nm)
def ptA (dim pars lets : Int) (c : List Nd) : Int := if placeN dim pars lets c < 0 ∧ 40 < depN c then c.length else placeN dim pars lets c
def chkL (dim pars : Int) (L : List Lt) : Nat → List Lt → Option (Int × Int × Int)
 | _, [] => none
 | i, x :: r => if nameB x.name = false ∨ twB (L.take i) x.name = true then some ((i : Int) + 1, 1, 0) else if 0 ≤ ptA dim pars i x.code then some ((i : Int) + 1, 0, ptA dim pars i x.code) else chkL dim pars L (i + 1) r
def chkO (dim pars : Int) (n : Nat) : Nat → List (List Nd) → Option (Int × Int × Int)
 | _, [] => none
 | i, c :: r => if 0 ≤ ptA dim pars n c then some (((n + i : Nat) : Int) + 1, 0, ptA dim pars n c) else chkO dim pars n (i + 1) r
def whB (f : Fd) (dim pars : Int) : Bool := decide (1 ≤ dim ∧ dim ≤ 6 ∧ 0 ≤ pars ∧ pars ≤ 6 ∧ (f.outs.length : Int) = dim ∧ f.lets.length ≤ 10 ∧ sizeD f ≤ 300)
def chkD (f : Fd) (dim pars : Int) : Option (Int × Int × Int) :=
 if whB f dim pars = false then some (0, 0, 0) else match chkL dim pars f.lets 0 f.lets with
  | some q => some q
  | none => chkO dim pars f.lets.length 0 f.outs
class CRun (T : Tbl) : Prop where
def meths1 : List RV := [.cell 1 (some 445), .cell 2 (some 444), .cell 3 (some 441), .cell 4 (some 448), .cell 5 (some 443), .cell 6 (some 447), .cell 7 (some 446), .cell 8 (some 442)]
class CIfc (T : Tbl) : Prop where
 h1 : ∃ t, T 1000001 = some ⟨t, 0, meths1, .bad, none, false⟩
theorem sg_pow (z : Int) : ∀ t : Nat, sg (decide (z < 0) && decide (t % 2 = 1)) (z.natAbs ^ t) = z ^ t
 | 0 => by simp [sg]
 | t + 1 => by
  have ih := sg_pow z t
  have hz : sg (decide (z < 0)) z.natAbs = z := by
   unfold sg
   by_cases h : z < 0
   ·simp only [h, decide_true, if_true]; omega
   ·simp only [h, decide_false, Bool.false_eq_true, if_false]; omega
  have hm := sg_mul (decide (z < 0) && decide (t % 2 = 1)) (decide (z < 0)) (z.natAbs ^ t) z.natAbs
  rw [ih, hz] at hm
  rw [Int.pow_succ, ← hm, Nat.pow_succ]
  congr 1
  rcases Nat.mod_two_eq_zero_or_one t with h | h
  ·have h2 : (t + 1) % 2 = 1 := by omega
   rw [h, h2]
   cases decide (z < 0) <;> rfl
  ·have h2 : (t + 1) % 2 = 0 := by omega
   rw [h, h2]
   cases decide (z < 0) <;> rfl
theorem pow_len {x L : Nat} (h : (ofN x).length ≤ L) : ∀ t : Nat, (ofN (x ^ t)).length ≤ t * L + 1
 | 0 => by rw [Nat.pow_zero, ofN_one]; simp
 | t + 1 => by
  have ih := pow_len h t
  have := nat_mul_len ih h
  rw [Nat.pow_succ, Nat.succ_mul]
  omega
section
variable {T : Tbl} [CLimb T] [CNat T] [CProd T] [CTwos T] [CQuot T] [CQuotD T] [CWhole T] [CCommon T] [CFrac T] [CFrac3 T]
def stPw (a : List UInt32) (k i : Nat) : St := ⟨[(0, .sl (u32s a) .an), (5, .sl (u32s (ofN (val a ^ i))) .an), (7, .i .i64 k), (8, .i .i64 i)], [], 2⟩
theorem frac_power (a : List UInt32) (k : Nat) (hk : k ≤ 8) (ha : a.length ≤ 1100) : callF T 219 [.sl (u32s a) .an, .i .i64 k] = some (.sl (u32s (ofN (val a ^ k))) .an) := by
 have h : loopN T 0 0 (.norm false [5]) l219_0 (stPw a k 0) = some (.n, ⟨[(5, .sl (u32s (ofN (val a ^ k))) .an)], [], 2⟩) := by
  refine range_loop (stPw a k) k _ (fun i hi => ?_) ?_
  ·have hl := pow_len (L := 1100) (Nat.le_trans (ofN_length_le a) ha) i
   have c := prod_mul (T := T) (ofN (val a ^ i)) a (by omega) (by omega)
   rw [val_ofN, ← Nat.pow_succ] at c
   have hw := wrapS hi (by omega)
   unfold stPw
   generalize ofN (val a ^ i) = M at *
   generalize ofN (val a ^ (i + 1)) = M' at *
   simp -implicitDefEqProofs [l219_0, hi, hw, c]
  ·unfold stPw
   generalize ofN (val a ^ k) = M at *
   constructor <;> simp -implicitDefEqProofs [l219_0]
 have ho := nat_of (T := T) 1 (by decide)
 unfold stPw at h
 rw [Nat.pow_zero] at h
 simp only [Int.natCast_zero] at h
 generalize ofN 1 = O at *
 rw [f219 _ rfl, b219]
 generalize ofN (val a ^ k) = M at *
 simp -implicitDefEqProofs [ho, h]
def powR (q : Rat) (e : Int) : Rat × Bool := if -8 ≤ e ∧ e ≤ 8 ∧ ¬ (e < 0 ∧ q = 0) then (powZ q e, true) else (0, false)
theorem fz_pow (q : Rat) (t : Nat) : fz (q ^ t) = (decide (q.num < 0) && decide (t % 2 = 1) && decide (q.num.natAbs ^ t ≠ 0), ofN (q.num.natAbs ^ t), ofN (q.den ^ t)) := by
 have h := sg_pow q.num t
 unfold fz
 rw [Rat.num_pow, Rat.den_pow, ← h, sg_neg, sg_abs]
theorem fz_powi (q : Rat) (t : Nat) (hq : q ≠ 0) : fz (q ^ t)⁻¹ = (decide (q.num < 0) && decide (t % 2 = 1) && decide (q.den ^ t ≠ 0), ofN (q.den ^ t), ofN (q.num.natAbs ^ t)) := by
 have h := sg_pow q.num t
 have hn : q.num ≠ 0 := fun h => hq (Rat.num_eq_zero.1 h)
 have hz : q.num ^ t ≠ 0 := Int.pow_ne_zero hn
 have hd : q.den ^ t ≠ 0 := Nat.pos_iff_ne_zero.1 (Nat.pow_pos q.den_pos)
 have ha : q.num.natAbs ^ t ≠ 0 := Nat.pos_iff_ne_zero.1 (Nat.pow_pos (Int.natAbs_pos.2 hn))
 have e1 : (q ^ t)⁻¹.num = (q.num ^ t).sign * ((q.den ^ t : Nat) : Int) := by rw [Rat.num_inv, Rat.num_pow, Rat.den_pow]
 have e2 : (q ^ t)⁻¹.den = q.num.natAbs ^ t := by rw [Rat.den_inv, Rat.num_pow, if_neg hz, Int.natAbs_pow]
 have e3 : ((q.num ^ t).sign * ((q.den ^ t : Nat) : Int)).natAbs = q.den ^ t := by
  rw [Int.natAbs_mul, Int.natAbs_sign_of_ne_zero hz, Nat.one_mul, Int.natAbs_natCast]
 have e4 : decide ((q.num ^ t).sign * ((q.den ^ t : Nat) : Int) < 0) = decide (q.num ^ t < 0) := by
  rw [decide_eq_decide]
  rcases Int.lt_trichotomy (q.num ^ t) 0 with h1 | h1 | h1
  ·rw [Int.sign_eq_neg_one_of_neg h1]
   constructor
   ·intro _; exact h1
   ·intro _; omega
  ·exact absurd h1 hz
  ·rw [Int.sign_eq_one_of_pos h1]
   constructor
   ·intro _; omega
   ·intro _; omega
 have e5 : decide (q.num ^ t < 0) = (decide (q.num < 0) && decide (t % 2 = 1)) := by
  rw [← h, sg_neg, decide_eq_true ha, Bool.and_true]
 unfold fz
 rw [e1, e2, e3, e4, e5, decide_eq_true hd, Bool.and_true]
theorem frac_pow (x : Fz) (e : Int) (hx : fsz x ≤ 1000) : callF T 220 [efz x, .i .i64 e] = some (.tup [efz (fz (powR (fv x) e).1), .b (powR (fv x) e).2]) := by
 have h0 := frac_of0 (T := T)
 have hsg := frac_sign (T := T) x (by omega)
 have hn := frac_norm (T := T) x (by omega)
 have hs := sz_fv (x := x) (L := 1000) hx (by decide)
 have l1 := sz_num (fv x)
 have l2 := sz_den (fv x)
 unfold powR
 rw [f220 _ rfl, b220]
 by_cases h1 : e < -8
 ·rw [if_neg (by omega)]
  generalize fz 0 = Z at *
  simp -implicitDefEqProofs [h0, h1]
 by_cases h2 : 8 < e
 ·rw [if_neg (by omega)]
  generalize fz 0 = Z at *
  simp -implicitDefEqProofs [h0, h1, h2]
 obtain ⟨q, hq⟩ : ∃ q, q = fv x := ⟨_, rfl⟩
 rw [← hq] at hsg hn hs l1 l2 ⊢
 clear hq
 have e' : fz q = (decide (q.num < 0), ofN q.num.natAbs, ofN q.den) := rfl
 rw [e'] at hn
 have hA : (ofN q.num.natAbs).length ≤ 1100 := by omega
 have hD : (ofN q.den).length ≤ 1100 := by omega
 have pA : ∀ k : Nat, k ≤ 8 → callF T 219 [.sl (u32s (ofN q.num.natAbs)) .an, .i .i64 k] = some (.sl (u32s (ofN (q.num.natAbs ^ k))) .an) := fun k hk => by
  have := frac_power (T := T) (ofN q.num.natAbs) k hk hA
  rwa [val_ofN] at this
 have pD : ∀ k : Nat, k ≤ 8 → callF T 219 [.sl (u32s (ofN q.den)) .an, .i .i64 k] = some (.sl (u32s (ofN (q.den ^ k))) .an) := fun k hk => by
  have := frac_power (T := T) (ofN q.den) k hk hD
  rwa [val_ofN] at this
 have lA : ∀ k : Nat, k ≤ 8 → (ofN (q.num.natAbs ^ k)).length ≤ 1000000 := fun k hk => by
  have := pow_len hA k
  have : k * 1100 ≤ 8 * 1100 := Nat.mul_le_mul_right _ hk
  omega
 have lD : ∀ k : Nat, k ≤ 8 → (ofN (q.den ^ k)).length ≤ 1000000 := fun k hk => by
  have := pow_len hD k
  have : k * 1100 ≤ 8 * 1100 := Nat.mul_le_mul_right _ hk
  omega
 have hodd : ∀ k : Nat, k ≤ 8 → (((k : Int).tmod 2) == 1) = decide (k % 2 = 1) := fun k hk => by
  have e : (k : Int).tmod 2 = ((k % 2 : Nat) : Int) := by rw [show (2 : Int) = ((2 : Nat) : Int) from rfl, ← Int.ofNat_tmod]
  rw [e, Bool.eq_iff_iff]
  simp
  omega
 by_cases h3 : e < 0
 case neg =>
  obtain ⟨n, rfl⟩ : ∃ n : Nat, e = n := ⟨e.toNat, by omega⟩
  have hn8 : n ≤ 8 := by omega
  rw [if_pos (by omega)]
  have hw : IntKind.wrap .i64 (-(n : Int)) = -(n : Int) := wrap_i64 _ (by omega)
  have cA := pA n hn8
  have cD := pD n hn8
  have ho := hodd n hn8
  have hnorm := whole_norm (T := T) (decide (q.num < 0) && decide (n % 2 = 1)) (ofN (q.num.natAbs ^ n)) (lA n hn8)
  rw [show wv (decide (q.num < 0) && decide (n % 2 = 1)) (ofN (q.num.natAbs ^ n)) = sg (decide (q.num < 0) && decide (n % 2 = 1)) (q.num.natAbs ^ n) by unfold wv; rw [val_ofN], ez_sg] at hnorm
  have hf := fz_pow q n
  have hz : powZ q (n : Int) = q ^ n := Rat.zpow_natCast q n
  simp only [hz]
  rw [hf]
  clear hf hz pA pD lA lD hodd hsg e'
  have h4 : ¬ (8 : Int) < n := by omega
  have h5 : ¬ ((n : Int) < -(n : Int)) := by omega
  have h6 : ¬ (n : Int) < 0 := by omega
  have h1' : ¬ (n : Int) < -8 := by omega
  generalize ofN (q.num.natAbs ^ n) = AP at *
  generalize ofN (q.den ^ n) = DP at *
  generalize decide (q.num.natAbs ^ n ≠ 0) = NZ at *
  generalize ofN q.num.natAbs = A at *
  generalize ofN q.den = D at *
  generalize decide (q.num < 0) = NG at *
  generalize decide (n % 2 = 1) = OD at *
  cases NG with
  | false =>
   simp only [Bool.false_and] at hnorm ⊢
   simp -implicitDefEqProofs [h0, hn, h4, h5, h6, h1', hw, mm2, cA, cD, ho, hnorm]
  | true =>
   simp only [Bool.true_and] at hnorm ⊢
   cases OD with
   | false => simp -implicitDefEqProofs [h0, hn, h4, h5, h6, h1', hw, mm2, cA, cD, ho, hnorm]
   | true => simp -implicitDefEqProofs [h0, hn, h4, h5, h6, h1', hw, mm2, cA, cD, ho, hnorm]
 by_cases h7 : q = 0
 ·rw [if_neg (by intro h; exact h.2.2 ⟨h3, h7⟩)]
  have hs0 : sgQ q = 0 := sgQ_zero.2 h7
  rw [hs0] at hsg
  generalize fz 0 = Z at *
  have h4 : ¬ (8 : Int) < e := by omega
  simp -implicitDefEqProofs [h0, h1, h4, h3, hsg]
 rw [if_pos (by refine ⟨by omega, by omega, fun h => h7 h.2⟩)]
 obtain ⟨n, rfl⟩ : ∃ n : Nat, e = -(n : Int) := ⟨(-e).toNat, by omega⟩
 have hn8 : n ≤ 8 := by omega
 have hsz : ¬ sgQ q = 0 := fun h => h7 (sgQ_zero.1 h)
 have hw : IntKind.wrap .i64 (n : Int) = (n : Int) := wrap_i64 _ (by omega)
 have cA := pA n hn8
 have cD := pD n hn8
 have ho := hodd n hn8
 have hnorm := whole_norm (T := T) (decide (q.num < 0) && decide (n % 2 = 1)) (ofN (q.den ^ n)) (lD n hn8)
 rw [show wv (decide (q.num < 0) && decide (n % 2 = 1)) (ofN (q.den ^ n)) = sg (decide (q.num < 0) && decide (n % 2 = 1)) (q.den ^ n) by unfold wv; rw [val_ofN], ez_sg] at hnorm
 have hf := fz_powi q n h7
 have hz : powZ q (-(n : Int)) = (q ^ n)⁻¹ := by unfold powZ; rw [Rat.zpow_neg, Rat.zpow_natCast]
 simp only [hz]
 rw [hf]
 clear hf hz pA pD lA lD hodd e'
 have h4 : ¬ (8 : Int) < -(n : Int) := by omega
 have h5 : (-(n : Int) < (n : Int)) := by omega
 have h1' : ¬ -(n : Int) < -8 := by omega
 have h6 : (n : Int) ≠ 0 := by omega
 have h6' : 0 < (n : Int) := by omega
 have h6'' : 0 < n := by omega
 have h1'' : ¬ 8 < n := by omega
 generalize ofN (q.num.natAbs ^ n) = AP at *
 generalize ofN (q.den ^ n) = DP at *
 generalize decide (q.den ^ n ≠ 0) = NZ at *
 generalize ofN q.num.natAbs = A at *
 generalize ofN q.den = D at *
 generalize decide (q.num < 0) = NG at *
 generalize decide (n % 2 = 1) = OD at *
 generalize sgQ q = SG at *
 cases NG with
 | false =>
  simp only [Bool.false_and] at hnorm ⊢
  simp -implicitDefEqProofs [h0, hn, h3, h4, h5, h6, h6', h6'', h1', h1'', hw, mm2, cA, cD, ho, hnorm, hsg, hsz]
 | true =>
  simp only [Bool.true_and] at hnorm ⊢
  cases OD with
  | false => simp -implicitDefEqProofs [h0, hn, h3, h4, h5, h6, h6', h6'', h1', h1'', hw, mm2, cA, cD, ho, hnorm, hsg, hsz]
  | true => simp -implicitDefEqProofs [h0, hn, h3, h4, h5, h6, h6', h6'', h1', h1'', hw, mm2, cA, cD, ho, hnorm, hsg, hsz]
end
@[simp] theorem ints_nil : ints [] = [] := rfl
section
variable {T : Tbl} [CLimb T] [CNat T] [CProd T] [CTwos T] [CQuot T] [CQuotD T] [CWhole T] [CCommon T] [CFrac T] [CFrac3 T] [CTape T]
def stMy (t : Tp) (p : Nat) (x : Ins) (i : Nat) : St :=
 ⟨[(1, .i .i64 p), (2, .ptr (.loc 2) 1 4 0 0), (5, .ptr (.loc 5) 2 6 0 0), (30, .sl (ints (readsI x)) .an), (31, .i .i64 (readsI x).length), (32, .i .i64 i)],
  [(.loc 2, ⟨1, .str, 4, [[.sl (rowI t.code) .an, .sl (ints t.outs) .an, .i .i64 t.dim, .i .i64 t.par]]⟩), (.loc 5, ⟨2, .str, 6, [celI x]⟩)], 4⟩
end
section
variable {T : Tbl} [CLimb T] [CNat T] [CProd T] [CTwos T] [CQuot T] [CQuotD T] [CWhole T] [CCommon T] [CFrac T] [CFrac3 T] [CTape T]
structure Small (t : Tp) : Prop where
 code : t.code.length ≤ 4294967296
 outs : t.outs.length ≤ 4294967296
 ns : ∀ i ∈ t.code, fsz i.n ≤ 10000
 d1 : -9223372036854775808 ≤ t.dim
 d2 : t.dim < 9223372036854775808
def bxT (t : Tp) : Box := ⟨1, .str, 4, [[.sl (rowI t.code) .an, .sl (ints t.outs) .an, .i .i64 t.dim, .i .i64 t.par]]⟩
def stW1 (t : Tp) (i : Nat) : St := ⟨[(1, .ptr (.loc 1) 1 4 0 0), (11, .i .i64 t.code.length), (12, .i .i64 i)], [(.loc 1, bxT t)], 3⟩
def stW2 (t : Tp) (i : Nat) : St := ⟨[(1, .ptr (.loc 1) 1 4 0 0), (22, .sl (ints t.outs) .an), (23, .i .i64 t.outs.length), (24, .i .i64 i)], [(.loc 1, bxT t)], 3⟩
end
def limI (n : Int) : Int := if n < 0 then 0 else if 4096 < n then 4096 else n
abbrev bxG (g : Nat) (s p L : Int) : Box := ⟨g, .str, 3, [[.i .i64 s, .i .i64 p, .i .i64 L]]⟩
def cntS (s : Int) : Int := IntKind.wrap .i64 (s + 1)
def cntP (p : Int) (x : Fz) : Int := if p < (sizF x : Int) then (sizF x : Int) else p
section
variable {T : Tbl} [CLimb T] [CNat T] [CProd T] [CTwos T] [CQuot T] [CQuotD T] [CWhole T] [CCommon T] [CFrac T] [CFrac3 T] [CFrac5 T] [CPow T] [CTape T] [CGauge T] [CEval T]
theorem frac_size' (x : Fz) (hx : fsz x ≤ 10000) : callF T 223 [efz x] = some (.i .i64 (sizF x)) := by
 have h1 := fsz_a x
 have h2 := fsz_d x
 have c1 := twos_len (T := T) x.2.1 (by omega)
 have c2 := twos_len (T := T) x.2.2 (by omega)
 have b1 := blen_le' (x := val x.2.1) (k := 10000) (Nat.le_trans (ofN_length_le x.2.1) (by omega))
 have b2 := blen_le' (x := val x.2.2) (k := 10000) (Nat.le_trans (ofN_length_le x.2.2) (by omega))
 have w : IntKind.wrap .i64 ((blen (val x.2.1) : Int) + (blen (val x.2.2) : Int)) = ((sizF x : Nat) : Int) := by
  have e : ((sizF x : Nat) : Int) = (blen (val x.2.1) : Int) + (blen (val x.2.2) : Int) := by unfold sizF; omega
  rw [e]
  exact wrap_i64 _ (by omega)
 rw [f223 _ rfl, b223]
 generalize sizF x = S at *
 generalize blen (val x.2.1) = B1 at *
 generalize blen (val x.2.2) = B2 at *
 simp -implicitDefEqProofs [c1, c2, w]
theorem gauge_new (n : Int) : callH T 406 [.i .i64 n] [] = some (.ptr (.loc 7) 1 3 0 0, [(.loc 7, bxG 1 0 0 (limI n))]) := by
 unfold limI
 rw [f406 _ _ rfl, b406]
 by_cases h1 : n < 0
 ·simp -implicitDefEqProofs [h1, mm2]
 ·by_cases h2 : 4096 < n
  ·simp -implicitDefEqProofs [h1, h2, mm2]
  ·simp -implicitDefEqProofs [h1, h2, mm2]
theorem gauge_note (s p L k : Int) : callH T 426 [.ptr (.bor 0) 0 3 0 0, .i .i64 k] [(.bor 0, bxG 0 s p L)] = some (.tup [], [(.bor 0, bxG 0 (cntS s) (if p < k then k else p) L)]) := by
 unfold cntS
 rw [f426 _ _ rfl, b426]
 by_cases h1 : p < k
 ·simp -implicitDefEqProofs [h1, mm2]
 ·simp -implicitDefEqProofs [h1, mm2]
theorem gauge_take (s p L : Int) (x : Fz) (hx : fsz x ≤ 10000) : callH T 411 [.ptr (.bor 0) 0 3 0 0, efz x] [(.bor 0, bxG 0 s p L)] = some (.b (decide ((sizF x : Int) ≤ L)), [(.bor 0, bxG 0 (cntS s) (cntP p x) L)]) := by
 have h1 := frac_size' (T := T) x hx
 have h2 := gauge_note (T := T) s p L (sizF x)
 unfold cntP
 rw [f411 _ _ rfl, b411]
 generalize cntS s = s' at *
 generalize (if p < (sizF x : Int) then (sizF x : Int) else p) = p' at *
 generalize (sizF x : Int) = z at *
 simp -implicitDefEqProofs [h1, h2]
def stEn (l : List Fz) (i : Nat) : St := ⟨[(3, .bs (.loc 3) 1 3 0 i), (6, .sl (rowF l) .an), (7, .i .i64 l.length), (8, .i .i64 i)], [(.loc 3, ⟨1, .own, 3, rowF (nrm (l.take i))⟩)], 3⟩
theorem eval_norms (l : List Fz) (hl : l.length ≤ 1000) (hw : ∀ x ∈ l, fsz x ≤ 1000) : callF T 420 [.sl (rowF l) .an] = some (.sl (rowF (nrm l)) .an) := by
 have h : loopN T 0 0 (.norm false [3]) l420_0 (stEn l 0) = some (.n, ⟨[(3, .bs (.loc 3) 1 3 0 l.length)], [(.loc 3, ⟨1, .own, 3, rowF (nrm l)⟩)], 3⟩) := by
  refine range_loop (stEn l) l.length _ (fun i hi => ?_) ?_
  ·have hg : l[i]? = some (l[i]'hi) := List.getElem?_eq_getElem hi
   have hws := wrapS hi (by omega)
   have hn := frac_norm (T := T) (l[i]'hi) (Nat.le_trans (hw _ (List.getElem_mem hi)) (by decide))
   have e : nrm (l.take (i + 1)) = nrm (l.take i) ++ [fz (fv (l[i]'hi))] := take_map_succ l _ hi
   have hp := rowF_push (m := nrm (l.take i)) (n := i) (by simp [nrm]; omega) (fz (fv (l[i]'hi)))
   have hml : (nrm (l.take i)).length = i := by simp [nrm]; omega
   unfold stEn
   rw [e]
   clear e
   generalize nrm (l.take i) = M at *
   generalize fz (fv (l[i]'hi)) = z at *
   have hb : i ≤ 4294967295 := by omega
   simp -implicitDefEqProofs [l420_0, hi, hg, hws, hn, hp, hml, hb]
  ·unfold stEn
   rw [List.take_of_length_le (Nat.le_refl _)]
   generalize nrm l = M
   constructor <;> simp -implicitDefEqProofs [l420_0]
 unfold stEn at h
 simp [nrm] at h
 have ht : List.take l.length (List.map (fun x => fz (fv x)) l) = List.map (fun x => fz (fv x)) l := List.take_of_length_le (by simp)
 rw [f420 _ rfl, b420]
 simp -implicitDefEqProofs [h, nrm, ht]
structure PoS (x : PoF) (B : Nat) : Prop where
 t : fsz x.t ≤ B
 y : ∀ u ∈ x.y, fsz u ≤ B
 p : ∀ u ∈ x.p, fsz u ≤ B
 yl : x.y.length ≤ 1000
 pl : x.p.length ≤ 1000
theorem po_norm (x : PoF) : x.v.f = ⟨fz (fv x.t), nrm x.y, nrm x.p⟩ := by
 unfold PoF.v Po.f
 rw [fzs_nrm, fzs_nrm]
theorem eval_norm (x : PoF) (h : PoS x 1000) : callF T 405 [ept x] = some (ept x.v.f) := by
 have h1 := frac_norm (T := T) x.t (Nat.le_trans h.t (by decide))
 have h2 := eval_norms (T := T) x.y h.yl h.y
 have h3 := eval_norms (T := T) x.p h.pl h.p
 rw [po_norm]
 obtain ⟨t, y, p⟩ := x
 dsimp only at *
 rw [f405 _ rfl, b405]
 generalize fz (fv t) = t' at *
 generalize nrm y = y' at *
 generalize nrm p = p' at *
 simp -implicitDefEqProofs [h1, h2, h3]
end
abbrev mD : AV := .agg [.dead]
section
variable {T : Tbl} [CLimb T] [CNat T] [CProd T] [CTwos T] [CQuot T] [CQuotD T] [CWhole T] [CCommon T] [CFrac T] [CFrac3 T] [CFrac5 T] [CPow T] [CTape T] [CGauge T] [CEval T] [CRun T] [CIfc T]
theorem gI_get {D : List Rat} {a : Int} (h : 0 ≤ a ∧ a < D.length) : ∃ k : Nat, a = k ∧ (k : Int) < D.length ∧ k < D.length ∧ (fzs D)[k]? = some (fz (gI D a)) := by
 obtain ⟨k, rfl⟩ : ∃ k : Nat, a = k := ⟨a.toNat, by omega⟩
 have hk : k < D.length := by omega
 refine ⟨k, rfl, by omega, hk, ?_⟩
 have e : gI D (k : Int) = D[k]'hk := by simp [gI, List.getD, List.getElem?_eq_getElem hk]
 rw [e]
 exact fzs_get (List.getElem?_eq_getElem hk)
theorem gI_sz {D : List Rat} {a : Int} {B : Nat} (hB : 1 ≤ B) (h : ∀ q ∈ D, sz q ≤ B) : sz (gI D a) ≤ B := by
 unfold gI List.getD
 cases hx : D[a.toNat]? with
 | none => exact Nat.le_trans (Nat.le_of_eq sz_zero) hB
 | some q => exact h q (List.mem_of_getElem? hx)
end
theorem blen_len {n b : Nat} (h : blen n ≤ b) : (ofN n).length ≤ b / 32 + 1 := by
 refine ofN_length_le' ?_
 unfold blen at h
 split at h
 ·rename_i h0
  subst h0
  exact Nat.pow_pos (by decide)
 ·rename_i h0
  have h1 : n < 2 ^ (n.log2 + 1) := (Nat.log2_lt h0).1 (Nat.lt_succ_self _)
  have h3 : (4294967296 : Nat) ^ (b / 32 + 1) = 2 ^ (32 * (b / 32 + 1)) := by rw [Nat.pow_mul]
  have h2 : 2 ^ (n.log2 + 1) ≤ 2 ^ (32 * (b / 32 + 1)) := Nat.pow_le_pow_right (by decide) (by omega)
  omega
theorem sizQ_sz {q : Rat} {b : Nat} (h : sizQ q ≤ b) : sz q ≤ b / 32 + 1 := by
 unfold sizQ sizF fz at h
 rw [val_ofN, val_ofN] at h
 exact Nat.max_le.2 ⟨blen_len (Nat.le_trans (Nat.le_add_right _ _) h), blen_len (Nat.le_trans (Nat.le_add_left _ _) h)⟩
theorem sz_pow (q : Rat) (n : Nat) : sz (q ^ n) ≤ n * sz q + 1 := by
 unfold sz
 rw [Rat.num_pow, Rat.den_pow, Int.natAbs_pow]
 exact Nat.max_le.2 ⟨pow_len (Nat.le_max_left _ _) n, pow_len (Nat.le_max_right _ _) n⟩
theorem powZ_sz {q : Rat} {e : Int} {B : Nat} (hq : sz q ≤ B) (h1 : -8 ≤ e) (h2 : e ≤ 8) : sz (powZ q e) ≤ 8 * B + 1 := by
 unfold powZ
 rcases Int.le_total 0 e with h | h
 ·obtain ⟨n, rfl⟩ : ∃ n : Nat, e = n := ⟨e.toNat, by omega⟩
  rw [Rat.zpow_natCast]
  have := sz_pow q n
  have h3 : n * sz q ≤ 8 * B := Nat.mul_le_mul (by omega) hq
  omega
 ·obtain ⟨n, rfl⟩ : ∃ n : Nat, e = -(n : Int) := ⟨(-e).toNat, by omega⟩
  rw [Rat.zpow_neg, Rat.zpow_natCast]
  have := sz_pow q n
  have h3 : n * sz q ≤ 8 * B := Nat.mul_le_mul (by omega) hq
  have := sz_inv (q ^ n)
  omega
structure PvS (P : Po) (B : Nat) : Prop where
 t : sz P.t ≤ B
 y : ∀ q ∈ P.y, sz q ≤ B
 p : ∀ q ∈ P.p, sz q ≤ B
def runG (lim : Nat) (P : Po) : List Ins → List Rat → Int → Int → Int × Int
 | [], _, s, p => (s, p)
 | i :: r, D, s, p => if (valI P D i).2 = false then (s, p) else if lim < sizQ (valI P D i).1 then (cntS s, cntP p (fz (valI P D i).1)) else runG lim P r (D ++ [(valI P D i).1]) (cntS s) (cntP p (fz (valI P D i).1))
abbrev bxM : Box := ⟨3, .str, 1, [[.ptr (.bor 0) 0 3 0 0]]⟩
abbrev bxP (g : Nat) (x : PoF) : Box := ⟨g, .str, 5, [[.b x.t.1, .sl (u32s x.t.2.1) .an, .sl (u32s x.t.2.2) .an, .sl (rowF x.y) .an, .sl (rowF x.p) .an]]⟩
abbrev bxF (g : Nat) (a b c d : Int) : Box := ⟨g, .str, 4, [[.i .i64 a, .i .i64 b, .i .i64 c, .i .i64 d]]⟩
def stRun (Q : PoF) (L : Int) (code : List Ins) (i : Nat) (D : List Fz) (s p : Int) (kd : Kind) : St :=
 ⟨[(3, .ptr (.loc 3) 3 1 0 0), (5, .ptr (.loc 5) 4 5 0 0), (7, .ptr (.loc 7) 5 4 0 0), (8, .bs (.loc 8) 6 3 0 i), (34, .sl (rowI code) .an), (35, .i .i64 code.length), (36, .i .i64 i)],
  [(.bor 0, bxG 0 s p L), (.loc 3, bxM), (.loc 5, bxP 4 Q), (.loc 7, bxF 5 0 0 0 0), (.loc 8, ⟨6, kd, 3, rowF D⟩)], 8⟩
def endN (n : Nat) (D : List Fz) (s p L : Int) (kd : Kind) : Ex × St := (.n, ⟨[(7, .ptr (.loc 7) 3 4 0 0), (8, .bs (.loc 8) 4 3 0 n)], [(.bor 0, bxG 0 s p L), (.loc 7, bxF 3 0 0 0 0), (.loc 8, ⟨4, kd, 3, rowF D⟩)], 6⟩)
def endR (kind at_ s p L : Int) : Ex × St := (.r, ⟨[(6, .sl [] .an), (7, .ptr (.loc 7) 3 4 0 0)], [(.bor 0, bxG 0 s p L), (.loc 7, bxF 3 kind 0 0 at_)], 5⟩)
section
variable {T : Tbl} [CLimb T] [CNat T] [CProd T] [CTwos T] [CQuot T] [CQuotD T] [CWhole T] [CCommon T] [CFrac T] [CFrac3 T] [CFrac5 T] [CPow T] [CTape T] [CGauge T] [CEval T] [CRun T] [CIfc T]
def kdE (kd : Kind) (l : List Ins) : Kind := if l = [] then kd else .sh
def endRun (lim : Nat) (P : Po) (code l : List Ins) (D : List Rat) (s p : Int) (kd : Kind) : Ex × St :=
 if (runR lim P l D).2.1 = 0 then endN code.length (fzs (runR lim P l D).1) (runG lim P l D s p).1 (runG lim P l D s p).2 lim (kdE kd l)
 else endR (runR lim P l D).2.1 (runR lim P l D).2.2 (runG lim P l D s p).1 (runG lim P l D s p).2 lim
end
def leafV (P : Po) (ls : List Rat) (x : Nd) : Rat := if x.op = 1 then ((val x.n : Nat) : Rat) else if x.op = 3 then gI P.y x.i else if x.op = 4 then gI P.p x.i else if x.op = 5 then gI ls x.i else P.t
def unV (x : Nd) (a : Rat) : Rat × Bool := if x.op = 6 then (-a, true) else powR a x.i
def biV (op : Int) (a b : Rat) : Rat × Bool := if op = 7 then (a + b, true) else if op = 8 then (a - b, true) else if op = 9 then (a * b, true) else (a / b, decide (b ≠ 0))
def finV (lim : Nat) (v : Rat × Bool) (i : Nat) : Rat × Nat × Nat := if v.2 = false then (0, 3, i) else if lim < sizQ v.1 then (0, 6, i) else (v.1, 0, 0)
def stepV (P : Po) (ls : List Rat) (s : List Rat) (x : Nd) : (Rat × Bool) × List Rat :=
 if arN x.op = 0 then ((leafV P ls x, true), s) else if arN x.op = 1 then (unV x (s.headD 0), s.tail) else (biV x.op (s.tail.headD 0) (s.headD 0), s.tail.tail)
def walkR (lim : Nat) (P : Po) (ls : List Rat) : Nat → List Rat → List Nd → Rat × Nat × Nat
 | _, s, [] => (s.headD 0, 0, 0)
 | i, s, x :: r => if (finV lim (stepV P ls s x).1 i).2.1 ≠ 0 then finV lim (stepV P ls s x).1 i else walkR lim P ls (i + 1) ((stepV P ls s x).1.1 :: (stepV P ls s x).2) r
def evT (lim : Nat) (P : Po) (ls : List Rat) : Tre → Nat → Rat × Nat × Nat
 | .leaf x, i => finV lim (leafV P ls x, true) i
 | .un x a, i => if (evT lim P ls a i).2.1 ≠ 0 then evT lim P ls a i else finV lim (unV x (evT lim P ls a i).1) (i + a.flat.length)
 | .bin x a b, i => if (evT lim P ls a i).2.1 ≠ 0 then evT lim P ls a i else if (evT lim P ls b (i + a.flat.length)).2.1 ≠ 0 then evT lim P ls b (i + a.flat.length)
   else finV lim (biV x.op (evT lim P ls a i).1 (evT lim P ls b (i + a.flat.length)).1) (i + a.flat.length + b.flat.length)
theorem finV_ok {lim : Nat} {v : Rat × Bool} {i : Nat} (h : (finV lim v i).2.1 = 0) : v.2 = true ∧ sizQ v.1 ≤ lim ∧ finV lim v i = (v.1, 0, 0) := by
 unfold finV at h ⊢
 by_cases h1 : v.2 = false
 ·rw [if_pos h1] at h; exact absurd h (by simp)
 ·rw [if_neg h1] at h ⊢
  by_cases h2 : lim < sizQ v.1
  ·rw [if_pos h2] at h; exact absurd h (by simp)
  ·rw [if_neg h2]
   exact ⟨by simpa using h1, by omega, rfl⟩
theorem finV_kind (lim : Nat) (v : Rat × Bool) (i : Nat) : (finV lim v i).2.1 = 0 ∨ (finV lim v i).2.1 = 3 ∨ (finV lim v i).2.1 = 6 := by
 unfold finV
 split
 ·exact .inr (.inl rfl)
 ·split
  ·exact .inr (.inr rfl)
  ·exact .inl rfl
theorem finV_stop {lim : Nat} {v : Rat × Bool} {i : Nat} (h : (finV lim v i).2.1 ≠ 0) : (finV lim v i).1 = 0 ∧ (finV lim v i).2.2 = i := by
 unfold finV at h ⊢
 split
 ·exact ⟨rfl, rfl⟩
 ·next h1 =>
  rw [if_neg h1] at h
  split
  ·exact ⟨rfl, rfl⟩
  ·next h2 =>
   rw [if_neg h2] at h
   exact absurd rfl h
theorem walk_flat (lim : Nat) (P : Po) (ls : List Rat) : ∀ (t : Tre), t.ok → ∀ (i : Nat) (s : List Rat) (r : List Nd), walkR lim P ls i s (t.flat ++ r) = if (evT lim P ls t i).2.1 ≠ 0 then evT lim P ls t i else walkR lim P ls (i + t.flat.length) ((evT lim P ls t i).1 :: s) r
 | .leaf x, h, i, s, r => by
  have e : arN x.op = 0 := h
  show walkR lim P ls i s (x :: r) = _
  have es : stepV P ls s x = ((leafV P ls x, true), s) := by unfold stepV; rw [if_pos e]
  rw [walkR, es]
  show (if (finV lim (leafV P ls x, true) i).2.1 ≠ 0 then _ else _) = if (finV lim (leafV P ls x, true) i).2.1 ≠ 0 then finV lim (leafV P ls x, true) i else _
  by_cases hk : (finV lim (leafV P ls x, true) i).2.1 = 0
  ·rw [if_neg (by simpa using hk), if_neg (by simpa using hk)]
   have := (finV_ok hk).2.2
   show walkR lim P ls (i + 1) (leafV P ls x :: s) r = walkR lim P ls (i + 1) ((finV lim (leafV P ls x, true) i).1 :: s) r
   rw [this]
  ·rw [if_pos hk, if_pos hk]
 | .un x a, h, i, s, r => by
  have e : arN x.op = 1 := h.1
  rw [Tre.flat, List.append_assoc, walk_flat lim P ls a h.2]
  by_cases ha : (evT lim P ls a i).2.1 = 0
  ·rw [if_neg (by simpa using ha)]
   have ee : evT lim P ls (.un x a) i = finV lim (unV x (evT lim P ls a i).1) (i + a.flat.length) := by show (if _ then _ else _) = _; rw [if_neg (by simpa using ha)]
   rw [ee]
   show walkR lim P ls (i + a.flat.length) ((evT lim P ls a i).1 :: s) (x :: r) = _
   have es : stepV P ls ((evT lim P ls a i).1 :: s) x = (unV x (evT lim P ls a i).1, s) := by unfold stepV; rw [if_neg (by omega), if_pos e]; rfl
   rw [walkR, es]
   by_cases hk : (finV lim (unV x (evT lim P ls a i).1) (i + a.flat.length)).2.1 = 0
   ·rw [if_neg (by simpa using hk), if_neg (by simpa using hk), (finV_ok hk).2.2, List.length_append]
    rfl
   ·rw [if_pos hk, if_pos hk]
  ·rw [if_pos ha]
   have ee : evT lim P ls (.un x a) i = evT lim P ls a i := by show (if _ then _ else _) = _; rw [if_pos ha]
   rw [ee, if_pos ha]
 | .bin x a b, h, i, s, r => by
  have e : arN x.op = 2 := h.1
  rw [Tre.flat, List.append_assoc, walk_flat lim P ls a h.2.1]
  by_cases ha : (evT lim P ls a i).2.1 = 0
  ·rw [if_neg (by simpa using ha), List.append_assoc, walk_flat lim P ls b h.2.2]
   by_cases hb : (evT lim P ls b (i + a.flat.length)).2.1 = 0
   ·rw [if_neg (by simpa using hb)]
    have ee : evT lim P ls (.bin x a b) i = finV lim (biV x.op (evT lim P ls a i).1 (evT lim P ls b (i + a.flat.length)).1) (i + a.flat.length + b.flat.length) := by
     show (if _ then _ else _) = _; rw [if_neg (by simpa using ha), if_neg (by simpa using hb)]
    rw [ee]
    show walkR lim P ls (i + a.flat.length + b.flat.length) ((evT lim P ls b (i + a.flat.length)).1 :: (evT lim P ls a i).1 :: s) (x :: r) = _
    have es : stepV P ls ((evT lim P ls b (i + a.flat.length)).1 :: (evT lim P ls a i).1 :: s) x = (biV x.op (evT lim P ls a i).1 (evT lim P ls b (i + a.flat.length)).1, s) := by
     unfold stepV; rw [if_neg (by omega), if_neg (by omega)]; rfl
    rw [walkR, es]
    by_cases hk : (finV lim (biV x.op (evT lim P ls a i).1 (evT lim P ls b (i + a.flat.length)).1) (i + a.flat.length + b.flat.length)).2.1 = 0
    ·rw [if_neg (by simpa using hk), if_neg (by simpa using hk), (finV_ok hk).2.2, List.length_append, List.length_append]
     simp only [Nat.add_assoc]
     rfl
    ·rw [if_pos hk, if_pos hk]
   ·rw [if_pos hb]
    have ee : evT lim P ls (.bin x a b) i = evT lim P ls b (i + a.flat.length) := by show (if _ then _ else _) = _; rw [if_neg (by simpa using ha), if_pos hb]
    rw [ee, if_pos hb]
  ·rw [if_pos ha]
   have ee : evT lim P ls (.bin x a b) i = evT lim P ls a i := by show (if _ then _ else _) = _; rw [if_pos ha]
   rw [ee, if_pos ha]
theorem evT_kind (lim : Nat) (P : Po) (ls : List Rat) : ∀ (t : Tre) (i : Nat), (evT lim P ls t i).2.1 = 0 ∨ (evT lim P ls t i).2.1 = 3 ∨ (evT lim P ls t i).2.1 = 6
 | .leaf x, i => finV_kind _ _ _
 | .un x a, i => by
  unfold evT
  split
  ·exact evT_kind lim P ls a i
  ·exact finV_kind _ _ _
 | .bin x a b, i => by
  unfold evT
  split
  ·exact evT_kind lim P ls a i
  ·split
   ·exact evT_kind lim P ls b _
   ·exact finV_kind _ _ _
theorem evT_ok {lim : Nat} {P : Po} {ls : List Rat} : ∀ {t : Tre} {i : Nat}, (evT lim P ls t i).2.1 = 0 → (evT lim P ls t i).2.2 = 0 ∧ sizQ (evT lim P ls t i).1 ≤ lim
 | .leaf x, i, h => by
  have := finV_ok (show (finV lim (leafV P ls x, true) i).2.1 = 0 from h)
  show (finV lim (leafV P ls x, true) i).2.2 = 0 ∧ sizQ (finV lim (leafV P ls x, true) i).1 ≤ lim
  rw [this.2.2]; exact ⟨rfl, this.2.1⟩
 | .un x a, i, h => by
  unfold evT at h ⊢
  split
  ·next ha => rw [if_pos ha] at h; exact absurd h ha
  ·next ha =>
   rw [if_neg ha] at h
   have := finV_ok h
   rw [this.2.2]; exact ⟨rfl, this.2.1⟩
 | .bin x a b, i, h => by
  unfold evT at h ⊢
  split
  ·next ha => rw [if_pos ha] at h; exact absurd h ha
  ·next ha =>
   rw [if_neg ha] at h
   split
   ·next hb => rw [if_pos hb] at h; exact absurd h hb
   ·next hb =>
    rw [if_neg hb] at h
    have := finV_ok h
    rw [this.2.2]; exact ⟨rfl, this.2.1⟩
theorem walk_tree (lim : Nat) (P : Po) (ls : List Rat) (t : Tre) (h : t.ok) (i : Nat) : walkR lim P ls i [] t.flat = evT lim P ls t i := by
 have := walk_flat lim P ls t h i [] []
 rw [List.append_nil] at this
 rw [this]
 by_cases hk : (evT lim P ls t i).2.1 = 0
 ·rw [if_neg (by simpa using hk)]
  show ((evT lim P ls t i).1, 0, 0) = _
  have := (evT_ok hk).1
  exact Prod.ext rfl (Prod.ext hk.symm this.symm)
 ·rw [if_pos hk]
theorem leafV_sz {P : Po} {ls : List Rat} {x : Nd} (hP : PvS P 1000) (hls : ∀ q ∈ ls, sz q ≤ 1000) (hx : x.n.length ≤ 1000) : sz (leafV P ls x) ≤ 1000 := by
 unfold leafV
 split
 ·unfold sz
  have h1 := ofN_length_le x.n
  have e1 : ((val x.n : Nat) : Rat).num.natAbs = val x.n := by simp
  have e2 : ((val x.n : Nat) : Rat).den = 1 := by simp
  rw [e1, e2, ofN_one]
  exact Nat.max_le.2 ⟨by omega, by decide⟩
 ·split
  ·exact gI_sz (by decide) hP.y
  ·split
   ·exact gI_sz (by decide) hP.p
   ·split
    ·exact gI_sz (by decide) hls
    ·exact hP.t
theorem unV_sz {x : Nd} {a : Rat} (ha : sz a ≤ 129) : sz (unV x a).1 ≤ 2000 := by
 unfold unV
 split
 ·simp only [sz_neg]; omega
 ·unfold powR
  split
  ·next h =>
   have := powZ_sz ha h.1 h.2.1
   show sz (powZ a x.i) ≤ 2000
   omega
  ·simp [sz_zero]
theorem biV_sz {op : Int} {a b : Rat} (ha : sz a ≤ 129) (hb : sz b ≤ 129) : sz (biV op a b).1 ≤ 2000 := by
 unfold biV
 split
 ·have := sz_add a b; simp only; omega
 ·split
  ·have := sz_sub a b; simp only; omega
  ·split
   ·have := sz_mul a b; simp only; omega
   ·have := sz_div a b; simp only; omega
theorem fit_sz {lim : Nat} {q : Rat} (hl : lim ≤ 4096) (h : sizQ q ≤ lim) : sz q ≤ 129 := by
 have := sizQ_sz h
 have : lim / 32 ≤ 128 := by omega
 omega
def walkG (lim : Nat) (P : Po) (ls : List Rat) : List Rat → List Nd → Int → Int → Int × Int
 | _, [], c, p => (c, p)
 | s, x :: r, c, p => if (stepV P ls s x).1.2 = false then (c, p) else if lim < sizQ (stepV P ls s x).1.1 then (cntS c, cntP p (fz (stepV P ls s x).1.1))
   else walkG lim P ls ((stepV P ls s x).1.1 :: (stepV P ls s x).2) r (cntS c) (cntP p (fz (stepV P ls s x).1.1))
abbrev hpA (gk : Nat) (Q : PoF) (LS : List Fz) (s p L seen : Int) (F : List Fz) (m : Nat) : Heap :=
 [(.bor 0, ⟨0, .str, 9, [[.b Q.t.1, .sl (u32s Q.t.2.1) .an, .sl (u32s Q.t.2.2) .an, .sl (rowF Q.y) .an, .sl (rowF Q.p) .an, .sl (rowF LS) .an, .ptr (.bor 1) 1 3 0 0, .i .i64 seen, .bs (.bor 2) gk 3 0 m]]⟩), (.bor 1, bxG 1 s p L), (.bor 2, ⟨gk, .own, 3, rowF F⟩)]
abbrev wP : AV := .ptr (.bor 0) 0 9 0 0
section
variable {T : Tbl} [CLimb T] [CNat T] [CProd T] [CTwos T] [CQuot T] [CQuotD T] [CWhole T] [CCommon T] [CFrac T] [CFrac2 T] [CFrac3 T] [CFrac5 T] [CPow T] [CTape T] [CGauge T] [CEval T] [CEval2 T] [CTree T] [CText T] [CLenD T]
theorem frac_new_A (a : List UInt32) (ha : a.length ≤ 10000) : callF T 204 [.agg [.b false, .sl (u32s a) .an], .sl [[u32 1]] .an] = some (.tup [efz (fz ((val a : Nat) : Rat)), .b true]) := by
 have c1 : callF T 70 [.sl [[u32 1]] .an] = some (.b false) := nat_zero (T := T) [1] (by decide)
 have c2 : callF T 202 [.agg [.b false, .sl (u32s a) .an], .sl [[u32 1]] .an] = some (efz (fz (mkRat (wv false a) 1))) := frac_cancel (T := T) false a [1] ha (by decide) (by decide)
 have e : mkRat (wv false a) 1 = ((val a : Nat) : Rat) := by
  rw [Rat.mkRat_one]
  rfl
 rw [e] at c2
 rw [f204 _ rfl, b204]
 generalize fz ((val a : Nat) : Rat) = R at *
 simp -implicitDefEqProofs [c1, c2]
theorem pop_A (Q : PoF) (LS : List Fz) (s p L seen : Int) (F : List Fz) (m : Nat) (x : Fz) (hx : F[m]? = some x) (hm : m ≤ 100000) : callH T 490 [wP] (hpA 2 Q LS s p L seen F (m + 1)) = some (efz x, hpA 2 Q LS s p L seen F m) := by
 obtain ⟨hlt, hge⟩ := List.getElem?_eq_some_iff.1 hx
 have hw : IntKind.wrap .i64 (m : Int) = m := wrap_i64 _ (by omega)
 have h1 : (m : Int) < (m : Int) + 1 := by omega
 have h2 : (m : Int) ≤ (m : Int) + 1 := by omega
 obtain ⟨⟨q0, q1, q2⟩, qy, qp⟩ := Q
 obtain ⟨x0, x1, x2⟩ := x
 rw [f490 _ _ rfl, b490]
 simp -implicitDefEqProofs [hx, hge, hlt, hw, h1, h2]
theorem leaf_A (P : Po) (ls : List Rat) (s p L seen : Int) (F : List Fz) (m : Nat) (x : Nd) (ha : arN x.op = 0) (hn : x.n.length ≤ 1000) (hy : x.op = 3 → 0 ≤ x.i ∧ x.i < P.y.length) (hp : x.op = 4 → 0 ≤ x.i ∧ x.i < P.p.length) (hl : x.op = 5 → 0 ≤ x.i ∧ x.i < ls.length) :
  callH T 489 [wP, .agg (celN x)] (hpA 2 P.f (fzs ls) s p L seen F m) = some (efz (fz (leafV P ls x)), hpA 2 P.f (fzs ls) s p L seen F m) := by
 have hop : x.op = 1 ∨ x.op = 2 ∨ x.op = 3 ∨ x.op = 4 ∨ x.op = 5 := by rcases arN_cases x.op with ⟨e, h⟩ | ⟨e, h⟩ | ⟨e, h⟩ | ⟨e, h⟩ <;> omega
 have c1 := frac_new_A (T := T) x.n (by omega)
 obtain ⟨op, i, n⟩ := x
 obtain ⟨t, y, pp⟩ := P
 dsimp only at *
 unfold leafV Po.f
 dsimp only
 rw [f489 _ _ rfl, b489]
 rcases hop with rfl | rfl | rfl | rfl | rfl
 ·show _ = some (efz (fz ((val n : Nat) : Rat)), _)
  generalize fz ((val n : Nat) : Rat) = z at *
  generalize fzs y = Y at *
  generalize fzs pp = PP at *
  generalize fzs ls = LL at *
  generalize fz t = tt at *
  obtain ⟨t0, t1, t2⟩ := tt
  simp -implicitDefEqProofs [c1]
 ·show _ = some (efz (fz t), _)
  generalize fzs y = Y at *
  generalize fzs pp = PP at *
  generalize fzs ls = LL at *
  generalize fz t = tt at *
  obtain ⟨t0, t1, t2⟩ := tt
  simp -implicitDefEqProofs
 ·obtain ⟨k, rfl, g1, g2, g3⟩ := gI_get (hy rfl)
  have g4 := (List.getElem?_eq_some_iff.1 g3).2
  have hl2 : (fzs y).length = y.length := fzs_length y
  show _ = some (efz (fz (gI y (k : Int))), _)
  generalize fz (gI y (k : Int)) = z at *
  generalize fzs y = Y at *
  generalize fzs pp = PP at *
  generalize fzs ls = LL at *
  generalize fz t = tt at *
  obtain ⟨t0, t1, t2⟩ := tt
  simp -implicitDefEqProofs [g1, g2, g3, g4, hl2]
 ·obtain ⟨k, rfl, g1, g2, g3⟩ := gI_get (hp rfl)
  have g4 := (List.getElem?_eq_some_iff.1 g3).2
  have hl2 : (fzs pp).length = pp.length := fzs_length pp
  show _ = some (efz (fz (gI pp (k : Int))), _)
  generalize fz (gI pp (k : Int)) = z at *
  generalize fzs y = Y at *
  generalize fzs pp = PP at *
  generalize fzs ls = LL at *
  generalize fz t = tt at *
  obtain ⟨t0, t1, t2⟩ := tt
  simp -implicitDefEqProofs [g1, g2, g3, g4, hl2]
 ·obtain ⟨k, rfl, g1, g2, g3⟩ := gI_get (hl rfl)
  have g4 := (List.getElem?_eq_some_iff.1 g3).2
  have hl2 : (fzs ls).length = ls.length := fzs_length ls
  show _ = some (efz (fz (gI ls (k : Int))), _)
  generalize fz (gI ls (k : Int)) = z at *
  generalize fzs y = Y at *
  generalize fzs pp = PP at *
  generalize fzs ls = LL at *
  generalize fz t = tt at *
  obtain ⟨t0, t1, t2⟩ := tt
  simp -implicitDefEqProofs [g1, g2, g3, g4, hl2]
theorem value0_A (Q : PoF) (LS : List Fz) (s p L seen : Int) (F : List Fz) (m : Nat) (x : Nd) (ha : arN x.op = 0) (v : Fz)
  (c : callH T 489 [wP, .agg (celN x)] (hpA 2 Q LS s p L seen F m) = some (efz v, hpA 2 Q LS s p L seen F m)) :
  callH T 484 [wP, .agg (celN x)] (hpA 2 Q LS s p L seen F m) = some (.tup [efz v, .b true], hpA 2 Q LS s p L seen F m) := by
 have ca := tree_arity (T := T) x.op
 rw [ha] at ca
 obtain ⟨⟨q0, q1, q2⟩, qy, qp⟩ := Q
 obtain ⟨op, i, n⟩ := x
 rw [f484 _ _ rfl, b484]
 simp -implicitDefEqProofs [ca, c]
theorem value1_A (Q : PoF) (LS : List Fz) (s p L seen : Int) (F : List Fz) (m : Nat) (x : Nd) (ha : arN x.op = 1) (a : Rat) (hz : sz a ≤ 129) (hx : F[m]? = some (fz a)) (hm : m ≤ 100000) :
  callH T 484 [wP, .agg (celN x)] (hpA 2 Q LS s p L seen F (m + 1)) = some (.tup [efz (fz (unV x a).1), .b (unV x a).2], hpA 2 Q LS s p L seen F m) := by
 have ca := tree_arity (T := T) x.op
 rw [ha] at ca
 have hop : x.op = 6 ∨ x.op = 11 := by rcases arN_cases x.op with ⟨e, h⟩ | ⟨e, h⟩ | ⟨e, h⟩ | ⟨e, h⟩ <;> omega
 have cp := pop_A (T := T) Q LS s p L seen F m (fz a) hx hm
 have c6 := frac_neg (T := T) (fz a) (by rw [fsz_fz]; omega)
 have c11 := frac_pow (T := T) (fz a) x.i (by rw [fsz_fz]; omega)
 rw [fv_fz] at c6 c11
 obtain ⟨⟨q0, q1, q2⟩, qy, qp⟩ := Q
 obtain ⟨op, i, n⟩ := x
 dsimp only at *
 unfold unV
 dsimp only
 rw [f484 _ _ rfl, b484]
 rcases hop with rfl | rfl
 ·rw [if_pos rfl]
  dsimp only
  generalize fz (-a) = z at *
  generalize fz a = u at *
  simp -implicitDefEqProofs [ca, cp, c6]
 ·rw [if_neg (by decide)]
  generalize fz (powR a i).1 = z at *
  generalize (powR a i).2 = ok at *
  generalize fz a = u at *
  simp -implicitDefEqProofs [ca, cp, c11]
theorem value2_A (Q : PoF) (LS : List Fz) (s p L seen : Int) (F : List Fz) (m : Nat) (x : Nd) (ha : arN x.op = 2) (a b : Rat) (hza : sz a ≤ 129) (hzb : sz b ≤ 129) (hx : F[m]? = some (fz a)) (hx2 : F[m + 1]? = some (fz b)) (hm : m ≤ 90000) :
  callH T 484 [wP, .agg (celN x)] (hpA 2 Q LS s p L seen F (m + 2)) = some (.tup [efz (fz (biV x.op a b).1), .b (biV x.op a b).2], hpA 2 Q LS s p L seen F m) := by
 have ca := tree_arity (T := T) x.op
 rw [ha] at ca
 have hop : x.op = 7 ∨ x.op = 8 ∨ x.op = 9 ∨ x.op = 10 := by rcases arN_cases x.op with ⟨e, h⟩ | ⟨e, h⟩ | ⟨e, h⟩ | ⟨e, h⟩ <;> omega
 have cp := pop_A (T := T) Q LS s p L seen F m (fz a) hx (by omega)
 have cp2 := pop_A (T := T) Q LS s p L seen F (m + 1) (fz b) hx2 (by omega)
 have sa : fsz (fz a) ≤ 1000 := by rw [fsz_fz]; omega
 have sb : fsz (fz b) ≤ 1000 := by rw [fsz_fz]; omega
 have c7 := frac_add (T := T) (fz a) (fz b) sa sb
 have c8 := frac_sub (T := T) (fz a) (fz b) sa sb
 have c9 := frac_mul (T := T) (fz a) (fz b) sa sb
 have c10 := frac_quo (T := T) (fz a) (fz b) sa sb
 rw [fv_fz, fv_fz] at c7 c8 c9 c10
 obtain ⟨⟨q0, q1, q2⟩, qy, qp⟩ := Q
 obtain ⟨op, i, n⟩ := x
 dsimp only at *
 unfold biV
 rw [f484 _ _ rfl, b484]
 rcases hop with rfl | rfl | rfl | rfl
 ·rw [if_pos rfl]
  dsimp only
  generalize fz (a + b) = z at *
  generalize fz a = u at *
  generalize fz b = w at *
  simp -implicitDefEqProofs [ca, cp, cp2, c7]
 ·rw [if_neg (by decide), if_pos rfl]
  dsimp only
  generalize fz (a - b) = z at *
  generalize fz a = u at *
  generalize fz b = w at *
  simp -implicitDefEqProofs [ca, cp, cp2, c8]
 ·rw [if_neg (by decide), if_neg (by decide), if_pos rfl]
  dsimp only
  generalize fz (a * b) = z at *
  generalize fz a = u at *
  generalize fz b = w at *
  simp -implicitDefEqProofs [ca, cp, cp2, c9]
 ·rw [if_neg (by decide), if_neg (by decide), if_neg (by decide)]
  dsimp only
  generalize fz (a / b) = z at *
  generalize decide (b ≠ 0) = ok at *
  generalize fz a = u at *
  generalize fz b = w at *
  simp -implicitDefEqProofs [ca, cp, cp2, c10]
end
abbrev bx4A (z : Fz) : Box := ⟨7, .str, 3, [[.b z.1, .sl (u32s z.2.1) .an, .sl (u32s z.2.2) .an]]⟩
abbrev bx5A (a b c d : Int) : Box := ⟨8, .str, 4, [[.i .i64 a, .i .i64 b, .i .i64 c, .i .i64 d]]⟩
abbrev hqA (gk : Nat) (Q : PoF) (LS : List Fz) (s p L seen : Int) (F : List Fz) (m : Nat) (z : Fz) (a b c d : Int) : Heap :=
 [(.bor 0, ⟨0, .str, 9, [[.b Q.t.1, .sl (u32s Q.t.2.1) .an, .sl (u32s Q.t.2.2) .an, .sl (rowF Q.y) .an, .sl (rowF Q.p) .an, .sl (rowF LS) .an, .ptr (.bor 1) 1 3 0 0, .i .i64 seen, .bs (.bor 2) gk 3 0 m]]⟩), (.bor 1, bxG 1 s p L), (.bor 2, ⟨gk, .own, 3, rowF F⟩), (.loc 4, bx4A z), (.loc 5, bx5A a b c d)]
def stWA (gk : Nat) (Q : PoF) (LS : List Fz) (s p L seen : Int) (F : List Fz) (m : Nat) (code : List Nd) (i : Nat) : St :=
 ⟨[(0, wP), (4, .ptr (.loc 4) 7 3 0 0), (5, .ptr (.loc 5) 8 4 0 0), (18, .sl (rowN code) .an), (19, .i .i64 code.length), (20, .i .i64 i)], hqA gk Q LS s p L seen F m (false, [], []) 0 0 0 0, 10⟩
def endWA (gk : Nat) (Q : PoF) (LS : List Fz) (s p L seen : Int) (F : List Fz) (m : Nat) : Ex × St :=
 (.n, ⟨[(0, wP), (4, .ptr (.loc 4) 7 3 0 0), (5, .ptr (.loc 5) 8 4 0 0)], hqA gk Q LS s p L seen F m (false, [], []) 0 0 0 0, 10⟩)
def endSA (gk : Nat) (Q : PoF) (LS : List Fz) (s p L seen : Int) (F : List Fz) (m : Nat) (kind at_ : Int) : Ex × St :=
 (.r, ⟨[(4, .ptr (.loc 4) 7 3 0 0), (5, .ptr (.loc 5) 8 4 0 0)], hqA gk Q LS s p L seen F m (fz 0) kind 0 0 at_, 10⟩)
theorem rowF_pushA (m : List Fz) (v : Fz) : wkL (rowF m ++ [[.b v.1, .sl (u32s v.2.1) .an, .sl (u32s v.2.2) .an]]) = rowF (m ++ [v]) := by
 have : rowF m ++ [celF v] = rowF (m ++ [v]) := rowF_snoc m v
 rw [show [[AV.b v.1, .sl (u32s v.2.1) .an, .sl (u32s v.2.2) .an]] = [celF v] from rfl, this, rowF_wk]
section
variable {T : Tbl} [CLimb T] [CNat T] [CProd T] [CTwos T] [CQuot T] [CQuotD T] [CWhole T] [CCommon T] [CFrac T] [CFrac2 T] [CFrac3 T] [CFrac5 T] [CPow T] [CTape T] [CGauge T] [CEval T] [CEval2 T] [CTree T] [CText T] [CLenD T]
theorem wk_round_A {gk : Nat} (hk : gk = 2 ∨ gk = 6) (Q : PoF) (LS : List Fz) (s p L seen : Int) (F : List Fz) (m m2 : Nat) (code : List Nd) (i : Nat) (x : Nd) (v : Fz) (hx : code[i]? = some x) (hl : code.length ≤ 100000) (hm : m2 ≤ F.length) (hF : F.length ≤ 100000) (hs : 0 ≤ seen) (hs2 : seen ≤ 100000) (hv : fsz v ≤ 10000)
  (c : callH T 484 [wP, .agg (celN x)] (hpA 2 Q LS s p L seen F m) = some (.tup [efz v, .b true], hpA 2 Q LS s p L seen F m2)) (hf : (sizF v : Int) ≤ L) :
  evX (orc T) T 3 l473_0 (stWA gk Q LS s p L seen F m code i) = some (.n, stWA 6 Q LS (cntS s) (cntP p v) L (seen + 1) (F.take m2 ++ [v]) (m2 + 1) code (i + 1)) := by
 have cg := gauge_take (T := T) s p L v hv
 rw [decide_eq_true hf] at cg
 obtain ⟨hlt, hge⟩ := List.getElem?_eq_some_iff.1 hx
 have hlt' : (i : Int) < code.length := by omega
 have hws := wrapS hlt (by omega)
 have hw : IntKind.wrap .i64 (seen + 1) = seen + 1 := wrap_i64 _ (by omega)
 have hpu := rowF_pushA (F.take m2) v
 have htl : (F.take m2).length = m2 := by rw [List.length_take]; omega
 have h32 : m2 + 1 ≤ 4294967296 := by omega
 generalize cntS s = s' at *
 generalize cntP p v = p' at *
 obtain ⟨⟨q0, q1, q2⟩, qy, qp⟩ := Q
 obtain ⟨op, xi, n⟩ := x
 obtain ⟨v0, v1, v2⟩ := v
 unfold stWA
 rcases hk with rfl | rfl
 ·simp -implicitDefEqProofs [l473_0, hlt, hlt', hx, hge, hws, c, cg, hw, hpu, hm, h32]
 ·simp -implicitDefEqProofs [l473_0, hlt, hlt', hx, hge, hws, c, cg, hw, hpu, hm, h32]
theorem wk_pole_A {gk : Nat} (hk : gk = 2 ∨ gk = 6) (Q : PoF) (LS : List Fz) (s p L seen : Int) (F : List Fz) (m m2 : Nat) (code : List Nd) (i : Nat) (x : Nd) (v : Fz) (hx : code[i]? = some x)
  (c : callH T 484 [wP, .agg (celN x)] (hpA 2 Q LS s p L seen F m) = some (.tup [efz v, .b false], hpA 2 Q LS s p L seen F m2)) :
  evX (orc T) T 3 l473_0 (stWA gk Q LS s p L seen F m code i) = some (endSA gk Q LS s p L seen F m2 3 seen) := by
 have c0 := frac_of0 (T := T)
 obtain ⟨hlt, hge⟩ := List.getElem?_eq_some_iff.1 hx
 have hlt' : (i : Int) < code.length := by omega
 unfold stWA endSA
 generalize fz 0 = Z at *
 obtain ⟨z0, z1, z2⟩ := Z
 obtain ⟨⟨q0, q1, q2⟩, qy, qp⟩ := Q
 obtain ⟨op, xi, n⟩ := x
 obtain ⟨v0, v1, v2⟩ := v
 rcases hk with rfl | rfl
 ·simp -implicitDefEqProofs [l473_0, hlt, hlt', hx, hge, c, c0]
 ·simp -implicitDefEqProofs [l473_0, hlt, hlt', hx, hge, c, c0]
theorem wk_bits_A {gk : Nat} (hk : gk = 2 ∨ gk = 6) (Q : PoF) (LS : List Fz) (s p L seen : Int) (F : List Fz) (m m2 : Nat) (code : List Nd) (i : Nat) (x : Nd) (v : Fz) (hx : code[i]? = some x) (hv : fsz v ≤ 10000)
  (c : callH T 484 [wP, .agg (celN x)] (hpA 2 Q LS s p L seen F m) = some (.tup [efz v, .b true], hpA 2 Q LS s p L seen F m2)) (hf : ¬ (sizF v : Int) ≤ L) :
  evX (orc T) T 3 l473_0 (stWA gk Q LS s p L seen F m code i) = some (endSA gk Q LS (cntS s) (cntP p v) L seen F m2 6 seen) := by
 have c0 := frac_of0 (T := T)
 have cg := gauge_take (T := T) s p L v hv
 rw [decide_eq_false hf] at cg
 obtain ⟨hlt, hge⟩ := List.getElem?_eq_some_iff.1 hx
 have hlt' : (i : Int) < code.length := by omega
 generalize cntS s = s' at *
 generalize cntP p v = p' at *
 unfold stWA endSA
 generalize fz 0 = Z at *
 obtain ⟨z0, z1, z2⟩ := Z
 obtain ⟨⟨q0, q1, q2⟩, qy, qp⟩ := Q
 obtain ⟨op, xi, n⟩ := x
 obtain ⟨v0, v1, v2⟩ := v
 rcases hk with rfl | rfl
 ·simp -implicitDefEqProofs [l473_0, hlt, hlt', hx, hge, c, cg, c0]
 ·simp -implicitDefEqProofs [l473_0, hlt, hlt', hx, hge, c, cg, c0]
theorem wk_end_A {gk : Nat} (hk : gk = 2 ∨ gk = 6) (Q : PoF) (LS : List Fz) (s p L seen : Int) (F : List Fz) (m : Nat) (code : List Nd) :
  isEx (evX (orc T) T 3 l473_0 (stWA gk Q LS s p L seen F m code code.length)) = true ∧ finX 3 0 (.norm false [0, 4, 5]) (evX (orc T) T 3 l473_0 (stWA gk Q LS s p L seen F m code code.length)) = some (endWA gk Q LS s p L seen F m) := by
 obtain ⟨⟨q0, q1, q2⟩, qy, qp⟩ := Q
 unfold stWA endWA
 rcases hk with rfl | rfl <;> constructor <;> simp -implicitDefEqProofs [l473_0]
end
theorem okN_ix {dim pars lets : Int} {x : Nd} (h : okN dim pars lets x = true) : (x.op = 3 → 0 ≤ x.i ∧ x.i < dim) ∧ (x.op = 4 → 0 ≤ x.i ∧ x.i < pars) ∧ (x.op = 5 → 0 ≤ x.i ∧ x.i < lets) := by
 unfold okN at h
 refine ⟨fun ho => ?_, fun ho => ?_, fun ho => ?_⟩
 all_goals
  rw [ho] at h
  rw [if_neg (by decide)] at h
  split at h
  ·cases h
  ·simpa [belB] using h
section
variable {T : Tbl} [CLimb T] [CNat T] [CProd T] [CTwos T] [CQuot T] [CQuotD T] [CWhole T] [CCommon T] [CFrac T] [CFrac2 T] [CFrac3 T] [CFrac5 T] [CPow T] [CTape T] [CGauge T] [CEval T] [CEval2 T] [CTree T] [CText T] [CLenD T]
theorem finS_A (gk : Nat) (Q : PoF) (LS : List Fz) (s p L seen : Int) (F : List Fz) (m : Nat) (kind at_ : Int) : finX 3 0 (.norm false [0, 4, 5]) (some (endSA gk Q LS s p L seen F m kind at_)) = some (endSA gk Q LS s p L seen F m kind at_) := by
 unfold endSA
 simp -implicitDefEqProofs
def endQA (P : Po) (lim : Nat) (ls : List Rat) (n : Nat) (R : Rat × Nat × Nat) (r : Ex × St) : Prop :=
 (R.2.1 = 0 ∧ ∃ gk s p F, (gk = 2 ∨ gk = 6) ∧ F[0]? = some (fz R.1) ∧ F.length ≤ 5000 ∧ r = endWA gk P.f (fzs ls) s p lim n F 1) ∨
 (R.2.1 ≠ 0 ∧ ∃ gk s p seen F m, (gk = 2 ∨ gk = 6) ∧ r = endSA gk P.f (fzs ls) s p lim seen F m R.2.1 R.2.2)
theorem code_loop_A (P : Po) (lim : Nat) (hlim : lim ≤ 4096) (ls : List Rat) (hP : PvS P 1000) (hls : ∀ q ∈ ls, sz q ≤ 1000) (code : List Nd) (hl : code.length ≤ 3000) (hok : ∀ x ∈ code, okN P.y.length P.p.length ls.length x = true) (hn : thin 1000 code) (hwr : wrongN code = -1) (n0 : Nat) (hn0 : n0 ≤ 10000) (s0 p0 : Int) (F0 : List Fz) (hF0 : F0.length ≤ 5000) :
  ∃ r, endQA P lim ls (n0 + code.length) (walkR lim P ls n0 [] code) r ∧ loopN T 3 0 (.norm false [0, 4, 5]) l473_0 (stWA 2 P.f (fzs ls) s0 p0 lim n0 F0 0 code 0) = some r := by
 refine loopN_ex (fun x : Nat × List Rat × Nat × (Int × Int) × List Fz => stWA x.2.2.1 P.f (fzs ls) x.2.2.2.1.1 x.2.2.2.1.2 lim ((n0 + x.1 : Nat) : Int) x.2.2.2.2 x.2.1.length code x.1)
  (fun x => x.1 ≤ code.length ∧ (x.2.2.1 = 2 ∨ x.2.2.1 = 6) ∧ x.2.2.2.2.take x.2.1.length = fzs x.2.1.reverse ∧ x.2.1.length ≤ x.2.2.2.2.length ∧ x.2.2.2.2.length ≤ 5000 ∧ (∀ q ∈ x.2.1, sz q ≤ 129) ∧ x.2.1.length ≤ x.1 ∧ (∃ j, wrongL j x.2.1.length (code.drop x.1) = -1) ∧ walkR lim P ls (n0 + x.1) x.2.1 (code.drop x.1) = walkR lim P ls n0 [] code)
  (fun x => code.length - x.1) _ ?_ (0, [], 2, (s0, p0), F0) ⟨Nat.zero_le _, .inl rfl, rfl, Nat.zero_le _, hF0, by simp, Nat.le_refl _, ⟨0, hwr⟩, rfl⟩
 rintro ⟨i, s, gk, ⟨c, p⟩, F⟩ ⟨hi, hk, hF, hsF, hFl, hz, hsi, ⟨j, hw⟩, hW⟩
 dsimp only at *
 by_cases hlt : i < code.length
 ·have hx : code[i]? = some (code[i]'hlt) := List.getElem?_eq_getElem hlt
  have hd : code.drop i = code[i]'hlt :: code.drop (i + 1) := List.drop_eq_getElem_cons hlt
  have hmem := List.getElem_mem hlt
  generalize code[i]'hlt = x at *
  rw [hd] at hw hW
  have hxn := hn x hmem
  have hxo := okN_ix (hok x hmem)
  have h1 : ¬ (arN x.op < 0 ∨ (s.length : Int) < arN x.op) := by
   intro hh
   unfold wrongL at hw
   rw [if_pos hh] at hw
   omega
  have hw2 : wrongL (j + 1) (s.length + 1 - arN x.op) (code.drop (i + 1)) = -1 := by
   unfold wrongL at hw
   rwa [if_neg h1] at hw
  -- one round, by what the node makes of the stack
  have round : ∀ (v : Rat) (ok : Bool) (s' : List Rat), stepV P ls s x = ((v, ok), s') → sz v ≤ 2000 → s'.length ≤ s.length → (s'.length : Int) = s.length - arN x.op → (∀ q ∈ s', q ∈ s) → F.take s'.length = fzs s'.reverse →
    callH T 484 [wP, .agg (celN x)] (hpA 2 P.f (fzs ls) c p lim ((n0 + i : Nat) : Int) F s.length) = some (.tup [efz (fz v), .b ok], hpA 2 P.f (fzs ls) c p lim ((n0 + i : Nat) : Int) F s'.length) →
    (∃ y : Nat × List Rat × Nat × (Int × Int) × List Fz, (y.1 ≤ code.length ∧ (y.2.2.1 = 2 ∨ y.2.2.1 = 6) ∧ y.2.2.2.2.take y.2.1.length = fzs y.2.1.reverse ∧ y.2.1.length ≤ y.2.2.2.2.length ∧ y.2.2.2.2.length ≤ 5000 ∧ (∀ q ∈ y.2.1, sz q ≤ 129) ∧ y.2.1.length ≤ y.1 ∧ (∃ j, wrongL j y.2.1.length (code.drop y.1) = -1) ∧ walkR lim P ls (n0 + y.1) y.2.1 (code.drop y.1) = walkR lim P ls n0 [] code) ∧ code.length - y.1 < code.length - i ∧
     evX (orc T) T 3 l473_0 (stWA gk P.f (fzs ls) c p lim ((n0 + i : Nat) : Int) F s.length code i) = some (.n, stWA y.2.2.1 P.f (fzs ls) y.2.2.2.1.1 y.2.2.2.1.2 lim ((n0 + y.1 : Nat) : Int) y.2.2.2.2 y.2.1.length code y.1)) ∨
    (∃ r, endQA P lim ls (n0 + code.length) (walkR lim P ls n0 [] code) r ∧ isEx (evX (orc T) T 3 l473_0 (stWA gk P.f (fzs ls) c p lim ((n0 + i : Nat) : Int) F s.length code i)) = true ∧
     finX 3 0 (.norm false [0, 4, 5]) (evX (orc T) T 3 l473_0 (stWA gk P.f (fzs ls) c p lim ((n0 + i : Nat) : Int) F s.length code i)) = some r) := by
   intro v ok s' hst hv hs's hlen hsub hF' hc
   have hvf : fsz (fz v) ≤ 10000 := by rw [fsz_fz]; omega
   rw [walkR, hst] at hW
   dsimp only at hW
   cases ok with
   | false =>
    right
    have e := wk_pole_A (T := T) hk P.f (fzs ls) c p lim ((n0 + i : Nat) : Int) F s.length s'.length code i x (fz v) hx hc
    have ef : finV lim (v, false) (n0 + i) = (0, 3, n0 + i) := rfl
    rw [ef] at hW
    rw [if_pos (by simp)] at hW
    refine ⟨endSA gk P.f (fzs ls) c p lim ((n0 + i : Nat) : Int) F s'.length 3 ((n0 + i : Nat) : Int), .inr ?_, by rw [e]; rfl, by rw [e, finS_A]⟩
    rw [← hW]
    exact ⟨by simp, gk, c, p, _, F, _, hk, rfl⟩
   | true =>
    by_cases hfit : sizQ v ≤ lim
    ·left
     have ef : finV lim (v, true) (n0 + i) = (v, 0, 0) := by unfold finV; rw [if_neg (by simp), if_neg (by dsimp only; omega)]
     rw [ef] at hW
     rw [if_neg (by simp)] at hW
     have e := wk_round_A (T := T) hk P.f (fzs ls) c p lim ((n0 + i : Nat) : Int) F s.length s'.length code i x (fz v) hx (by omega) (by omega) (by omega) (by omega) (by omega) hvf hc (by unfold sizQ at hfit; omega)
     have hn1 : ((n0 + i : Nat) : Int) + 1 = ((n0 + (i + 1) : Nat) : Int) := by omega
     rw [hn1] at e
     have hl1 : (F.take s'.length ++ [fz v]).length = s'.length + 1 := by rw [List.length_append, List.length_take]; simp only [List.length_cons, List.length_nil]; omega
     refine ⟨(i + 1, v :: s', 6, (cntS c, cntP p (fz v)), F.take s'.length ++ [fz v]), ⟨by dsimp only; omega, .inr rfl, ?_, ?_, ?_, ?_, ?_, ⟨j + 1, ?_⟩, ?_⟩, by dsimp only; omega, e⟩
     ·dsimp only
      rw [List.length_cons, List.take_of_length_le (by omega), hF']
      simp [fzs]
     ·dsimp only; rw [List.length_cons, hl1]; exact Nat.le_refl _
     ·dsimp only; rw [hl1]; omega
     ·intro q hq
      rcases List.mem_cons.1 hq with rfl | hq
      ·exact fit_sz hlim hfit
      ·exact hz q (hsub q hq)
     ·dsimp only; rw [List.length_cons]; omega
     ·dsimp only
      rw [← hw2]
      congr 1
      rw [List.length_cons]; omega
     ·dsimp only
      rw [← hW]
      congr 1
    ·right
     have ef : finV lim (v, true) (n0 + i) = (0, 6, n0 + i) := by unfold finV; rw [if_neg (by simp), if_pos (by dsimp only; omega)]
     rw [ef] at hW
     rw [if_pos (by simp)] at hW
     have e := wk_bits_A (T := T) hk P.f (fzs ls) c p lim ((n0 + i : Nat) : Int) F s.length s'.length code i x (fz v) hx hvf hc (by unfold sizQ at hfit; omega)
     refine ⟨endSA gk P.f (fzs ls) (cntS c) (cntP p (fz v)) lim ((n0 + i : Nat) : Int) F s'.length 6 ((n0 + i : Nat) : Int), .inr ?_, by rw [e]; rfl, by rw [e, finS_A]⟩
     rw [← hW]
     exact ⟨by simp, gk, _, _, _, F, _, hk, rfl⟩
  rcases arN_cases x.op with ⟨e, ho⟩ | ⟨e, ho⟩ | ⟨e, ho⟩ | ⟨e, ho⟩
  ·have hst : stepV P ls s x = ((leafV P ls x, true), s) := by unfold stepV; rw [if_pos e]
   have cl := leaf_A (T := T) P ls c p lim ((n0 + i : Nat) : Int) F s.length x e hxn hxo.1 hxo.2.1 hxo.2.2
   exact round _ true s hst (by have := leafV_sz (P := P) hP hls hxn; omega) (Nat.le_refl _) (by rw [e]; omega) (fun q hq => hq) hF (value0_A P.f (fzs ls) c p lim _ F s.length x e _ cl)
  ·cases s with
   | nil => exfalso; apply h1; right; rw [e]; decide
   | cons a s1 =>
    have hst : stepV P ls (a :: s1) x = (unV x a, s1) := by unfold stepV; rw [if_neg (by omega), if_pos e]; rfl
    have hza := hz a (by simp)
    have hFa : F[s1.length]? = some (fz a) := by
     have : (F.take (a :: s1).length)[s1.length]? = some (fz a) := by rw [hF]; simp [fzs]
     rwa [List.getElem?_take, if_pos (by simp)] at this
    have hF1 : F.take s1.length = fzs s1.reverse := by
     have : (F.take (a :: s1).length).take s1.length = fzs s1.reverse := by rw [hF]; simp [fzs]
     rwa [List.take_take, Nat.min_eq_left (by simp)] at this
    have cv := value1_A (T := T) P.f (fzs ls) c p lim ((n0 + i : Nat) : Int) F s1.length x e a hza hFa (by rw [List.length_cons] at hsi; omega)
    exact round (unV x a).1 (unV x a).2 s1 hst (unV_sz hza) (by simp) (by rw [e, List.length_cons]; omega) (fun q hq => by simp [hq]) hF1 cv
  ·cases s with
   | nil => exfalso; apply h1; right; rw [e]; decide
   | cons b s0 =>
   cases s0 with
   | nil => exfalso; apply h1; right; rw [e]; simp
   | cons a s1 =>
    have hst : stepV P ls (b :: a :: s1) x = (biV x.op a b, s1) := by unfold stepV; rw [if_neg (by omega), if_neg (by omega)]; rfl
    have hza := hz a (by simp)
    have hzb := hz b (by simp)
    have hFa : F[s1.length]? = some (fz a) := by
     have : (F.take (b :: a :: s1).length)[s1.length]? = some (fz a) := by rw [hF]; simp [fzs]
     rwa [List.getElem?_take, if_pos (by simp only [List.length_cons]; omega)] at this
    have hFb : F[s1.length + 1]? = some (fz b) := by
     have : (F.take (b :: a :: s1).length)[s1.length + 1]? = some (fz b) := by rw [hF]; simp [fzs]
     rwa [List.getElem?_take, if_pos (by simp)] at this
    have hF1 : F.take s1.length = fzs s1.reverse := by
     have : (F.take (b :: a :: s1).length).take s1.length = fzs s1.reverse := by rw [hF]; simp [fzs]
     rwa [List.take_take, Nat.min_eq_left (by simp; omega)] at this
    have cv := value2_A (T := T) P.f (fzs ls) c p lim ((n0 + i : Nat) : Int) F s1.length x e a b hza hzb hFa hFb (by simp only [List.length_cons] at hsi; omega)
    exact round (biV x.op a b).1 (biV x.op a b).2 s1 hst (biV_sz hza hzb) (by simp; omega) (by rw [e, List.length_cons, List.length_cons]; omega) (fun q hq => by simp [hq]) hF1 cv
  ·exfalso; apply h1; left; omega
 ·right
  have hi2 : i = code.length := by omega
  subst hi2
  rw [List.drop_length] at hw hW
  have hs1 : s.length = 1 := by
   unfold wrongL at hw
   split at hw
   ·omega
   ·omega
  obtain ⟨v, rfl⟩ := List.length_eq_one_iff.1 hs1
  have e := wk_end_A (T := T) hk P.f (fzs ls) c p lim ((n0 + code.length : Nat) : Int) F 1 code
  refine ⟨endWA gk P.f (fzs ls) c p lim ((n0 + code.length : Nat) : Int) F 1, .inl ?_, e.1, e.2⟩
  have hR : walkR lim P ls (n0 + code.length) [v] [] = (v, 0, 0) := rfl
  rw [hR] at hW
  rw [← hW]
  have hFa : F[0]? = some (fz v) := by
   have : (F.take [v].length)[0]? = some (fz v) := by rw [hF]; simp [fzs]
   rwa [List.getElem?_take, if_pos (by simp)] at this
  exact ⟨rfl, gk, c, p, F, hk, hFa, hFl, rfl⟩
end
theorem walkR_stop (lim : Nat) (P : Po) (ls : List Rat) : ∀ (l : List Nd) (i : Nat) (s : List Rat), (walkR lim P ls i s l).2.1 ≠ 0 → (walkR lim P ls i s l).1 = 0
 | [], i, s, h => absurd rfl h
 | x :: r, i, s, h => by
  unfold walkR at h ⊢
  split
  ·next h1 => exact (finV_stop h1).1
  ·next h1 =>
   rw [if_neg h1] at h
   exact walkR_stop lim P ls r _ _ h
theorem walkR_at (lim : Nat) (P : Po) (ls : List Rat) : ∀ (l : List Nd) (i : Nat) (s : List Rat), (walkR lim P ls i s l).2.1 = 0 → (walkR lim P ls i s l).2.2 = 0
 | [], i, s, _ => rfl
 | x :: r, i, s, h => by
  unfold walkR at h ⊢
  split
  ·next h1 => rw [if_pos h1] at h; exact absurd h h1
  ·next h1 =>
   rw [if_neg h1] at h
   exact walkR_at lim P ls r _ _ h
section
variable {T : Tbl} [CLimb T] [CNat T] [CProd T] [CTwos T] [CQuot T] [CQuotD T] [CWhole T] [CCommon T] [CFrac T] [CFrac2 T] [CFrac3 T] [CFrac5 T] [CPow T] [CTape T] [CGauge T] [CEval T] [CEval2 T] [CTree T] [CText T] [CLenD T]
theorem eval_code_A (P : Po) (lim : Nat) (hlim : lim ≤ 4096) (ls : List Rat) (hP : PvS P 1000) (hls : ∀ q ∈ ls, sz q ≤ 1000) (code : List Nd) (hl : code.length ≤ 3000) (hok : ∀ x ∈ code, okN P.y.length P.p.length ls.length x = true) (hn : thin 1000 code) (hwr : wrongN code = -1) (n0 : Nat) (hn0 : n0 ≤ 10000) (s0 p0 : Int) (F0 : List Fz) (m0 : Nat) (hF0 : F0.length ≤ 5000) :
  ∃ (gk : Nat) (s p seen : Int) (F : List Fz) (m : Nat), (gk = 2 ∨ gk = 6) ∧ ((walkR lim P ls n0 [] code).2.1 = 0 → seen = ((n0 + code.length : Nat) : Int) ∧ F.length ≤ 5000) ∧
   callH T 473 [wP, .sl (rowN code) .an] (hpA 2 P.f (fzs ls) s0 p0 lim n0 F0 m0) = some (.tup [efz (fz (walkR lim P ls n0 [] code).1), .agg [.i .i64 (walkR lim P ls n0 [] code).2.1, .i .i64 0, .i .i64 0, .i .i64 (walkR lim P ls n0 [] code).2.2]], hpA gk P.f (fzs ls) s p lim seen F m) := by
 obtain ⟨r, hq, hlo⟩ := code_loop_A (T := T) P lim hlim ls hP hls code hl hok hn hwr n0 hn0 s0 p0 F0 hF0
 have hst := walkR_stop lim P ls code n0 []
 have hat := walkR_at lim P ls code n0 []
 generalize walkR lim P ls n0 [] code = R at *
 obtain ⟨v, kind, at_⟩ := R
 dsimp only at *
 unfold stWA at hlo
 have he : hqA 2 P.f (fzs ls) s0 p0 lim n0 F0 0 (false, [], []) 0 0 0 0 = [(.bor 0, ⟨0, .str, 9, [[.b P.f.t.1, .sl (u32s P.f.t.2.1) .an, .sl (u32s P.f.t.2.2) .an, .sl (rowF P.f.y) .an, .sl (rowF P.f.p) .an, .sl (rowF (fzs ls)) .an, .ptr (.bor 1) 1 3 0 0, .i .i64 n0, .bs (.bor 2) 2 3 0 0]]⟩), (.bor 1, bxG 1 s0 p0 lim), (.bor 2, ⟨2, .own, 3, rowF F0⟩), (.loc 4, ⟨7, .str, 3, [[.b false, .sl [] .an, .sl [] .an]]⟩), (.loc 5, ⟨8, .str, 4, [[.i .i64 0, .i .i64 0, .i .i64 0, .i .i64 0]]⟩)] := rfl
 rw [he] at hlo
 clear he
 simp only [Int.natCast_zero] at hlo
 rcases hq with ⟨h0, gk, s, p, F, hk, hF, hFl, rfl⟩ | ⟨h0, gk, s, p, seen, F, m, hk, rfl⟩
 ·dsimp only at h0 hF
  subst h0
  refine ⟨gk, s, p, _, F, 1, hk, fun _ => ⟨rfl, hFl⟩, ?_⟩
  have ha := hat rfl
  subst ha
  have hge := (List.getElem?_eq_some_iff.1 hF).2
  have hlt := (List.getElem?_eq_some_iff.1 hF).1
  unfold endWA at hlo
  generalize P.f = Q at *
  obtain ⟨⟨q0, q1, q2⟩, qy, qp⟩ := Q
  generalize fzs ls = LS at *
  generalize fz v = V at *
  obtain ⟨v0, v1, v2⟩ := V
  rw [f473 _ _ rfl, b473]
  clear hP hls hok hst hat hlim
  rcases hk with rfl | rfl
  ·simp -implicitDefEqProofs [hlo, hF, hge, hlt]
  ·simp -implicitDefEqProofs [hlo, hF, hge, hlt]
 ·dsimp only at h0
  refine ⟨gk, s, p, seen, F, m, hk, fun h => absurd h h0, ?_⟩
  have hv := hst h0
  subst hv
  unfold endSA at hlo
  dsimp only at hlo
  generalize P.f = Q at *
  obtain ⟨⟨q0, q1, q2⟩, qy, qp⟩ := Q
  generalize fzs ls = LS at *
  generalize fz 0 = V at *
  obtain ⟨v0, v1, v2⟩ := V
  rw [f473 _ _ rfl, b473]
  clear hP hls hok hst hat hlim
  rcases hk with rfl | rfl
  ·simp -implicitDefEqProofs [hlo]
  ·simp -implicitDefEqProofs [hlo]
end
theorem limI_toNat (b : Int) : ((limI b).toNat : Int) = limI b ∧ (limI b).toNat ≤ 4096 := by
 unfold limI
 split
 ·decide
 ·split
  ·decide
  ·omega
theorem pos_pvs {x : PoF} (h : PoS x 1000) : PvS x.v 1000 := by
 refine ⟨sz_fv h.t (by decide), fun q hq => ?_, fun q hq => ?_⟩
 ·obtain ⟨u, hu, rfl⟩ := List.mem_map.1 hq
  exact sz_fv (h.y u hu) (by decide)
 ·obtain ⟨u, hu, rfl⟩ := List.mem_map.1 hq
  exact sz_fv (h.p u hu) (by decide)
abbrev flt4 (a b c d : Int) : AV := .agg [.i .i64 a, .i .i64 b, .i .i64 c, .i .i64 d]
section
variable {T : Tbl} [CLimb T] [CNat T] [CProd T] [CTwos T] [CQuot T] [CQuotD T] [CWhole T] [CCommon T] [CFrac T] [CFrac2 T] [CFrac3 T] [CFrac5 T] [CPow T] [CTape T] [CGauge T] [CEval T] [CEval2 T] [CTree T] [CText T] [CLenD T]
theorem eval_Code_bad (code : List Nd) (x : PoF) (lets : List Fz) (bits : Int) (hl : code.length ≤ 3000) (hn : thin 1000 code) (hb : 0 ≤ placeN x.y.length x.p.length lets.length code) :
  callF T 462 [.sl (rowN code) .an, ept x, .sl (rowF lets) .an, .i .i64 bits] = some (.tup [efz (fz 0), flt4 2 0 0 (placeN x.y.length x.p.length lets.length code)]) := by
 have c1 := check_place (T := T) code x.y.length x.p.length lets.length (by omega) hn
 have c0 := frac_of0 (T := T)
 generalize placeN x.y.length x.p.length lets.length code = pl at *
 generalize fz 0 = Z at *
 obtain ⟨⟨t0, t1, t2⟩, y, p⟩ := x
 obtain ⟨z0, z1, z2⟩ := Z
 dsimp only at *
 rw [f462 _ rfl, b462]
 simp -implicitDefEqProofs [c0, c1, hb]
theorem eval_Code_ok (code : List Nd) (x : PoF) (lets : List Fz) (bits : Int) (hx : PoS x 1000) (hll : lets.length ≤ 1000) (hls : ∀ u ∈ lets, fsz u ≤ 1000) (hl : code.length ≤ 3000) (hn : thin 1000 code) (hb : placeN x.y.length x.p.length lets.length code < 0) :
  callF T 462 [.sl (rowN code) .an, ept x, .sl (rowF lets) .an, .i .i64 bits] =
   some (.tup [efz (fz (walkR (limI bits).toNat x.v (lets.map fv) 0 [] code).1), flt4 (walkR (limI bits).toNat x.v (lets.map fv) 0 [] code).2.1 0 0 (walkR (limI bits).toNat x.v (lets.map fv) 0 [] code).2.2]) := by
 have c1 := check_place (T := T) code x.y.length x.p.length lets.length (by omega) hn
 have c2 := eval_norm (T := T) x hx
 have c3 := eval_norms (T := T) lets hll hls
 have c4 := gauge_new (T := T) bits
 obtain ⟨hl1, hl2⟩ := limI_toNat bits
 obtain ⟨t, ht, e, hok⟩ := placeN_tree hb
 have hyl : x.v.y.length = x.y.length := by simp [PoF.v]
 have hpl : x.v.p.length = x.p.length := by simp [PoF.v]
 have hml : (lets.map fv).length = lets.length := by simp
 obtain ⟨gk, s, p, seen, F, m, hk, _, c5⟩ := eval_code_A (T := T) x.v (limI bits).toNat hl2 (lets.map fv) (pos_pvs hx) (fun q hq => by
  obtain ⟨u, hu, rfl⟩ := List.mem_map.1 hq
  exact sz_fv (hls u hu) (by decide)) code hl (by rw [hyl, hpl, hml]; exact hok) hn (by rw [← e]; exact wrongN_flat ht) 0 (by decide) 0 0 [] 0 (by decide)
 have en : nrm lets = fzs (lets.map fv) := by simp [nrm, fzs]
 rw [en] at c3
 rw [hl1] at c5
 generalize walkR (limI bits).toNat x.v (lets.map fv) 0 [] code = R at *
 generalize hP : placeN x.y.length x.p.length lets.length code = pl at *
 have hnp : ¬ 0 ≤ pl := by omega
 generalize limI bits = L at *
 generalize fzs (lets.map fv) = LS at *
 generalize x.v.f = Q at *
 obtain ⟨⟨t0, t1, t2⟩, y, pp⟩ := x
 obtain ⟨⟨q0, q1, q2⟩, qy, qp⟩ := Q
 obtain ⟨v, kind, at_⟩ := R
 dsimp only at *
 generalize fz v = V at *
 obtain ⟨v0, v1, v2⟩ := V
 simp only [hpA, Int.natCast_zero, rowF_nil] at c5
 clear hyl hpl hml hok e hx hls en hl1 hl2
 rw [f462 _ rfl, b462]
 rcases hk with rfl | rfl
 ·simp -implicitDefEqProofs [c1, c2, c3, c4, c5, hnp, bxG]
 ·simp -implicitDefEqProofs [c1, c2, c3, c4, c5, hnp, bxG]
end
section
variable {T : Tbl} [CTree T] [CTree2 T] [CText T] [CLenD T] [CLimb T] [CNat T] [CJoin T] [CLex T] [CCheck T]
theorem check_name (s : List UInt8) (hs : s.length ≤ 100000) : callF T 486 [.s s] = some (.b (nameB s)) := by
 have c := lex_right (T := T) 2 0 s hs
 unfold nameB
 rw [f486 _ rfl, b486]
 generalize rightB 2 s = B at *
 by_cases h1 : s = [116]
 ·subst h1; cases B <;> simp -implicitDefEqProofs
 by_cases h2 : s = [121]
 ·subst h2; cases B <;> simp -implicitDefEqProofs
 by_cases h3 : s = [112]
 ·subst h3; cases B <;> simp -implicitDefEqProofs
 by_cases h4 : s = [108, 101, 116]
 ·subst h4; cases B <;> simp -implicitDefEqProofs
 cases B <;> simp -implicitDefEqProofs [c, h1, h2, h3, h4]
theorem check_twice (L : List Lt) (i : Nat) (hi : i < L.length) (hL : L.length ≤ 100000) : callF T 487 [.sl (rowLt L) .an, .i .i64 i] = some (.b (twB (L.take i) (L[i]'hi).name)) := by
 have hlo : loopN T 0 0 (.norm false []) l487_0 ⟨[(0, .sl (rowLt L) .an), (1, .i .i64 i), (6, .i .i64 i), (7, .i .i64 ((0 : Nat) : Int))], [], 2⟩ =
   if twB ((L.take i).drop 0) (L[i]'hi).name = true then some (.r, ⟨[(4, .b true)], [], 2⟩) else some (.n, ⟨[], [], 2⟩) := by
  refine until_loop (fun k => ⟨[(0, .sl (rowLt L) .an), (1, .i .i64 i), (6, .i .i64 i), (7, .i .i64 ((k : Nat) : Int))], [], 2⟩) i
   (fun k => if twB ((L.take i).drop k) (L[i]'hi).name = true then some (.r, _) else some (.n, _)) (fun k hk => ?_) ?_
  ·have hk1 : k < L.length := by omega
   have hg : L[k]? = some (L[k]'hk1) := List.getElem?_eq_getElem hk1
   have hgi : L[i]? = some (L[i]'hi) := List.getElem?_eq_getElem hi
   have hk2 : k < (L.take i).length := by rw [List.length_take]; omega
   have hd : (L.take i).drop k = (L.take i)[k]'hk2 :: (L.take i).drop (k + 1) := List.drop_eq_getElem_cons hk2
   have hx2 : (L.take i)[k]'hk2 = L[k]'hk1 := by simp
   rw [hx2] at hd
   have hws := wrapS hk (by omega)
   have hk' : (k : Int) < i := by omega
   have hi' : (i : Int) < L.length := by omega
   have hk1' : (k : Int) < L.length := by omega
   generalize hx : L[k]'hk1 = x at *
   generalize hy : L[i]'hi = y at *
   obtain ⟨xn, xc⟩ := x
   obtain ⟨yn, yc⟩ := y
   by_cases hc : xn = yn
   ·right
    rw [if_pos (by rw [hd]; simp [twB, hc])]
    clear hd
    constructor <;> simp -implicitDefEqProofs [l487_0, hk, hk', hk1, hk1', hi, hi', hg, hgi, hx, hy, hc]
   ·left
    refine ⟨?_, by rw [hd]; simp [twB, hc]⟩
    clear hd
    simp -implicitDefEqProofs [l487_0, hk, hk', hk1, hk1', hi, hi', hg, hgi, hx, hy, hc, hws]
  ·rw [List.drop_of_length_le (by rw [List.length_take]; omega)]
   simp only [twB, List.any_nil, Bool.false_eq_true, if_false]
   constructor <;> simp -implicitDefEqProofs [l487_0]
 rw [List.drop_zero] at hlo
 simp only [Int.natCast_zero] at hlo
 rw [f487 _ rfl, b487]
 generalize twB (L.take i) (L[i]'hi).name = B at *
 cases B with
 | true =>
  rw [if_pos rfl] at hlo
  simp -implicitDefEqProofs [hlo]
 | false =>
  rw [if_neg (by decide)] at hlo
  simp -implicitDefEqProofs [hlo]
theorem check_part (c : List Nd) (num dim pars lets : Int) (hl : c.length ≤ 50000) (hn : thin 1000 c) : callF T 488 [.sl (rowN c) .an, .i .i64 num, .i .i64 dim, .i .i64 pars, .i .i64 lets] =
  some (if 0 ≤ ptA dim pars lets c then flt4 2 num 0 (ptA dim pars lets c) else flt4 0 0 0 0) := by
 have c1 := check_place (T := T) c dim pars lets (by omega) hn
 have c2 := tree_Depth (T := T) c hl
 have hp := placeN_cases dim pars lets c
 unfold ptA
 rw [f488 _ rfl, b488]
 generalize depN c = d at *
 generalize placeN dim pars lets c = p at *
 by_cases h : p < 0
 ·by_cases hd : 40 < d
  ·have hd' : (40 : Int) < d := by omega
   have hnl : ¬ (c.length : Int) < 0 := by omega
   have h0 : (0 : Int) ≤ c.length := by omega
   rw [if_pos (show p < 0 ∧ 40 < d from ⟨h, hd⟩), if_pos h0]
   simp -implicitDefEqProofs [c1, c2, h, hd, hd', hnl]
  ·have hd' : ¬ (40 : Int) < d := by omega
   have h0 : ¬ 0 ≤ p := by omega
   rw [if_neg (show ¬ (p < 0 ∧ 40 < d) from fun hh => hd hh.2), if_neg h0]
   simp -implicitDefEqProofs [c1, c2, h, hd, hd']
 ·have h0 : 0 ≤ p := by omega
  rw [if_neg (show ¬ (p < 0 ∧ 40 < d) from fun hh => h hh.1), if_pos h0]
  simp -implicitDefEqProofs [c1, c2, h]
theorem check_whole (f : Fd) (dim pars : Int) (h1 : f.lets.length ≤ 100000) (h2 : f.outs.length ≤ 100000) (hn : thinD 1000 50000 f) (hs : sizeD f ≤ 4294967295) : callF T 485 [efd f, .i .i64 dim, .i .i64 pars] = some (.b (whB f dim pars)) := by
 have c := tree_Size (T := T) f h1 h2 (fun c hc => ⟨Nat.le_trans (hn c hc).1 (by decide), (hn c hc).2⟩) hs
 unfold whB
 generalize sizeD f = S at *
 obtain ⟨L, O⟩ := f
 dsimp only at *
 rw [f485 _ rfl, b485]
 by_cases g1 : 1 ≤ dim
 ·by_cases g2 : dim ≤ 6
  ·by_cases g3 : 0 ≤ pars
   ·by_cases g4 : pars ≤ 6
    ·by_cases g5 : (O.length : Int) = dim
     ·by_cases g6 : L.length ≤ 10
      ·have g6' : (L.length : Int) ≤ 10 := by omega
       by_cases g7 : S ≤ 300
       ·have g7' : (S : Int) ≤ 300 := by omega
        simp -implicitDefEqProofs [g1, g2, g3, g4, g5, g6, g6', g7, g7', c]
       ·have g7' : ¬ (S : Int) ≤ 300 := by omega
        simp -implicitDefEqProofs [g1, g2, g3, g4, g5, g6, g6', g7, g7', c]
      ·have g6' : ¬ (L.length : Int) ≤ 10 := by omega
       simp -implicitDefEqProofs [g1, g2, g3, g4, g5, g6, g6', c]
     ·simp -implicitDefEqProofs [g1, g2, g3, g4, g5, c]
    ·simp -implicitDefEqProofs [g1, g2, g3, g4, c]
   ·simp -implicitDefEqProofs [g1, g2, g3, c]
  ·simp -implicitDefEqProofs [g1, g2, c]
 ·simp -implicitDefEqProofs [g1, c]
end
abbrev bxFd (g : Nat) (f : Fd) : Box := ⟨g, .str, 2, [[.sl (rowLt f.lets) .an, .sl (rowC f.outs) .an]]⟩
def fltC (q : Option (Int × Int × Int)) : AV := match q with
 | some (a, b, c) => flt4 2 a b c
 | none => flt4 0 0 0 0
def endC (a b c : Int) : Option (Ex × St) := some (.r, ⟨[(6, .ptr (.loc 6) 1 4 0 0)], [(.loc 6, ⟨1, .str, 4, [[.i .i64 2, .i .i64 a, .i .i64 b, .i .i64 c]]⟩)], 3⟩)
section
variable {T : Tbl} [CTree T] [CTree2 T] [CText T] [CLenD T] [CLimb T] [CNat T] [CJoin T] [CLex T] [CCheck T]
def stCL (f : Fd) (dim pars : Int) (i : Nat) : St := ⟨[(1, .i .i64 dim), (2, .i .i64 pars), (3, .ptr (.loc 3) 1 2 0 0), (6, .ptr (.loc 6) 2 4 0 0), (20, .sl (rowLt f.lets) .an), (21, .i .i64 f.lets.length), (22, .i .i64 i)], [(.loc 3, bxFd 1 f), (.loc 6, ⟨2, .str, 4, [[.i .i64 0, .i .i64 0, .i .i64 0, .i .i64 0]]⟩)], 4⟩
theorem check_lets (f : Fd) (dim pars : Int) (h1 : f.lets.length ≤ 10) (hn : thinD 1000 50000 f) (hs : ∀ x ∈ f.lets, x.name.length ≤ 100000) :
  loopN T 0 0 (.norm false [1, 2, 3, 6]) l477_0 (stCL f dim pars 0) = match chkL dim pars f.lets 0 f.lets with
   | some (a, b, c) => endC a b c
   | none => some (.n, ⟨[(1, .i .i64 dim), (2, .i .i64 pars), (3, .ptr (.loc 3) 1 2 0 0), (6, .ptr (.loc 6) 2 4 0 0)], [(.loc 3, bxFd 1 f), (.loc 6, ⟨2, .str, 4, [[.i .i64 0, .i .i64 0, .i .i64 0, .i .i64 0]]⟩)], 4⟩) := by
 have := until_loop (T := T) (k := 0) (id := 0) (g2 := .norm false [1, 2, 3, 6]) (c := l477_0) (stCL f dim pars) f.lets.length
  (fun i => match chkL dim pars f.lets i (f.lets.drop i) with
   | some (a, b, c) => endC a b c
   | none => some (.n, ⟨[(1, .i .i64 dim), (2, .i .i64 pars), (3, .ptr (.loc 3) 1 2 0 0), (6, .ptr (.loc 6) 2 4 0 0)], [(.loc 3, bxFd 1 f), (.loc 6, ⟨2, .str, 4, [[.i .i64 0, .i .i64 0, .i .i64 0, .i .i64 0]]⟩)], 4⟩)) (fun i hi => ?_) ?_
 ·simpa using this
 ·have hg : f.lets[i]? = some (f.lets[i]'hi) := List.getElem?_eq_getElem hi
  have hd : f.lets.drop i = f.lets[i]'hi :: f.lets.drop (i + 1) := List.drop_eq_getElem_cons hi
  have hi' : (i : Int) < f.lets.length := by omega
  have hws := wrapS hi (by omega)
  have hw1 : IntKind.wrap .i64 ((i : Int) + 1) = (i : Int) + 1 := wrap_i64 _ (by omega)
  obtain ⟨hc1, hc2⟩ := hn (f.lets[i]'hi).code (List.mem_append.2 (.inl (List.mem_map.2 ⟨_, List.getElem_mem hi, rfl⟩)))
  have k1 := check_name (T := T) (f.lets[i]'hi).name (hs _ (List.getElem_mem hi))
  have k2 := check_twice (T := T) f.lets i hi (by omega)
  have k3 := check_part (T := T) (f.lets[i]'hi).code ((i : Int) + 1) dim pars i hc1 hc2
  have hp0 : ptA dim pars i (f.lets[i]'hi).code < 0 ∨ 0 ≤ ptA dim pars i (f.lets[i]'hi).code := by omega
  rw [hd, chkL]
  obtain ⟨L, O⟩ := f
  dsimp only at *
  clear hd hn hs hc1 hc2
  generalize hx : L[i]'hi = x at *
  obtain ⟨nm, code⟩ := x
  dsimp only at *
  unfold stCL bxFd endC
  dsimp only
  rw [hws] at hw1
  generalize ptA dim pars i code = p at *
  generalize twB (L.take i) nm = B at *
  cases hA : nameB nm with
  | false =>
   right
   rw [hA] at k1
   rw [if_pos (.inl rfl)]
   constructor <;> simp -implicitDefEqProofs [l477_0, hi, hi', hg, hx, k1, hws]
  | true =>
   rw [hA] at k1
   cases B with
   | true =>
    right
    rw [if_pos (.inr rfl)]
    constructor <;> simp -implicitDefEqProofs [l477_0, hi, hi', hg, hx, k1, k2, hws]
   | false =>
    rw [if_neg (by simp)]
    rcases hp0 with hp0 | hp0
    ·left
     have hp1 : ¬ 0 ≤ p := by omega
     rw [if_neg hp1] at k3 ⊢
     refine ⟨?_, rfl⟩
     simp -implicitDefEqProofs [l477_0, hi, hi', hg, hx, k1, k2, k3, hws]
    ·right
     rw [if_pos hp0] at k3 ⊢
     constructor <;> simp -implicitDefEqProofs [l477_0, hi, hi', hg, hx, k1, k2, k3, hws]
 ·rw [List.drop_length, chkL]
  unfold stCL bxFd
  constructor <;> simp -implicitDefEqProofs [l477_0]
def stCO (f : Fd) (dim pars : Int) (i : Nat) : St := ⟨[(1, .i .i64 dim), (2, .i .i64 pars), (3, .ptr (.loc 3) 1 2 0 0), (6, .ptr (.loc 6) 2 4 0 0), (54, .sl (rowC f.outs) .an), (55, .i .i64 f.outs.length), (56, .i .i64 i)], [(.loc 3, bxFd 1 f), (.loc 6, ⟨2, .str, 4, [[.i .i64 0, .i .i64 0, .i .i64 0, .i .i64 0]]⟩)], 4⟩
theorem check_outs (f : Fd) (dim pars : Int) (h1 : f.lets.length ≤ 10) (h2 : f.outs.length ≤ 10) (hn : thinD 1000 50000 f) :
  loopN T 0 2 (.norm false [6]) l477_1 (stCO f dim pars 0) = match chkO dim pars f.lets.length 0 f.outs with
   | some (a, b, c) => endC a b c
   | none => some (.n, ⟨[(6, .ptr (.loc 6) 1 4 0 0)], [(.loc 6, ⟨1, .str, 4, [[.i .i64 0, .i .i64 0, .i .i64 0, .i .i64 0]]⟩)], 3⟩) := by
 have := until_loop (T := T) (k := 0) (id := 2) (g2 := .norm false [6]) (c := l477_1) (stCO f dim pars) f.outs.length
  (fun i => match chkO dim pars f.lets.length i (f.outs.drop i) with
   | some (a, b, c) => endC a b c
   | none => some (.n, ⟨[(6, .ptr (.loc 6) 1 4 0 0)], [(.loc 6, ⟨1, .str, 4, [[.i .i64 0, .i .i64 0, .i .i64 0, .i .i64 0]]⟩)], 3⟩)) (fun i hi => ?_) ?_
 ·simpa using this
 ·have hg : f.outs[i]? = some (f.outs[i]'hi) := List.getElem?_eq_getElem hi
  have hd : f.outs.drop i = f.outs[i]'hi :: f.outs.drop (i + 1) := List.drop_eq_getElem_cons hi
  have hi' : (i : Int) < f.outs.length := by omega
  have hws := wrapS hi (by omega)
  have hw1 : IntKind.wrap .i64 ((f.lets.length : Int) + i) = (f.lets.length : Int) + i := wrap_i64 _ (by omega)
  have hw2 : IntKind.wrap .i64 ((f.lets.length : Int) + i + 1) = (f.lets.length : Int) + i + 1 := wrap_i64 _ (by omega)
  have hw3 : (((f.lets.length + i : Nat) : Int) + 1) = (f.lets.length : Int) + i + 1 := by omega
  obtain ⟨hc1, hc2⟩ := hn (f.outs[i]'hi) (List.mem_append.2 (.inr (List.getElem_mem hi)))
  have k3 := check_part (T := T) (f.outs[i]'hi) ((f.lets.length : Int) + i + 1) dim pars f.lets.length hc1 hc2
  have hp0 : ptA dim pars f.lets.length (f.outs[i]'hi) < 0 ∨ 0 ≤ ptA dim pars f.lets.length (f.outs[i]'hi) := by omega
  rw [hd, chkO, hw3]
  obtain ⟨L, O⟩ := f
  dsimp only at *
  clear hd hn hc1 hc2 hw3
  generalize hx : O[i]'hi = x at *
  unfold stCO bxFd endC
  dsimp only
  generalize ptA dim pars L.length x = p at *
  rcases hp0 with hp0 | hp0
  ·left
   have hp1 : ¬ 0 ≤ p := by omega
   rw [if_neg hp1] at k3 ⊢
   refine ⟨?_, rfl⟩
   simp -implicitDefEqProofs [l477_1, hi, hi', hg, hx, k3, hws, hw1, hw2]
  ·right
   rw [if_pos hp0] at k3 ⊢
   constructor <;> simp -implicitDefEqProofs [l477_1, hi, hi', hg, hx, k3, hws, hw1, hw2]
 ·rw [List.drop_length, chkO]
  unfold stCO bxFd
  constructor <;> simp -implicitDefEqProofs [l477_1]
theorem check_Check (f : Fd) (dim pars : Int) (h1 : f.lets.length ≤ 100000) (h2 : f.outs.length ≤ 100000) (hn : thinD 1000 50000 f) (hz : sizeD f ≤ 4294967295) (hs : ∀ x ∈ f.lets, x.name.length ≤ 100000) :
  callF T 477 [efd f, .i .i64 dim, .i .i64 pars] = some (fltC (chkD f dim pars)) := by
 have c := check_whole (T := T) f dim pars h1 h2 hn hz
 unfold chkD
 cases hW : whB f dim pars with
 | false =>
  rw [hW] at c
  rw [if_pos rfl]
  unfold fltC
  obtain ⟨L, O⟩ := f
  dsimp only at *
  rw [f477 _ rfl, b477]
  simp -implicitDefEqProofs [c]
 | true =>
  rw [hW] at c
  rw [if_neg (by decide)]
  have hW2 : (1 ≤ dim ∧ dim ≤ 6 ∧ 0 ≤ pars ∧ pars ≤ 6 ∧ (f.outs.length : Int) = dim ∧ f.lets.length ≤ 10 ∧ sizeD f ≤ 300) := by simpa [whB] using hW
  have a1 := check_lets (T := T) f dim pars hW2.2.2.2.2.2.1 hn hs
  have a2 := check_outs (T := T) f dim pars hW2.2.2.2.2.2.1 (by omega) hn
  generalize chkL dim pars f.lets 0 f.lets = X at *
  generalize chkO dim pars f.lets.length 0 f.outs = Y at *
  unfold stCL bxFd endC at a1
  unfold stCO bxFd endC at a2
  simp only [Int.natCast_zero] at a1 a2
  obtain ⟨L, O⟩ := f
  dsimp only at *
  clear hW2 hn hs hz
  rw [f477 _ rfl, b477]
  obtain _ | ⟨x1, x2, x3⟩ := X
  ·dsimp only at a1 ⊢
   obtain _ | ⟨y1, y2, y3⟩ := Y
   ·dsimp only at a2
    unfold fltC
    simp -implicitDefEqProofs [c, a1, a2]
   ·dsimp only at a2
    unfold fltC
    simp -implicitDefEqProofs [c, a1, a2]
  ·dsimp only at a1 ⊢
   unfold fltC
   simp -implicitDefEqProofs [c, a1]
end
abbrev hpB (gk : Nat) (Q : PoF) (LS : List Fz) (s p L seen : Int) (F : List Fz) (m : Nat) : Heap :=
 [(.bor 0, ⟨0, .str, 9, [[.b Q.t.1, .sl (u32s Q.t.2.1) .an, .sl (u32s Q.t.2.2) .an, .sl (rowF Q.y) .an, .sl (rowF Q.p) .an, .bs (.bor 1) 1 3 0 LS.length, .ptr (.bor 2) 2 3 0 0, .i .i64 seen, .bs (.bor 3) gk 3 0 m]]⟩), (.bor 1, ⟨1, .own, 3, rowF LS⟩), (.bor 2, bxG 2 s p L), (.bor 3, ⟨gk, .own, 3, rowF F⟩)]
section
variable {T : Tbl} [CLimb T] [CNat T] [CProd T] [CTwos T] [CQuot T] [CQuotD T] [CWhole T] [CCommon T] [CFrac T] [CFrac2 T] [CFrac3 T] [CFrac5 T] [CPow T] [CTape T] [CGauge T] [CEval T] [CEval2 T] [CTree T] [CText T] [CLenD T]
theorem pop_B (Q : PoF) (LS : List Fz) (s p L seen : Int) (F : List Fz) (m : Nat) (x : Fz) (hx : F[m]? = some x) (hm : m ≤ 100000) : callH T 490 [wP] (hpB 3 Q LS s p L seen F (m + 1)) = some (efz x, hpB 3 Q LS s p L seen F m) := by
 obtain ⟨hlt, hge⟩ := List.getElem?_eq_some_iff.1 hx
 have hw : IntKind.wrap .i64 (m : Int) = m := wrap_i64 _ (by omega)
 have h1 : (m : Int) < (m : Int) + 1 := by omega
 have h2 : (m : Int) ≤ (m : Int) + 1 := by omega
 obtain ⟨⟨q0, q1, q2⟩, qy, qp⟩ := Q
 obtain ⟨x0, x1, x2⟩ := x
 rw [f490 _ _ rfl, b490]
 simp -implicitDefEqProofs [hx, hge, hlt, hw, h1, h2]
theorem leaf_B (P : Po) (ls : List Rat) (s p L seen : Int) (F : List Fz) (m : Nat) (x : Nd) (ha : arN x.op = 0) (hn : x.n.length ≤ 1000) (hy : x.op = 3 → 0 ≤ x.i ∧ x.i < P.y.length) (hp : x.op = 4 → 0 ≤ x.i ∧ x.i < P.p.length) (hl : x.op = 5 → 0 ≤ x.i ∧ x.i < ls.length) :
  callH T 489 [wP, .agg (celN x)] (hpB 3 P.f (fzs ls) s p L seen F m) = some (efz (fz (leafV P ls x)), hpB 3 P.f (fzs ls) s p L seen F m) := by
 have hop : x.op = 1 ∨ x.op = 2 ∨ x.op = 3 ∨ x.op = 4 ∨ x.op = 5 := by rcases arN_cases x.op with ⟨e, h⟩ | ⟨e, h⟩ | ⟨e, h⟩ | ⟨e, h⟩ <;> omega
 have c1 := frac_new_A (T := T) x.n (by omega)
 obtain ⟨op, i, n⟩ := x
 obtain ⟨t, y, pp⟩ := P
 dsimp only at *
 unfold leafV Po.f
 dsimp only
 rw [f489 _ _ rfl, b489]
 rcases hop with rfl | rfl | rfl | rfl | rfl
 ·show _ = some (efz (fz ((val n : Nat) : Rat)), _)
  generalize fz ((val n : Nat) : Rat) = z at *
  generalize fzs y = Y at *
  generalize fzs pp = PP at *
  generalize fzs ls = LL at *
  generalize fz t = tt at *
  obtain ⟨t0, t1, t2⟩ := tt
  simp -implicitDefEqProofs [c1]
 ·show _ = some (efz (fz t), _)
  generalize fzs y = Y at *
  generalize fzs pp = PP at *
  generalize fzs ls = LL at *
  generalize fz t = tt at *
  obtain ⟨t0, t1, t2⟩ := tt
  simp -implicitDefEqProofs
 ·obtain ⟨k, rfl, g1, g2, g3⟩ := gI_get (hy rfl)
  have g4 := (List.getElem?_eq_some_iff.1 g3).2
  have hl2 : (fzs y).length = y.length := fzs_length y
  show _ = some (efz (fz (gI y (k : Int))), _)
  generalize fz (gI y (k : Int)) = z at *
  generalize fzs y = Y at *
  generalize fzs pp = PP at *
  generalize fzs ls = LL at *
  generalize fz t = tt at *
  obtain ⟨t0, t1, t2⟩ := tt
  simp -implicitDefEqProofs [g1, g2, g3, g4, hl2]
 ·obtain ⟨k, rfl, g1, g2, g3⟩ := gI_get (hp rfl)
  have g4 := (List.getElem?_eq_some_iff.1 g3).2
  have hl2 : (fzs pp).length = pp.length := fzs_length pp
  show _ = some (efz (fz (gI pp (k : Int))), _)
  generalize fz (gI pp (k : Int)) = z at *
  generalize fzs y = Y at *
  generalize fzs pp = PP at *
  generalize fzs ls = LL at *
  generalize fz t = tt at *
  obtain ⟨t0, t1, t2⟩ := tt
  simp -implicitDefEqProofs [g1, g2, g3, g4, hl2]
 ·obtain ⟨k, rfl, g1, g2, g3⟩ := gI_get (hl rfl)
  have g4 := (List.getElem?_eq_some_iff.1 g3).2
  have hl2 : (fzs ls).length = ls.length := fzs_length ls
  show _ = some (efz (fz (gI ls (k : Int))), _)
  generalize fz (gI ls (k : Int)) = z at *
  generalize fzs y = Y at *
  generalize fzs pp = PP at *
  generalize fzs ls = LL at *
  generalize fz t = tt at *
  obtain ⟨t0, t1, t2⟩ := tt
  simp -implicitDefEqProofs [g1, g2, g3, g4, hl2]
theorem value0_B (Q : PoF) (LS : List Fz) (s p L seen : Int) (F : List Fz) (m : Nat) (x : Nd) (ha : arN x.op = 0) (v : Fz)
  (c : callH T 489 [wP, .agg (celN x)] (hpB 3 Q LS s p L seen F m) = some (efz v, hpB 3 Q LS s p L seen F m)) :
  callH T 484 [wP, .agg (celN x)] (hpB 3 Q LS s p L seen F m) = some (.tup [efz v, .b true], hpB 3 Q LS s p L seen F m) := by
 have ca := tree_arity (T := T) x.op
 rw [ha] at ca
 obtain ⟨⟨q0, q1, q2⟩, qy, qp⟩ := Q
 obtain ⟨op, i, n⟩ := x
 rw [f484 _ _ rfl, b484]
 simp -implicitDefEqProofs [ca, c]
theorem value1_B (Q : PoF) (LS : List Fz) (s p L seen : Int) (F : List Fz) (m : Nat) (x : Nd) (ha : arN x.op = 1) (a : Rat) (hz : sz a ≤ 129) (hx : F[m]? = some (fz a)) (hm : m ≤ 100000) :
  callH T 484 [wP, .agg (celN x)] (hpB 3 Q LS s p L seen F (m + 1)) = some (.tup [efz (fz (unV x a).1), .b (unV x a).2], hpB 3 Q LS s p L seen F m) := by
 have ca := tree_arity (T := T) x.op
 rw [ha] at ca
 have hop : x.op = 6 ∨ x.op = 11 := by rcases arN_cases x.op with ⟨e, h⟩ | ⟨e, h⟩ | ⟨e, h⟩ | ⟨e, h⟩ <;> omega
 have cp := pop_B (T := T) Q LS s p L seen F m (fz a) hx hm
 have c6 := frac_neg (T := T) (fz a) (by rw [fsz_fz]; omega)
 have c11 := frac_pow (T := T) (fz a) x.i (by rw [fsz_fz]; omega)
 rw [fv_fz] at c6 c11
 obtain ⟨⟨q0, q1, q2⟩, qy, qp⟩ := Q
 obtain ⟨op, i, n⟩ := x
 dsimp only at *
 unfold unV
 dsimp only
 rw [f484 _ _ rfl, b484]
 rcases hop with rfl | rfl
 ·rw [if_pos rfl]
  dsimp only
  generalize fz (-a) = z at *
  generalize fz a = u at *
  simp -implicitDefEqProofs [ca, cp, c6]
 ·rw [if_neg (by decide)]
  generalize fz (powR a i).1 = z at *
  generalize (powR a i).2 = ok at *
  generalize fz a = u at *
  simp -implicitDefEqProofs [ca, cp, c11]
theorem value2_B (Q : PoF) (LS : List Fz) (s p L seen : Int) (F : List Fz) (m : Nat) (x : Nd) (ha : arN x.op = 2) (a b : Rat) (hza : sz a ≤ 129) (hzb : sz b ≤ 129) (hx : F[m]? = some (fz a)) (hx2 : F[m + 1]? = some (fz b)) (hm : m ≤ 90000) :
  callH T 484 [wP, .agg (celN x)] (hpB 3 Q LS s p L seen F (m + 2)) = some (.tup [efz (fz (biV x.op a b).1), .b (biV x.op a b).2], hpB 3 Q LS s p L seen F m) := by
 have ca := tree_arity (T := T) x.op
 rw [ha] at ca
 have hop : x.op = 7 ∨ x.op = 8 ∨ x.op = 9 ∨ x.op = 10 := by rcases arN_cases x.op with ⟨e, h⟩ | ⟨e, h⟩ | ⟨e, h⟩ | ⟨e, h⟩ <;> omega
 have cp := pop_B (T := T) Q LS s p L seen F m (fz a) hx (by omega)
 have cp2 := pop_B (T := T) Q LS s p L seen F (m + 1) (fz b) hx2 (by omega)
 have sa : fsz (fz a) ≤ 1000 := by rw [fsz_fz]; omega
 have sb : fsz (fz b) ≤ 1000 := by rw [fsz_fz]; omega
 have c7 := frac_add (T := T) (fz a) (fz b) sa sb
 have c8 := frac_sub (T := T) (fz a) (fz b) sa sb
 have c9 := frac_mul (T := T) (fz a) (fz b) sa sb
 have c10 := frac_quo (T := T) (fz a) (fz b) sa sb
 rw [fv_fz, fv_fz] at c7 c8 c9 c10
 obtain ⟨⟨q0, q1, q2⟩, qy, qp⟩ := Q
 obtain ⟨op, i, n⟩ := x
 dsimp only at *
 unfold biV
 rw [f484 _ _ rfl, b484]
 rcases hop with rfl | rfl | rfl | rfl
 ·rw [if_pos rfl]
  dsimp only
  generalize fz (a + b) = z at *
  generalize fz a = u at *
  generalize fz b = w at *
  simp -implicitDefEqProofs [ca, cp, cp2, c7]
 ·rw [if_neg (by decide), if_pos rfl]
  dsimp only
  generalize fz (a - b) = z at *
  generalize fz a = u at *
  generalize fz b = w at *
  simp -implicitDefEqProofs [ca, cp, cp2, c8]
 ·rw [if_neg (by decide), if_neg (by decide), if_pos rfl]
  dsimp only
  generalize fz (a * b) = z at *
  generalize fz a = u at *
  generalize fz b = w at *
  simp -implicitDefEqProofs [ca, cp, cp2, c9]
 ·rw [if_neg (by decide), if_neg (by decide), if_neg (by decide)]
  dsimp only
  generalize fz (a / b) = z at *
  generalize decide (b ≠ 0) = ok at *
  generalize fz a = u at *
  generalize fz b = w at *
  simp -implicitDefEqProofs [ca, cp, cp2, c10]
end
abbrev bx4B (z : Fz) : Box := ⟨9, .str, 3, [[.b z.1, .sl (u32s z.2.1) .an, .sl (u32s z.2.2) .an]]⟩
abbrev bx5B (a b c d : Int) : Box := ⟨10, .str, 4, [[.i .i64 a, .i .i64 b, .i .i64 c, .i .i64 d]]⟩
abbrev hqB (gk : Nat) (Q : PoF) (LS : List Fz) (s p L seen : Int) (F : List Fz) (m : Nat) (z : Fz) (a b c d : Int) : Heap :=
 [(.bor 0, ⟨0, .str, 9, [[.b Q.t.1, .sl (u32s Q.t.2.1) .an, .sl (u32s Q.t.2.2) .an, .sl (rowF Q.y) .an, .sl (rowF Q.p) .an, .bs (.bor 1) 1 3 0 LS.length, .ptr (.bor 2) 2 3 0 0, .i .i64 seen, .bs (.bor 3) gk 3 0 m]]⟩), (.bor 1, ⟨1, .own, 3, rowF LS⟩), (.bor 2, bxG 2 s p L), (.bor 3, ⟨gk, .own, 3, rowF F⟩), (.loc 4, bx4B z), (.loc 5, bx5B a b c d)]
def stWB (gk : Nat) (Q : PoF) (LS : List Fz) (s p L seen : Int) (F : List Fz) (m : Nat) (code : List Nd) (i : Nat) : St :=
 ⟨[(0, wP), (4, .ptr (.loc 4) 9 3 0 0), (5, .ptr (.loc 5) 10 4 0 0), (18, .sl (rowN code) .an), (19, .i .i64 code.length), (20, .i .i64 i)], hqB gk Q LS s p L seen F m (false, [], []) 0 0 0 0, 12⟩
def endWB (gk : Nat) (Q : PoF) (LS : List Fz) (s p L seen : Int) (F : List Fz) (m : Nat) : Ex × St :=
 (.n, ⟨[(0, wP), (4, .ptr (.loc 4) 9 3 0 0), (5, .ptr (.loc 5) 10 4 0 0)], hqB gk Q LS s p L seen F m (false, [], []) 0 0 0 0, 12⟩)
def endSB (gk : Nat) (Q : PoF) (LS : List Fz) (s p L seen : Int) (F : List Fz) (m : Nat) (kind at_ : Int) : Ex × St :=
 (.r, ⟨[(4, .ptr (.loc 4) 9 3 0 0), (5, .ptr (.loc 5) 10 4 0 0)], hqB gk Q LS s p L seen F m (fz 0) kind 0 0 at_, 12⟩)
theorem rowF_pushB (m : List Fz) (v : Fz) : wkL (rowF m ++ [[.b v.1, .sl (u32s v.2.1) .an, .sl (u32s v.2.2) .an]]) = rowF (m ++ [v]) := by
 have : rowF m ++ [celF v] = rowF (m ++ [v]) := rowF_snoc m v
 rw [show [[AV.b v.1, .sl (u32s v.2.1) .an, .sl (u32s v.2.2) .an]] = [celF v] from rfl, this, rowF_wk]
section
variable {T : Tbl} [CLimb T] [CNat T] [CProd T] [CTwos T] [CQuot T] [CQuotD T] [CWhole T] [CCommon T] [CFrac T] [CFrac2 T] [CFrac3 T] [CFrac5 T] [CPow T] [CTape T] [CGauge T] [CEval T] [CEval2 T] [CTree T] [CText T] [CLenD T]
theorem wk_round_B {gk : Nat} (hk : gk = 3 ∨ gk = 8) (Q : PoF) (LS : List Fz) (s p L seen : Int) (F : List Fz) (m m2 : Nat) (code : List Nd) (i : Nat) (x : Nd) (v : Fz) (hx : code[i]? = some x) (hl : code.length ≤ 100000) (hm : m2 ≤ F.length) (hF : F.length ≤ 100000) (hs : 0 ≤ seen) (hs2 : seen ≤ 100000) (hv : fsz v ≤ 10000)
  (c : callH T 484 [wP, .agg (celN x)] (hpB 3 Q LS s p L seen F m) = some (.tup [efz v, .b true], hpB 3 Q LS s p L seen F m2)) (hf : (sizF v : Int) ≤ L) :
  evX (orc T) T 4 l473_0 (stWB gk Q LS s p L seen F m code i) = some (.n, stWB 8 Q LS (cntS s) (cntP p v) L (seen + 1) (F.take m2 ++ [v]) (m2 + 1) code (i + 1)) := by
 have cg := gauge_take (T := T) s p L v hv
 rw [decide_eq_true hf] at cg
 obtain ⟨hlt, hge⟩ := List.getElem?_eq_some_iff.1 hx
 have hlt' : (i : Int) < code.length := by omega
 have hws := wrapS hlt (by omega)
 have hw : IntKind.wrap .i64 (seen + 1) = seen + 1 := wrap_i64 _ (by omega)
 have hpu := rowF_pushB (F.take m2) v
 have htl : (F.take m2).length = m2 := by rw [List.length_take]; omega
 have h32 : m2 + 1 ≤ 4294967296 := by omega
 generalize cntS s = s' at *
 generalize cntP p v = p' at *
 obtain ⟨⟨q0, q1, q2⟩, qy, qp⟩ := Q
 obtain ⟨op, xi, n⟩ := x
 obtain ⟨v0, v1, v2⟩ := v
 unfold stWB
 rcases hk with rfl | rfl
 ·simp -implicitDefEqProofs [l473_0, hlt, hlt', hx, hge, hws, c, cg, hw, hpu, hm, h32]
 ·simp -implicitDefEqProofs [l473_0, hlt, hlt', hx, hge, hws, c, cg, hw, hpu, hm, h32]
theorem wk_pole_B {gk : Nat} (hk : gk = 3 ∨ gk = 8) (Q : PoF) (LS : List Fz) (s p L seen : Int) (F : List Fz) (m m2 : Nat) (code : List Nd) (i : Nat) (x : Nd) (v : Fz) (hx : code[i]? = some x)
  (c : callH T 484 [wP, .agg (celN x)] (hpB 3 Q LS s p L seen F m) = some (.tup [efz v, .b false], hpB 3 Q LS s p L seen F m2)) :
  evX (orc T) T 4 l473_0 (stWB gk Q LS s p L seen F m code i) = some (endSB gk Q LS s p L seen F m2 3 seen) := by
 have c0 := frac_of0 (T := T)
 obtain ⟨hlt, hge⟩ := List.getElem?_eq_some_iff.1 hx
 have hlt' : (i : Int) < code.length := by omega
 unfold stWB endSB
 generalize fz 0 = Z at *
 obtain ⟨z0, z1, z2⟩ := Z
 obtain ⟨⟨q0, q1, q2⟩, qy, qp⟩ := Q
 obtain ⟨op, xi, n⟩ := x
 obtain ⟨v0, v1, v2⟩ := v
 rcases hk with rfl | rfl
 ·simp -implicitDefEqProofs [l473_0, hlt, hlt', hx, hge, c, c0]
 ·simp -implicitDefEqProofs [l473_0, hlt, hlt', hx, hge, c, c0]
theorem wk_bits_B {gk : Nat} (hk : gk = 3 ∨ gk = 8) (Q : PoF) (LS : List Fz) (s p L seen : Int) (F : List Fz) (m m2 : Nat) (code : List Nd) (i : Nat) (x : Nd) (v : Fz) (hx : code[i]? = some x) (hv : fsz v ≤ 10000)
  (c : callH T 484 [wP, .agg (celN x)] (hpB 3 Q LS s p L seen F m) = some (.tup [efz v, .b true], hpB 3 Q LS s p L seen F m2)) (hf : ¬ (sizF v : Int) ≤ L) :
  evX (orc T) T 4 l473_0 (stWB gk Q LS s p L seen F m code i) = some (endSB gk Q LS (cntS s) (cntP p v) L seen F m2 6 seen) := by
 have c0 := frac_of0 (T := T)
 have cg := gauge_take (T := T) s p L v hv
 rw [decide_eq_false hf] at cg
 obtain ⟨hlt, hge⟩ := List.getElem?_eq_some_iff.1 hx
 have hlt' : (i : Int) < code.length := by omega
 generalize cntS s = s' at *
 generalize cntP p v = p' at *
 unfold stWB endSB
 generalize fz 0 = Z at *
 obtain ⟨z0, z1, z2⟩ := Z
 obtain ⟨⟨q0, q1, q2⟩, qy, qp⟩ := Q
 obtain ⟨op, xi, n⟩ := x
 obtain ⟨v0, v1, v2⟩ := v
 rcases hk with rfl | rfl
 ·simp -implicitDefEqProofs [l473_0, hlt, hlt', hx, hge, c, cg, c0]
 ·simp -implicitDefEqProofs [l473_0, hlt, hlt', hx, hge, c, cg, c0]
theorem wk_end_B {gk : Nat} (hk : gk = 3 ∨ gk = 8) (Q : PoF) (LS : List Fz) (s p L seen : Int) (F : List Fz) (m : Nat) (code : List Nd) :
  isEx (evX (orc T) T 4 l473_0 (stWB gk Q LS s p L seen F m code code.length)) = true ∧ finX 4 0 (.norm false [0, 4, 5]) (evX (orc T) T 4 l473_0 (stWB gk Q LS s p L seen F m code code.length)) = some (endWB gk Q LS s p L seen F m) := by
 obtain ⟨⟨q0, q1, q2⟩, qy, qp⟩ := Q
 unfold stWB endWB
 rcases hk with rfl | rfl <;> constructor <;> simp -implicitDefEqProofs [l473_0]
end
section
variable {T : Tbl} [CLimb T] [CNat T] [CProd T] [CTwos T] [CQuot T] [CQuotD T] [CWhole T] [CCommon T] [CFrac T] [CFrac2 T] [CFrac3 T] [CFrac5 T] [CPow T] [CTape T] [CGauge T] [CEval T] [CEval2 T] [CTree T] [CText T] [CLenD T]
theorem finS_B (gk : Nat) (Q : PoF) (LS : List Fz) (s p L seen : Int) (F : List Fz) (m : Nat) (kind at_ : Int) : finX 4 0 (.norm false [0, 4, 5]) (some (endSB gk Q LS s p L seen F m kind at_)) = some (endSB gk Q LS s p L seen F m kind at_) := by
 unfold endSB
 simp -implicitDefEqProofs
def endQB (P : Po) (lim : Nat) (ls : List Rat) (n : Nat) (R : Rat × Nat × Nat) (r : Ex × St) : Prop :=
 (R.2.1 = 0 ∧ ∃ gk s p F, (gk = 3 ∨ gk = 8) ∧ F[0]? = some (fz R.1) ∧ F.length ≤ 5000 ∧ r = endWB gk P.f (fzs ls) s p lim n F 1) ∨
 (R.2.1 ≠ 0 ∧ ∃ gk s p seen F m, (gk = 3 ∨ gk = 8) ∧ r = endSB gk P.f (fzs ls) s p lim seen F m R.2.1 R.2.2)
theorem code_loop_B (P : Po) (lim : Nat) (hlim : lim ≤ 4096) (ls : List Rat) (hP : PvS P 1000) (hls : ∀ q ∈ ls, sz q ≤ 1000) (code : List Nd) (hl : code.length ≤ 3000) (hok : ∀ x ∈ code, okN P.y.length P.p.length ls.length x = true) (hn : thin 1000 code) (hwr : wrongN code = -1) (n0 : Nat) (hn0 : n0 ≤ 10000) (s0 p0 : Int) (F0 : List Fz) (hF0 : F0.length ≤ 5000) :
  ∃ r, endQB P lim ls (n0 + code.length) (walkR lim P ls n0 [] code) r ∧ loopN T 4 0 (.norm false [0, 4, 5]) l473_0 (stWB 3 P.f (fzs ls) s0 p0 lim n0 F0 0 code 0) = some r := by
 refine loopN_ex (fun x : Nat × List Rat × Nat × (Int × Int) × List Fz => stWB x.2.2.1 P.f (fzs ls) x.2.2.2.1.1 x.2.2.2.1.2 lim ((n0 + x.1 : Nat) : Int) x.2.2.2.2 x.2.1.length code x.1)
  (fun x => x.1 ≤ code.length ∧ (x.2.2.1 = 3 ∨ x.2.2.1 = 8) ∧ x.2.2.2.2.take x.2.1.length = fzs x.2.1.reverse ∧ x.2.1.length ≤ x.2.2.2.2.length ∧ x.2.2.2.2.length ≤ 5000 ∧ (∀ q ∈ x.2.1, sz q ≤ 129) ∧ x.2.1.length ≤ x.1 ∧ (∃ j, wrongL j x.2.1.length (code.drop x.1) = -1) ∧ walkR lim P ls (n0 + x.1) x.2.1 (code.drop x.1) = walkR lim P ls n0 [] code)
  (fun x => code.length - x.1) _ ?_ (0, [], 3, (s0, p0), F0) ⟨Nat.zero_le _, .inl rfl, rfl, Nat.zero_le _, hF0, by simp, Nat.le_refl _, ⟨0, hwr⟩, rfl⟩
 rintro ⟨i, s, gk, ⟨c, p⟩, F⟩ ⟨hi, hk, hF, hsF, hFl, hz, hsi, ⟨j, hw⟩, hW⟩
 dsimp only at *
 by_cases hlt : i < code.length
 ·have hx : code[i]? = some (code[i]'hlt) := List.getElem?_eq_getElem hlt
  have hd : code.drop i = code[i]'hlt :: code.drop (i + 1) := List.drop_eq_getElem_cons hlt
  have hmem := List.getElem_mem hlt
  generalize code[i]'hlt = x at *
  rw [hd] at hw hW
  have hxn := hn x hmem
  have hxo := okN_ix (hok x hmem)
  have h1 : ¬ (arN x.op < 0 ∨ (s.length : Int) < arN x.op) := by
   intro hh
   unfold wrongL at hw
   rw [if_pos hh] at hw
   omega
  have hw2 : wrongL (j + 1) (s.length + 1 - arN x.op) (code.drop (i + 1)) = -1 := by
   unfold wrongL at hw
   rwa [if_neg h1] at hw
  -- one round, by what the node makes of the stack
  have round : ∀ (v : Rat) (ok : Bool) (s' : List Rat), stepV P ls s x = ((v, ok), s') → sz v ≤ 2000 → s'.length ≤ s.length → (s'.length : Int) = s.length - arN x.op → (∀ q ∈ s', q ∈ s) → F.take s'.length = fzs s'.reverse →
    callH T 484 [wP, .agg (celN x)] (hpB 3 P.f (fzs ls) c p lim ((n0 + i : Nat) : Int) F s.length) = some (.tup [efz (fz v), .b ok], hpB 3 P.f (fzs ls) c p lim ((n0 + i : Nat) : Int) F s'.length) →
    (∃ y : Nat × List Rat × Nat × (Int × Int) × List Fz, (y.1 ≤ code.length ∧ (y.2.2.1 = 3 ∨ y.2.2.1 = 8) ∧ y.2.2.2.2.take y.2.1.length = fzs y.2.1.reverse ∧ y.2.1.length ≤ y.2.2.2.2.length ∧ y.2.2.2.2.length ≤ 5000 ∧ (∀ q ∈ y.2.1, sz q ≤ 129) ∧ y.2.1.length ≤ y.1 ∧ (∃ j, wrongL j y.2.1.length (code.drop y.1) = -1) ∧ walkR lim P ls (n0 + y.1) y.2.1 (code.drop y.1) = walkR lim P ls n0 [] code) ∧ code.length - y.1 < code.length - i ∧
     evX (orc T) T 4 l473_0 (stWB gk P.f (fzs ls) c p lim ((n0 + i : Nat) : Int) F s.length code i) = some (.n, stWB y.2.2.1 P.f (fzs ls) y.2.2.2.1.1 y.2.2.2.1.2 lim ((n0 + y.1 : Nat) : Int) y.2.2.2.2 y.2.1.length code y.1)) ∨
    (∃ r, endQB P lim ls (n0 + code.length) (walkR lim P ls n0 [] code) r ∧ isEx (evX (orc T) T 4 l473_0 (stWB gk P.f (fzs ls) c p lim ((n0 + i : Nat) : Int) F s.length code i)) = true ∧
     finX 4 0 (.norm false [0, 4, 5]) (evX (orc T) T 4 l473_0 (stWB gk P.f (fzs ls) c p lim ((n0 + i : Nat) : Int) F s.length code i)) = some r) := by
   intro v ok s' hst hv hs's hlen hsub hF' hc
   have hvf : fsz (fz v) ≤ 10000 := by rw [fsz_fz]; omega
   rw [walkR, hst] at hW
   dsimp only at hW
   cases ok with
   | false =>
    right
    have e := wk_pole_B (T := T) hk P.f (fzs ls) c p lim ((n0 + i : Nat) : Int) F s.length s'.length code i x (fz v) hx hc
    have ef : finV lim (v, false) (n0 + i) = (0, 3, n0 + i) := rfl
    rw [ef] at hW
    rw [if_pos (by simp)] at hW
    refine ⟨endSB gk P.f (fzs ls) c p lim ((n0 + i : Nat) : Int) F s'.length 3 ((n0 + i : Nat) : Int), .inr ?_, by rw [e]; rfl, by rw [e, finS_B]⟩
    rw [← hW]
    exact ⟨by simp, gk, c, p, _, F, _, hk, rfl⟩
   | true =>
    by_cases hfit : sizQ v ≤ lim
    ·left
     have ef : finV lim (v, true) (n0 + i) = (v, 0, 0) := by unfold finV; rw [if_neg (by simp), if_neg (by dsimp only; omega)]
     rw [ef] at hW
     rw [if_neg (by simp)] at hW
     have e := wk_round_B (T := T) hk P.f (fzs ls) c p lim ((n0 + i : Nat) : Int) F s.length s'.length code i x (fz v) hx (by omega) (by omega) (by omega) (by omega) (by omega) hvf hc (by unfold sizQ at hfit; omega)
     have hn1 : ((n0 + i : Nat) : Int) + 1 = ((n0 + (i + 1) : Nat) : Int) := by omega
     rw [hn1] at e
     have hl1 : (F.take s'.length ++ [fz v]).length = s'.length + 1 := by rw [List.length_append, List.length_take]; simp only [List.length_cons, List.length_nil]; omega
     refine ⟨(i + 1, v :: s', 8, (cntS c, cntP p (fz v)), F.take s'.length ++ [fz v]), ⟨by dsimp only; omega, .inr rfl, ?_, ?_, ?_, ?_, ?_, ⟨j + 1, ?_⟩, ?_⟩, by dsimp only; omega, e⟩
     ·dsimp only
      rw [List.length_cons, List.take_of_length_le (by omega), hF']
      simp [fzs]
     ·dsimp only; rw [List.length_cons, hl1]; exact Nat.le_refl _
     ·dsimp only; rw [hl1]; omega
     ·intro q hq
      rcases List.mem_cons.1 hq with rfl | hq
      ·exact fit_sz hlim hfit
      ·exact hz q (hsub q hq)
     ·dsimp only; rw [List.length_cons]; omega
     ·dsimp only
      rw [← hw2]
      congr 1
      rw [List.length_cons]; omega
     ·dsimp only
      rw [← hW]
      congr 1
    ·right
     have ef : finV lim (v, true) (n0 + i) = (0, 6, n0 + i) := by unfold finV; rw [if_neg (by simp), if_pos (by dsimp only; omega)]
     rw [ef] at hW
     rw [if_pos (by simp)] at hW
     have e := wk_bits_B (T := T) hk P.f (fzs ls) c p lim ((n0 + i : Nat) : Int) F s.length s'.length code i x (fz v) hx hvf hc (by unfold sizQ at hfit; omega)
     refine ⟨endSB gk P.f (fzs ls) (cntS c) (cntP p (fz v)) lim ((n0 + i : Nat) : Int) F s'.length 6 ((n0 + i : Nat) : Int), .inr ?_, by rw [e]; rfl, by rw [e, finS_B]⟩
     rw [← hW]
     exact ⟨by simp, gk, _, _, _, F, _, hk, rfl⟩
  rcases arN_cases x.op with ⟨e, ho⟩ | ⟨e, ho⟩ | ⟨e, ho⟩ | ⟨e, ho⟩
  ·have hst : stepV P ls s x = ((leafV P ls x, true), s) := by unfold stepV; rw [if_pos e]
   have cl := leaf_B (T := T) P ls c p lim ((n0 + i : Nat) : Int) F s.length x e hxn hxo.1 hxo.2.1 hxo.2.2
   exact round _ true s hst (by have := leafV_sz (P := P) hP hls hxn; omega) (Nat.le_refl _) (by rw [e]; omega) (fun q hq => hq) hF (value0_B P.f (fzs ls) c p lim _ F s.length x e _ cl)
  ·cases s with
   | nil => exfalso; apply h1; right; rw [e]; decide
   | cons a s1 =>
    have hst : stepV P ls (a :: s1) x = (unV x a, s1) := by unfold stepV; rw [if_neg (by omega), if_pos e]; rfl
    have hza := hz a (by simp)
    have hFa : F[s1.length]? = some (fz a) := by
     have : (F.take (a :: s1).length)[s1.length]? = some (fz a) := by rw [hF]; simp [fzs]
     rwa [List.getElem?_take, if_pos (by simp)] at this
    have hF1 : F.take s1.length = fzs s1.reverse := by
     have : (F.take (a :: s1).length).take s1.length = fzs s1.reverse := by rw [hF]; simp [fzs]
     rwa [List.take_take, Nat.min_eq_left (by simp)] at this
    have cv := value1_B (T := T) P.f (fzs ls) c p lim ((n0 + i : Nat) : Int) F s1.length x e a hza hFa (by rw [List.length_cons] at hsi; omega)
    exact round (unV x a).1 (unV x a).2 s1 hst (unV_sz hza) (by simp) (by rw [e, List.length_cons]; omega) (fun q hq => by simp [hq]) hF1 cv
  ·cases s with
   | nil => exfalso; apply h1; right; rw [e]; decide
   | cons b s0 =>
   cases s0 with
   | nil => exfalso; apply h1; right; rw [e]; simp
   | cons a s1 =>
    have hst : stepV P ls (b :: a :: s1) x = (biV x.op a b, s1) := by unfold stepV; rw [if_neg (by omega), if_neg (by omega)]; rfl
    have hza := hz a (by simp)
    have hzb := hz b (by simp)
    have hFa : F[s1.length]? = some (fz a) := by
     have : (F.take (b :: a :: s1).length)[s1.length]? = some (fz a) := by rw [hF]; simp [fzs]
     rwa [List.getElem?_take, if_pos (by simp only [List.length_cons]; omega)] at this
    have hFb : F[s1.length + 1]? = some (fz b) := by
     have : (F.take (b :: a :: s1).length)[s1.length + 1]? = some (fz b) := by rw [hF]; simp [fzs]
     rwa [List.getElem?_take, if_pos (by simp)] at this
    have hF1 : F.take s1.length = fzs s1.reverse := by
     have : (F.take (b :: a :: s1).length).take s1.length = fzs s1.reverse := by rw [hF]; simp [fzs]
     rwa [List.take_take, Nat.min_eq_left (by simp; omega)] at this
    have cv := value2_B (T := T) P.f (fzs ls) c p lim ((n0 + i : Nat) : Int) F s1.length x e a b hza hzb hFa hFb (by simp only [List.length_cons] at hsi; omega)
    exact round (biV x.op a b).1 (biV x.op a b).2 s1 hst (biV_sz hza hzb) (by simp; omega) (by rw [e, List.length_cons, List.length_cons]; omega) (fun q hq => by simp [hq]) hF1 cv
  ·exfalso; apply h1; left; omega
 ·right
  have hi2 : i = code.length := by omega
  subst hi2
  rw [List.drop_length] at hw hW
  have hs1 : s.length = 1 := by
   unfold wrongL at hw
   split at hw
   ·omega
   ·omega
  obtain ⟨v, rfl⟩ := List.length_eq_one_iff.1 hs1
  have e := wk_end_B (T := T) hk P.f (fzs ls) c p lim ((n0 + code.length : Nat) : Int) F 1 code
  refine ⟨endWB gk P.f (fzs ls) c p lim ((n0 + code.length : Nat) : Int) F 1, .inl ?_, e.1, e.2⟩
  have hR : walkR lim P ls (n0 + code.length) [v] [] = (v, 0, 0) := rfl
  rw [hR] at hW
  rw [← hW]
  have hFa : F[0]? = some (fz v) := by
   have : (F.take [v].length)[0]? = some (fz v) := by rw [hF]; simp [fzs]
   rwa [List.getElem?_take, if_pos (by simp)] at this
  exact ⟨rfl, gk, c, p, F, hk, hFa, hFl, rfl⟩
end
section
variable {T : Tbl} [CLimb T] [CNat T] [CProd T] [CTwos T] [CQuot T] [CQuotD T] [CWhole T] [CCommon T] [CFrac T] [CFrac2 T] [CFrac3 T] [CFrac5 T] [CPow T] [CTape T] [CGauge T] [CEval T] [CEval2 T] [CTree T] [CText T] [CLenD T]
theorem eval_code_B (P : Po) (lim : Nat) (hlim : lim ≤ 4096) (ls : List Rat) (hP : PvS P 1000) (hls : ∀ q ∈ ls, sz q ≤ 1000) (code : List Nd) (hl : code.length ≤ 3000) (hok : ∀ x ∈ code, okN P.y.length P.p.length ls.length x = true) (hn : thin 1000 code) (hwr : wrongN code = -1) (n0 : Nat) (hn0 : n0 ≤ 10000) (s0 p0 : Int) (F0 : List Fz) (m0 : Nat) (hF0 : F0.length ≤ 5000) :
  ∃ (gk : Nat) (s p seen : Int) (F : List Fz) (m : Nat), (gk = 3 ∨ gk = 8) ∧ ((walkR lim P ls n0 [] code).2.1 = 0 → seen = ((n0 + code.length : Nat) : Int) ∧ F.length ≤ 5000) ∧
   callH T 473 [wP, .sl (rowN code) .an] (hpB 3 P.f (fzs ls) s0 p0 lim n0 F0 m0) = some (.tup [efz (fz (walkR lim P ls n0 [] code).1), .agg [.i .i64 (walkR lim P ls n0 [] code).2.1, .i .i64 0, .i .i64 0, .i .i64 (walkR lim P ls n0 [] code).2.2]], hpB gk P.f (fzs ls) s p lim seen F m) := by
 obtain ⟨r, hq, hlo⟩ := code_loop_B (T := T) P lim hlim ls hP hls code hl hok hn hwr n0 hn0 s0 p0 F0 hF0
 have hst := walkR_stop lim P ls code n0 []
 have hat := walkR_at lim P ls code n0 []
 generalize walkR lim P ls n0 [] code = R at *
 obtain ⟨v, kind, at_⟩ := R
 dsimp only at *
 unfold stWB at hlo
 have he : hqB 3 P.f (fzs ls) s0 p0 lim n0 F0 0 (false, [], []) 0 0 0 0 = [(.bor 0, ⟨0, .str, 9, [[.b P.f.t.1, .sl (u32s P.f.t.2.1) .an, .sl (u32s P.f.t.2.2) .an, .sl (rowF P.f.y) .an, .sl (rowF P.f.p) .an, .bs (.bor 1) 1 3 0 (fzs ls).length, .ptr (.bor 2) 2 3 0 0, .i .i64 n0, .bs (.bor 3) 3 3 0 0]]⟩), (.bor 1, ⟨1, .own, 3, rowF (fzs ls)⟩), (.bor 2, bxG 2 s0 p0 lim), (.bor 3, ⟨3, .own, 3, rowF F0⟩), (.loc 4, ⟨9, .str, 3, [[.b false, .sl [] .an, .sl [] .an]]⟩), (.loc 5, ⟨10, .str, 4, [[.i .i64 0, .i .i64 0, .i .i64 0, .i .i64 0]]⟩)] := rfl
 rw [he] at hlo
 clear he
 simp only [Int.natCast_zero] at hlo
 rcases hq with ⟨h0, gk, s, p, F, hk, hF, hFl, rfl⟩ | ⟨h0, gk, s, p, seen, F, m, hk, rfl⟩
 ·dsimp only at h0 hF
  subst h0
  refine ⟨gk, s, p, _, F, 1, hk, fun _ => ⟨rfl, hFl⟩, ?_⟩
  have ha := hat rfl
  subst ha
  have hge := (List.getElem?_eq_some_iff.1 hF).2
  have hlt := (List.getElem?_eq_some_iff.1 hF).1
  unfold endWB at hlo
  generalize P.f = Q at *
  obtain ⟨⟨q0, q1, q2⟩, qy, qp⟩ := Q
  generalize fzs ls = LS at *
  generalize fz v = V at *
  obtain ⟨v0, v1, v2⟩ := V
  rw [f473 _ _ rfl, b473]
  clear hP hls hok hst hat hlim
  rcases hk with rfl | rfl
  ·simp -implicitDefEqProofs [hlo, hF, hge, hlt]
  ·simp -implicitDefEqProofs [hlo, hF, hge, hlt]
 ·dsimp only at h0
  refine ⟨gk, s, p, seen, F, m, hk, fun h => absurd h h0, ?_⟩
  have hv := hst h0
  subst hv
  unfold endSB at hlo
  dsimp only at hlo
  generalize P.f = Q at *
  obtain ⟨⟨q0, q1, q2⟩, qy, qp⟩ := Q
  generalize fzs ls = LS at *
  generalize fz 0 = V at *
  obtain ⟨v0, v1, v2⟩ := V
  rw [f473 _ _ rfl, b473]
  clear hP hls hok hst hat hlim
  rcases hk with rfl | rfl
  ·simp -implicitDefEqProofs [hlo]
  ·simp -implicitDefEqProofs [hlo]
end
def evLt (lim : Nat) (P : Po) : Nat → List Rat → List (List Nd) → Nat × List Rat × Nat × Nat
 | n, ls, [] => (n, ls, 0, 0)
 | n, ls, c :: r => if (walkR lim P ls n [] c).2.1 ≠ 0 then (n, ls, (walkR lim P ls n [] c).2.1, (walkR lim P ls n [] c).2.2) else evLt lim P (n + c.length) (ls ++ [(walkR lim P ls n [] c).1]) r
def evOu (lim : Nat) (P : Po) (ls : List Rat) : Nat → List Rat → List (List Nd) → List Rat × Nat × Nat
 | _, os, [] => (os, 0, 0)
 | n, os, c :: r => if (walkR lim P ls n [] c).2.1 ≠ 0 then ([], (walkR lim P ls n [] c).2.1, (walkR lim P ls n [] c).2.2) else evOu lim P ls (n + c.length) (os ++ [(walkR lim P ls n [] c).1]) r
def evD (lim : Nat) (P : Po) (f : Fd) : List Rat × Nat × Nat :=
 if (evLt lim P 0 [] (f.lets.map (·.code))).2.2.1 ≠ 0 then ([], (evLt lim P 0 [] (f.lets.map (·.code))).2.2) else evOu lim P (evLt lim P 0 [] (f.lets.map (·.code))).2.1 (evLt lim P 0 [] (f.lets.map (·.code))).1 [] f.outs
theorem ptA_neg {dim pars lets : Int} {c : List Nd} (h : ptA dim pars lets c < 0) : placeN dim pars lets c < 0 ∧ depN c ≤ 40 := by
 unfold ptA at h
 by_cases h1 : placeN dim pars lets c < 0 ∧ 40 < depN c
 ·rw [if_pos h1] at h; omega
 ·rw [if_neg h1] at h
  exact ⟨h, by omega⟩
theorem chkL_none {dim pars : Int} {L : List Lt} : ∀ (l : List Lt) (i : Nat), chkL dim pars L i l = none → ∀ k x, l[k]? = some x → ptA dim pars ((i + k : Nat) : Int) x.code < 0
 | [], i, h, k, x, hk => by simp at hk
 | y :: r, i, h, k, x, hk => by
  unfold chkL at h
  split at h
  ·cases h
  ·split at h
   ·cases h
   ·next h2 =>
    cases k with
    | zero =>
     simp only [List.getElem?_cons_zero, Option.some.injEq] at hk
     subst hk
     rw [Nat.add_zero]; omega
    | succ k =>
     rw [List.getElem?_cons_succ] at hk
     have := chkL_none r (i + 1) h k x hk
     rwa [show i + 1 + k = i + (k + 1) by omega] at this
theorem chkO_none {dim pars : Int} {n : Nat} : ∀ (l : List (List Nd)) (i : Nat), chkO dim pars n i l = none → ∀ c ∈ l, ptA dim pars n c < 0
 | [], i, h, c, hc => by simp at hc
 | y :: r, i, h, c, hc => by
  unfold chkO at h
  split at h
  ·cases h
  ·rcases List.mem_cons.1 hc with rfl | hc
   ·omega
   ·exact chkO_none r (i + 1) h c hc
structure FineD (f : Fd) (dim pars : Int) : Prop where
 wh : 1 ≤ dim ∧ dim ≤ 6 ∧ 0 ≤ pars ∧ pars ≤ 6 ∧ (f.outs.length : Int) = dim ∧ f.lets.length ≤ 10 ∧ sizeD f ≤ 300
 lets : ∀ k x, f.lets[k]? = some x → placeN dim pars (k : Nat) x.code < 0
 outs : ∀ c ∈ f.outs, placeN dim pars f.lets.length c < 0
theorem chkD_none {f : Fd} {dim pars : Int} (h : chkD f dim pars = none) : FineD f dim pars := by
 unfold chkD at h
 cases hW : whB f dim pars with
 | false => rw [hW, if_pos rfl] at h; cases h
 | true =>
  rw [hW, if_neg (by decide)] at h
  have hw := by simpa [whB] using hW
  cases hL : chkL dim pars f.lets 0 f.lets with
  | some q => rw [hL] at h; cases h
  | none =>
   rw [hL] at h
   refine ⟨hw, fun k x hk => ?_, fun c hc => (ptA_neg (chkO_none _ _ h c hc)).1⟩
   have := chkL_none _ _ hL k x hk
   rw [Nat.zero_add] at this
   exact (ptA_neg this).1
section
variable {T : Tbl} [CLimb T] [CNat T] [CProd T] [CTwos T] [CQuot T] [CQuotD T] [CWhole T] [CCommon T] [CFrac T] [CFrac2 T] [CFrac3 T] [CFrac5 T] [CPow T] [CTape T] [CGauge T] [CEval T] [CEval2 T] [CTree T] [CText T] [CLenD T] [CTree2 T] [CJoin T] [CLex T] [CCheck T]
abbrev hpE (f : Fd) (gk : Nat) (Q : PoF) (LS : List Fz) (s p L seen : Int) (F : List Fz) (m : Nat) : Heap :=
 [(.loc 3, bxFd 1 f), (.loc 7, ⟨2, .str, 4, [[.i .i64 0, .i .i64 0, .i .i64 0, .i .i64 0]]⟩),
  (.loc 36, ⟨3, .str, 9, [[.b Q.t.1, .sl (u32s Q.t.2.1) .an, .sl (u32s Q.t.2.2) .an, .sl (rowF Q.y) .an, .sl (rowF Q.p) .an, .bs ((BId.loc 36).fld 5) 4 3 0 LS.length, .ptr ((BId.loc 34).fld 7) 5 3 0 0, .i .i64 seen, .bs ((BId.loc 36).fld 8) gk 3 0 m]]⟩),
  ((BId.loc 36).fld 5, ⟨4, .own, 3, rowF LS⟩), ((BId.loc 34).fld 7, bxG 5 s p L), ((BId.loc 36).fld 8, ⟨gk, .own, 3, rowF F⟩)]
def stEL (f : Fd) (Q : PoF) (LS : List Fz) (s p L seen : Int) (F : List Fz) (m i : Nat) : St :=
 ⟨[(3, .ptr (.loc 3) 1 2 0 0), (7, .ptr (.loc 7) 2 4 0 0), (9, .ptr (.loc 36) 3 9 0 0), (38, .sl (rowLt f.lets) .an), (39, .i .i64 f.lets.length), (40, .i .i64 i)], hpE f 6 Q LS s p L seen F m, 8⟩
def endEL (f : Fd) (Q : PoF) (LS : List Fz) (s p L seen : Int) (F : List Fz) (m : Nat) : Ex × St :=
 (.n, ⟨[(3, .ptr (.loc 3) 1 2 0 0), (7, .ptr (.loc 7) 2 4 0 0), (9, .ptr (.loc 36) 3 9 0 0)], hpE f 6 Q LS s p L seen F m, 8⟩)
def endEf (kind at_ : Int) : Ex × St :=
 (.r, ⟨[(6, .sl [] .an), (7, .ptr (.loc 7) 1 4 0 0)], [(.loc 7, ⟨1, .str, 4, [[.i .i64 kind, .i .i64 0, .i .i64 0, .i .i64 at_]]⟩)], 3⟩)
theorem el_round (f : Fd) (Q : PoF) (LS : List Fz) (s p L seen : Int) (F : List Fz) (m i : Nat) (hi : i < f.lets.length) (hf : f.lets.length ≤ 10) (hLS : LS.length = i) (V : Fz) (gk : Nat) (s2 p2 seen2 : Int) (F2 : List Fz) (m2 : Nat) (hk : gk = 3 ∨ gk = 8)
  (c5 : callH T 473 [wP, .sl (rowN (f.lets[i]'hi).code) .an] (hpB 3 Q LS s p L seen F m) = some (.tup [efz V, .agg [.i .i64 0, .i .i64 0, .i .i64 0, .i .i64 0]], hpB gk Q LS s2 p2 L seen2 F2 m2)) :
  evX (orc T) T 0 l467_0 (stEL f Q LS s p L seen F m i) = some (.n, stEL f Q (LS ++ [V]) s2 p2 L seen2 F2 m2 (i + 1)) := by
 have hg : f.lets[i]? = some (f.lets[i]'hi) := List.getElem?_eq_getElem hi
 have hi' : (i : Int) < f.lets.length := by omega
 have hws := wrapS hi (by omega)
 have hp := rowF_pushB LS V
 have hle : i + 1 ≤ 4294967296 := by omega
 unfold stEL hpE bxFd
 simp only [hpB] at c5
 obtain ⟨L0, O⟩ := f
 obtain ⟨⟨q0, q1, q2⟩, qy, qp⟩ := Q
 obtain ⟨v0, v1, v2⟩ := V
 dsimp only at *
 generalize hx : L0[i]'hi = x at *
 obtain ⟨nm, code⟩ := x
 dsimp only at *
 rw [List.length_append]
 simp only [hLS] at c5 ⊢
 have ht : List.take i LS = LS := by rw [← hLS, List.take_length]
 rcases hk with rfl | rfl
 ·simp -implicitDefEqProofs [l467_0, hi, hi', hg, hx, hws, c5, bxG, hLS, ht, hp, hle]
 ·simp -implicitDefEqProofs [l467_0, hi, hi', hg, hx, hws, c5, bxG, hLS, ht, hp, hle]
theorem el_stop (f : Fd) (Q : PoF) (LS : List Fz) (s p L seen : Int) (F : List Fz) (m i : Nat) (hi : i < f.lets.length) (hf : f.lets.length ≤ 10) (V : Fz) (gk : Nat) (s2 p2 seen2 : Int) (F2 : List Fz) (m2 : Nat) (hk : gk = 3 ∨ gk = 8) (kind at_ : Int) (hne : kind ≠ 0)
  (c5 : callH T 473 [wP, .sl (rowN (f.lets[i]'hi).code) .an] (hpB 3 Q LS s p L seen F m) = some (.tup [efz V, .agg [.i .i64 kind, .i .i64 0, .i .i64 0, .i .i64 at_]], hpB gk Q LS s2 p2 L seen2 F2 m2)) :
  isEx (evX (orc T) T 0 l467_0 (stEL f Q LS s p L seen F m i)) = true ∧ finX 0 0 (.norm false [3, 7, 9]) (evX (orc T) T 0 l467_0 (stEL f Q LS s p L seen F m i)) = some (endEf kind at_) := by
 have hg : f.lets[i]? = some (f.lets[i]'hi) := List.getElem?_eq_getElem hi
 have hi' : (i : Int) < f.lets.length := by omega
 unfold stEL hpE bxFd endEf
 simp only [hpB] at c5
 obtain ⟨L0, O⟩ := f
 obtain ⟨⟨q0, q1, q2⟩, qy, qp⟩ := Q
 obtain ⟨v0, v1, v2⟩ := V
 dsimp only at *
 generalize hx : L0[i]'hi = x at *
 obtain ⟨nm, code⟩ := x
 dsimp only at *
 rcases hk with rfl | rfl
 ·constructor <;> simp -implicitDefEqProofs [l467_0, hi, hi', hg, hx, c5, bxG, hne]
 ·constructor <;> simp -implicitDefEqProofs [l467_0, hi, hi', hg, hx, c5, bxG, hne]
theorem el_fin (f : Fd) (Q : PoF) (LS : List Fz) (s p L seen : Int) (F : List Fz) (m : Nat) :
  isEx (evX (orc T) T 0 l467_0 (stEL f Q LS s p L seen F m f.lets.length)) = true ∧ finX 0 0 (.norm false [3, 7, 9]) (evX (orc T) T 0 l467_0 (stEL f Q LS s p L seen F m f.lets.length)) = some (endEL f Q LS s p L seen F m) := by
 unfold stEL hpE bxFd endEL hpE bxFd
 obtain ⟨L0, O⟩ := f
 obtain ⟨⟨q0, q1, q2⟩, qy, qp⟩ := Q
 dsimp only at *
 constructor <;> simp -implicitDefEqProofs [l467_0, bxG]
abbrev hpO (gk : Nat) (Q : PoF) (LS : List Fz) (s p L seen : Int) (F : List Fz) (m : Nat) (OS : List Fz) : Heap :=
 [(.loc 7, ⟨1, .str, 4, [[.i .i64 0, .i .i64 0, .i .i64 0, .i .i64 0]]⟩),
  (.loc 36, ⟨2, .str, 9, [[.b Q.t.1, .sl (u32s Q.t.2.1) .an, .sl (u32s Q.t.2.2) .an, .sl (rowF Q.y) .an, .sl (rowF Q.p) .an, .bs ((BId.loc 36).fld 5) 3 3 0 LS.length, .ptr ((BId.loc 34).fld 7) 4 3 0 0, .i .i64 seen, .bs ((BId.loc 36).fld 8) gk 3 0 m]]⟩),
  ((BId.loc 36).fld 5, ⟨3, .own, 3, rowF LS⟩), ((BId.loc 34).fld 7, bxG 4 s p L), ((BId.loc 36).fld 8, ⟨gk, .own, 3, rowF F⟩), (.loc 14, ⟨6, .own, 3, rowF OS⟩)]
def stEO (O : List (List Nd)) (Q : PoF) (LS : List Fz) (s p L seen : Int) (F : List Fz) (m : Nat) (OS : List Fz) (i : Nat) : St :=
 ⟨[(7, .ptr (.loc 7) 1 4 0 0), (9, .ptr (.loc 36) 2 9 0 0), (14, .bs (.loc 14) 6 3 0 OS.length), (67, .sl (rowC O) .an), (68, .i .i64 O.length), (69, .i .i64 i)], hpO 5 Q LS s p L seen F m OS, 8⟩
def endEO (OS : List Fz) : Ex × St :=
 (.n, ⟨[(7, .ptr (.loc 7) 1 4 0 0), (14, .bs (.loc 14) 2 3 0 OS.length)], [(.loc 7, ⟨1, .str, 4, [[.i .i64 0, .i .i64 0, .i .i64 0, .i .i64 0]]⟩), (.loc 14, ⟨2, .own, 3, rowF OS⟩)], 4⟩)
theorem eo_round (O : List (List Nd)) (Q : PoF) (LS : List Fz) (s p L seen : Int) (F : List Fz) (m : Nat) (OS : List Fz) (i : Nat) (hi : i < O.length) (hf : O.length ≤ 10) (hLS : OS.length = i) (V : Fz) (gk : Nat) (s2 p2 seen2 : Int) (F2 : List Fz) (m2 : Nat) (hk : gk = 3 ∨ gk = 8)
  (c5 : callH T 473 [wP, .sl (rowN (O[i]'hi)) .an] (hpB 3 Q LS s p L seen F m) = some (.tup [efz V, .agg [.i .i64 0, .i .i64 0, .i .i64 0, .i .i64 0]], hpB gk Q LS s2 p2 L seen2 F2 m2)) :
  evX (orc T) T 0 l467_1 (stEO O Q LS s p L seen F m OS i) = some (.n, stEO O Q LS s2 p2 L seen2 F2 m2 (OS ++ [V]) (i + 1)) := by
 have hg : O[i]? = some (O[i]'hi) := List.getElem?_eq_getElem hi
 have hi' : (i : Int) < O.length := by omega
 have hws := wrapS hi (by omega)
 have hp := rowF_pushB OS V
 have hle : i + 1 ≤ 4294967296 := by omega
 unfold stEO hpO
 simp only [hpB] at c5
 obtain ⟨⟨q0, q1, q2⟩, qy, qp⟩ := Q
 obtain ⟨v0, v1, v2⟩ := V
 dsimp only at *
 generalize hx : O[i]'hi = x at *
 rw [List.length_append]
 simp only [hLS] at ⊢
 have ht : List.take i OS = OS := by rw [← hLS, List.take_length]
 rcases hk with rfl | rfl
 ·simp -implicitDefEqProofs [l467_1, hi, hi', hg, hx, hws, c5, bxG, hLS, ht, hp, hle]
 ·simp -implicitDefEqProofs [l467_1, hi, hi', hg, hx, hws, c5, bxG, hLS, ht, hp, hle]
theorem eo_stop (O : List (List Nd)) (Q : PoF) (LS : List Fz) (s p L seen : Int) (F : List Fz) (m : Nat) (OS : List Fz) (i : Nat) (hi : i < O.length) (hf : O.length ≤ 10) (V : Fz) (gk : Nat) (s2 p2 seen2 : Int) (F2 : List Fz) (m2 : Nat) (hk : gk = 3 ∨ gk = 8) (kind at_ : Int) (hne : kind ≠ 0)
  (c5 : callH T 473 [wP, .sl (rowN (O[i]'hi)) .an] (hpB 3 Q LS s p L seen F m) = some (.tup [efz V, .agg [.i .i64 kind, .i .i64 0, .i .i64 0, .i .i64 at_]], hpB gk Q LS s2 p2 L seen2 F2 m2)) :
  isEx (evX (orc T) T 0 l467_1 (stEO O Q LS s p L seen F m OS i)) = true ∧ finX 0 2 (.norm false [7, 14]) (evX (orc T) T 0 l467_1 (stEO O Q LS s p L seen F m OS i)) = some (endEf kind at_) := by
 have hg : O[i]? = some (O[i]'hi) := List.getElem?_eq_getElem hi
 have hi' : (i : Int) < O.length := by omega
 unfold stEO hpO endEf
 simp only [hpB] at c5
 obtain ⟨⟨q0, q1, q2⟩, qy, qp⟩ := Q
 obtain ⟨v0, v1, v2⟩ := V
 dsimp only at *
 generalize hx : O[i]'hi = x at *
 rcases hk with rfl | rfl
 ·constructor <;> simp -implicitDefEqProofs [l467_1, hi, hi', hg, hx, c5, bxG, hne]
 ·constructor <;> simp -implicitDefEqProofs [l467_1, hi, hi', hg, hx, c5, bxG, hne]
theorem eo_fin (O : List (List Nd)) (Q : PoF) (LS : List Fz) (s p L seen : Int) (F : List Fz) (m : Nat) (OS : List Fz) :
  isEx (evX (orc T) T 0 l467_1 (stEO O Q LS s p L seen F m OS O.length)) = true ∧ finX 0 2 (.norm false [7, 14]) (evX (orc T) T 0 l467_1 (stEO O Q LS s p L seen F m OS O.length)) = some (endEO OS) := by
 unfold stEO hpO endEO
 obtain ⟨⟨q0, q1, q2⟩, qy, qp⟩ := Q
 dsimp only at *
 constructor <;> simp -implicitDefEqProofs [l467_1, bxG]
theorem eval_Field_a (f : Fd) (x : PoF) (bits : Int) (hx : PoS x 1000) (h1 : f.lets.length ≤ 100000) (h2 : f.outs.length ≤ 100000) (hn : thinD 1000 50000 f) (hz : sizeD f ≤ 4294967295) (hs : ∀ x ∈ f.lets, x.name.length ≤ 100000) (hq : chkD f x.y.length x.p.length = none)
  (kind at_ : Int) (hlo : loopN T 0 0 (.norm false [3, 7, 9]) l467_0 (stEL f x.v.f [] 0 0 (limI bits) 0 [] 0 0) = some (endEf kind at_)) :
  callF T 467 [efd f, ept x, .i .i64 bits] = some (.tup [.sl [] .an, flt4 kind 0 0 at_]) := by
 have c := check_Check (T := T) f x.y.length x.p.length h1 h2 hn hz hs
 rw [hq] at c
 unfold fltC at c
 have c2 := eval_norm (T := T) x hx
 have c4 := gauge_new (T := T) bits
 unfold stEL endEf hpE bxFd bxG at hlo
 generalize limI bits = LI at *
 generalize x.v.f = Q at *
 obtain ⟨L, O⟩ := f
 obtain ⟨⟨t0, t1, t2⟩, y, p⟩ := x
 obtain ⟨⟨q0, q1, q2⟩, qy, qp⟩ := Q
 dsimp only at *
 clear hq hn hz hs hx
 rw [f467 _ rfl, b467]
 simp only [Int.natCast_zero, List.length_nil, rowF_nil] at hlo
 simp -implicitDefEqProofs [c, c2, c4, hlo, bxG]
theorem eval_Field_b (f : Fd) (x : PoF) (bits : Int) (hx : PoS x 1000) (h1 : f.lets.length ≤ 100000) (h2 : f.outs.length ≤ 100000) (hn : thinD 1000 50000 f) (hz : sizeD f ≤ 4294967295) (hs : ∀ x ∈ f.lets, x.name.length ≤ 100000) (hq : chkD f x.y.length x.p.length = none)
  (LS : List Fz) (s p : Int) (seen : Int) (F : List Fz) (m : Nat) (hlo : loopN T 0 0 (.norm false [3, 7, 9]) l467_0 (stEL f x.v.f [] 0 0 (limI bits) 0 [] 0 0) = some (endEL f x.v.f LS s p (limI bits) seen F m))
  (kind at_ : Int) (hl2 : loopN T 0 2 (.norm false [7, 14]) l467_1 (stEO f.outs x.v.f LS s p (limI bits) seen F m [] 0) = some (endEf kind at_)) :
  callF T 467 [efd f, ept x, .i .i64 bits] = some (.tup [.sl [] .an, flt4 kind 0 0 at_]) := by
 have c := check_Check (T := T) f x.y.length x.p.length h1 h2 hn hz hs
 rw [hq] at c
 unfold fltC at c
 have c2 := eval_norm (T := T) x hx
 have c4 := gauge_new (T := T) bits
 unfold stEL endEL hpE bxFd bxG at hlo
 unfold stEO endEf hpO bxG at hl2
 generalize limI bits = LI at *
 generalize x.v.f = Q at *
 obtain ⟨L, O⟩ := f
 obtain ⟨⟨t0, t1, t2⟩, y, p⟩ := x
 obtain ⟨⟨q0, q1, q2⟩, qy, qp⟩ := Q
 dsimp only at *
 clear hq hn hz hs hx
 rw [f467 _ rfl, b467]
 simp only [Int.natCast_zero, List.length_nil, rowF_nil] at hlo hl2
 simp -implicitDefEqProofs [c, c2, c4, hlo, hl2, bxG]
theorem eval_Field_c (f : Fd) (x : PoF) (bits : Int) (hx : PoS x 1000) (h1 : f.lets.length ≤ 100000) (h2 : f.outs.length ≤ 100000) (hn : thinD 1000 50000 f) (hz : sizeD f ≤ 4294967295) (hs : ∀ x ∈ f.lets, x.name.length ≤ 100000) (hq : chkD f x.y.length x.p.length = none)
  (LS : List Fz) (s p : Int) (seen : Int) (F : List Fz) (m : Nat) (hlo : loopN T 0 0 (.norm false [3, 7, 9]) l467_0 (stEL f x.v.f [] 0 0 (limI bits) 0 [] 0 0) = some (endEL f x.v.f LS s p (limI bits) seen F m))
  (OS : List Fz) (hl2 : loopN T 0 2 (.norm false [7, 14]) l467_1 (stEO f.outs x.v.f LS s p (limI bits) seen F m [] 0) = some (endEO OS)) :
  callF T 467 [efd f, ept x, .i .i64 bits] = some (.tup [.sl (rowF OS) .an, flt4 0 0 0 0]) := by
 have c := check_Check (T := T) f x.y.length x.p.length h1 h2 hn hz hs
 rw [hq] at c
 unfold fltC at c
 have c2 := eval_norm (T := T) x hx
 have c4 := gauge_new (T := T) bits
 unfold stEL endEL hpE bxFd bxG at hlo
 unfold stEO endEO hpO bxG at hl2
 generalize limI bits = LI at *
 generalize x.v.f = Q at *
 obtain ⟨L, O⟩ := f
 obtain ⟨⟨t0, t1, t2⟩, y, p⟩ := x
 obtain ⟨⟨q0, q1, q2⟩, qy, qp⟩ := Q
 dsimp only at *
 clear hq hn hz hs hx
 rw [f467 _ rfl, b467]
 simp only [Int.natCast_zero, List.length_nil, rowF_nil] at hlo hl2
 simp -implicitDefEqProofs [c, c2, c4, hlo, hl2, bxG]
end
def sumC (l : List (List Nd)) : Nat := (l.map List.length).sum
@[simp] theorem sumC_cons (c : List Nd) (l : List (List Nd)) : sumC (c :: l) = c.length + sumC l := rfl
theorem walk_sz {lim : Nat} (hlim : lim ≤ 4096) {P : Po} {ls : List Rat} {dim pars lets : Int} {c : List Nd} {n : Nat} (h : placeN dim pars lets c < 0) (h0 : (walkR lim P ls n [] c).2.1 = 0) : sz (walkR lim P ls n [] c).1 ≤ 1000 := by
 obtain ⟨t, ht, rfl, _⟩ := placeN_tree h
 rw [walk_tree _ _ _ _ ht] at h0 ⊢
 have := fit_sz hlim (evT_ok h0).2
 omega
section
variable {T : Tbl} [CLimb T] [CNat T] [CProd T] [CTwos T] [CQuot T] [CQuotD T] [CWhole T] [CCommon T] [CFrac T] [CFrac2 T] [CFrac3 T] [CFrac5 T] [CPow T] [CTape T] [CGauge T] [CEval T] [CEval2 T] [CTree T] [CText T] [CLenD T] [CTree2 T] [CJoin T] [CLex T] [CCheck T]
theorem el_loop (f : Fd) (P : Po) (lim : Nat) (hlim : lim ≤ 4096) (hP : PvS P 1000) (hF : FineD f P.y.length P.p.length) (hn : thinD 1000 50000 f) :
  ∃ r, (((evLt lim P 0 [] (f.lets.map (·.code))).2.2.1 = 0 ∧ ∃ s p F m, F.length ≤ 5000 ∧ (evLt lim P 0 [] (f.lets.map (·.code))).2.1.length = f.lets.length ∧ (∀ q ∈ (evLt lim P 0 [] (f.lets.map (·.code))).2.1, sz q ≤ 1000) ∧ (evLt lim P 0 [] (f.lets.map (·.code))).1 ≤ sumC (f.lets.map (·.code)) ∧
    r = endEL f P.f (fzs (evLt lim P 0 [] (f.lets.map (·.code))).2.1) s p lim ((evLt lim P 0 [] (f.lets.map (·.code))).1 : Nat) F m) ∨
   ((evLt lim P 0 [] (f.lets.map (·.code))).2.2.1 ≠ 0 ∧ r = endEf (evLt lim P 0 [] (f.lets.map (·.code))).2.2.1 (evLt lim P 0 [] (f.lets.map (·.code))).2.2.2)) ∧
   loopN T 0 0 (.norm false [3, 7, 9]) l467_0 (stEL f P.f [] 0 0 lim 0 [] 0 0) = some r := by
 refine loopN_ex (fun q : Nat × List Rat × Nat × (Int × Int) × List Fz × Nat => stEL f P.f (fzs q.2.1) q.2.2.2.1.1 q.2.2.2.1.2 lim (q.2.2.1 : Nat) q.2.2.2.2.1 q.2.2.2.2.2 q.1)
  (fun q => q.1 ≤ f.lets.length ∧ q.2.1.length = q.1 ∧ (∀ u ∈ q.2.1, sz u ≤ 1000) ∧ q.2.2.2.2.1.length ≤ 5000 ∧ q.2.2.1 + sumC ((f.lets.drop q.1).map (·.code)) ≤ sumC (f.lets.map (·.code)) ∧ evLt lim P q.2.2.1 q.2.1 ((f.lets.drop q.1).map (·.code)) = evLt lim P 0 [] (f.lets.map (·.code)))
  (fun q => f.lets.length - q.1) _ ?_ (0, [], 0, (0, 0), [], 0) ⟨Nat.zero_le _, rfl, by simp, by simp, by simp, rfl⟩
 rintro ⟨i, ls, n0, ⟨s, p⟩, F, m⟩ ⟨hi, hls, hsz, hFl, hsum, hev⟩
 dsimp only at *
 obtain ⟨w1, w2, w3, w4, w5, w6, w7⟩ := hF.wh
 have hS : sumC (f.lets.map (·.code)) ≤ 300 := by
  have : sizeD f = sumC (f.lets.map (·.code)) + sumC f.outs := by unfold sizeD codesD sumC; rw [List.map_append, List.sum_append]
  omega
 by_cases hlt : i < f.lets.length
 ·have hd : f.lets.drop i = f.lets[i]'hlt :: f.lets.drop (i + 1) := List.drop_eq_getElem_cons hlt
  have hpl := hF.lets i _ (List.getElem?_eq_getElem hlt)
  have hth := hn (f.lets[i]'hlt).code (List.mem_append.2 (.inl (List.mem_map.2 ⟨_, List.getElem_mem hlt, rfl⟩)))
  rw [hd, List.map_cons, sumC_cons] at hsum
  rw [hd, List.map_cons, evLt] at hev
  obtain ⟨t, ht, ee, hok⟩ := placeN_tree hpl
  obtain ⟨gk, s2, p2, seen2, F2, m2, hk, h5a, c5⟩ := eval_code_B (T := T) P lim hlim ls hP hsz (f.lets[i]'hlt).code (by omega) (by rw [hls]; exact hok) hth.2 (by rw [← ee]; exact wrongN_flat ht) n0 (by omega) s p F m hFl
  by_cases h0 : (walkR lim P ls n0 [] (f.lets[i]'hlt).code).2.1 = 0
  ·left
   have hat := walkR_at lim P ls _ _ _ h0
   have hsv := walk_sz hlim hpl h0
   rw [if_neg (by simpa using h0)] at hev
   obtain ⟨h5b, h5c⟩ := h5a h0
   rw [h0, hat] at c5
   have := el_round (T := T) f P.f (fzs ls) s p lim (n0 : Nat) F m i hlt w6 (by rw [fzs_length]; exact hls) _ gk s2 p2 seen2 F2 m2 hk c5
   refine ⟨(i + 1, ls ++ [(walkR lim P ls n0 [] (f.lets[i]'hlt).code).1], n0 + (f.lets[i]'hlt).code.length, (s2, p2), F2, m2), ⟨by dsimp only; omega, by simp [hls], ?_, h5c, by dsimp only; omega, hev⟩, by dsimp only; omega, ?_⟩
   ·intro u hu
    rcases List.mem_append.1 hu with hu | hu
    ·exact hsz u hu
    ·rw [List.mem_singleton.1 hu]; exact hsv
   ·rw [this, h5b]
    simp [fzs]
  ·right
   rw [if_pos h0] at hev
   rw [← hev]
   have hk0 : ((walkR lim P ls n0 [] (f.lets[i]'hlt).code).2.1 : Int) ≠ 0 := by omega
   exact ⟨_, .inr ⟨h0, rfl⟩, el_stop (T := T) f P.f (fzs ls) s p lim (n0 : Nat) F m i hlt w6 _ gk s2 p2 seen2 F2 m2 hk _ _ hk0 c5⟩
 ·right
  have hil : i = f.lets.length := by omega
  subst hil
  rw [List.drop_length, List.map_nil, evLt] at hev
  rw [← hev]
  rw [List.drop_length, List.map_nil] at hsum
  exact ⟨_, .inl ⟨rfl, s, p, F, m, hFl, hls, hsz, by have : sumC [] = 0 := rfl; dsimp only; omega, rfl⟩, el_fin (T := T) f P.f (fzs ls) s p lim (n0 : Nat) F m⟩
theorem eo_loop (f : Fd) (P : Po) (lim : Nat) (hlim : lim ≤ 4096) (hP : PvS P 1000) (hF : FineD f P.y.length P.p.length) (hn : thinD 1000 50000 f) (ls : List Rat) (hll : ls.length = f.lets.length) (hls : ∀ q ∈ ls, sz q ≤ 1000) (n0 : Nat) (hn0 : n0 ≤ 300) (s p : Int) (F : List Fz) (m : Nat) (hFl : F.length ≤ 5000) :
  ∃ r, (((evOu lim P ls n0 [] f.outs).2.1 = 0 ∧ r = endEO (fzs (evOu lim P ls n0 [] f.outs).1)) ∨
   ((evOu lim P ls n0 [] f.outs).2.1 ≠ 0 ∧ (evOu lim P ls n0 [] f.outs).1 = [] ∧ r = endEf (evOu lim P ls n0 [] f.outs).2.1 (evOu lim P ls n0 [] f.outs).2.2)) ∧
   loopN T 0 2 (.norm false [7, 14]) l467_1 (stEO f.outs P.f (fzs ls) s p lim (n0 : Nat) F m [] 0) = some r := by
 refine loopN_ex (fun q : Nat × List Rat × Nat × (Int × Int) × List Fz × Nat => stEO f.outs P.f (fzs ls) q.2.2.2.1.1 q.2.2.2.1.2 lim (q.2.2.1 : Nat) q.2.2.2.2.1 q.2.2.2.2.2 (fzs q.2.1) q.1)
  (fun q => q.1 ≤ f.outs.length ∧ q.2.1.length = q.1 ∧ q.2.2.2.2.1.length ≤ 5000 ∧ q.2.2.1 + sumC (f.outs.drop q.1) ≤ n0 + sumC f.outs ∧ evOu lim P ls q.2.2.1 q.2.1 (f.outs.drop q.1) = evOu lim P ls n0 [] f.outs)
  (fun q => f.outs.length - q.1) _ ?_ (0, [], n0, (s, p), F, m) ⟨Nat.zero_le _, rfl, hFl, by simp, rfl⟩
 rintro ⟨i, os, n1, ⟨s, p⟩, F, m⟩ ⟨hi, hos, hFl, hsum, hev⟩
 dsimp only at *
 obtain ⟨w1, w2, w3, w4, w5, w6, w7⟩ := hF.wh
 have hS : sumC f.outs ≤ 300 := by
  have : sizeD f = sumC (f.lets.map (·.code)) + sumC f.outs := by unfold sizeD codesD sumC; rw [List.map_append, List.sum_append]
  omega
 by_cases hlt : i < f.outs.length
 ·have hd : f.outs.drop i = f.outs[i]'hlt :: f.outs.drop (i + 1) := List.drop_eq_getElem_cons hlt
  have hpl := hF.outs _ (List.getElem_mem hlt)
  have hth := hn (f.outs[i]'hlt) (List.mem_append.2 (.inr (List.getElem_mem hlt)))
  rw [hd, sumC_cons] at hsum
  rw [hd, evOu] at hev
  obtain ⟨t, ht, ee, hok⟩ := placeN_tree hpl
  obtain ⟨gk, s2, p2, seen2, F2, m2, hk, h5a, c5⟩ := eval_code_B (T := T) P lim hlim ls hP hls (f.outs[i]'hlt) (by omega) (by rw [hll]; exact hok) hth.2 (by rw [← ee]; exact wrongN_flat ht) n1 (by omega) s p F m hFl
  by_cases h0 : (walkR lim P ls n1 [] (f.outs[i]'hlt)).2.1 = 0
  ·left
   have hat := walkR_at lim P ls _ _ _ h0
   rw [if_neg (by simpa using h0)] at hev
   obtain ⟨h5b, h5c⟩ := h5a h0
   rw [h0, hat] at c5
   have := eo_round (T := T) f.outs P.f (fzs ls) s p lim (n1 : Nat) F m (fzs os) i hlt (by omega) (by rw [fzs_length]; exact hos) _ gk s2 p2 seen2 F2 m2 hk c5
   refine ⟨(i + 1, os ++ [(walkR lim P ls n1 [] (f.outs[i]'hlt)).1], n1 + (f.outs[i]'hlt).length, (s2, p2), F2, m2), ⟨by dsimp only; omega, by simp [hos], h5c, by dsimp only; omega, hev⟩, by dsimp only; omega, ?_⟩
   rw [this, h5b]
   simp [fzs]
  ·right
   rw [if_pos h0] at hev
   rw [← hev]
   have hk0 : ((walkR lim P ls n1 [] (f.outs[i]'hlt)).2.1 : Int) ≠ 0 := by omega
   exact ⟨_, .inr ⟨h0, rfl, rfl⟩, eo_stop (T := T) f.outs P.f (fzs ls) s p lim (n1 : Nat) F m (fzs os) i hlt (by omega) _ gk s2 p2 seen2 F2 m2 hk _ _ hk0 c5⟩
 ·right
  have hil : i = f.outs.length := by omega
  subst hil
  rw [List.drop_length, evOu] at hev
  rw [← hev]
  exact ⟨_, .inl ⟨rfl, rfl⟩, eo_fin (T := T) f.outs P.f (fzs ls) s p lim (n1 : Nat) F m (fzs os)⟩
theorem eval_Field_ok (f : Fd) (x : PoF) (bits : Int) (hx : PoS x 1000) (h1 : f.lets.length ≤ 100000) (h2 : f.outs.length ≤ 100000) (hn : thinD 1000 50000 f) (hz : sizeD f ≤ 4294967295) (hs : ∀ x ∈ f.lets, x.name.length ≤ 100000) (hq : chkD f x.y.length x.p.length = none) :
  callF T 467 [efd f, ept x, .i .i64 bits] = some (.tup [.sl (rowF (fzs (evD (limI bits).toNat x.v f).1)) .an, flt4 (evD (limI bits).toNat x.v f).2.1 0 0 (evD (limI bits).toNat x.v f).2.2]) := by
 obtain ⟨hl1, hl2⟩ := limI_toNat bits
 have hyl : x.v.y.length = x.y.length := by simp [PoF.v]
 have hpl : x.v.p.length = x.p.length := by simp [PoF.v]
 have hF := chkD_none hq
 rw [← hyl, ← hpl] at hF
 have hfz : fzs [] = [] := rfl
 obtain ⟨r, hr, hlo⟩ := el_loop (T := T) f x.v (limI bits).toNat hl2 (pos_pvs hx) hF hn
 rw [hl1] at hlo hr
 unfold evD
 rcases hr with ⟨h0, s, p, F, m, hFl, hll, hls, hn0, rfl⟩ | ⟨h0, rfl⟩
 ·rw [if_neg (by simpa using h0)]
  have hS : sumC (f.lets.map (·.code)) ≤ 300 := by
   have : sizeD f = sumC (f.lets.map (·.code)) + sumC f.outs := by unfold sizeD codesD sumC; rw [List.map_append, List.sum_append]
   have := hF.wh.2.2.2.2.2.2
   omega
  obtain ⟨r2, hr2, hlo2⟩ := eo_loop (T := T) f x.v (limI bits).toNat hl2 (pos_pvs hx) hF hn _ hll hls _ (Nat.le_trans hn0 hS) s p F m hFl
  rw [hl1] at hlo2
  rcases hr2 with ⟨g0, rfl⟩ | ⟨g0, g1, rfl⟩
  ·have := eval_Field_c (T := T) f x bits hx h1 h2 hn hz hs hq _ s p _ F m hlo _ hlo2
   rw [this, g0]
   have hat : (evOu (limI bits).toNat x.v (evLt (limI bits).toNat x.v 0 [] (f.lets.map (·.code))).2.1 (evLt (limI bits).toNat x.v 0 [] (f.lets.map (·.code))).1 [] f.outs).2.2 = 0 := by
    clear hlo2 hlo this
    generalize (evLt (limI bits).toNat x.v 0 [] (f.lets.map (·.code))).2.1 = ls at *
    generalize (evLt (limI bits).toNat x.v 0 [] (f.lets.map (·.code))).1 = n at *
    generalize f.outs = O at *
    have : ∀ (O : List (List Nd)) (n : Nat) (os : List Rat), (evOu (limI bits).toNat x.v ls n os O).2.1 = 0 → (evOu (limI bits).toNat x.v ls n os O).2.2 = 0 := by
     intro O
     induction O with
     | nil => intro n os h; rfl
     | cons c r ih =>
      intro n os h
      unfold evOu at h ⊢
      split
      ·next hh => rw [if_pos hh] at h; exact absurd h hh
      ·next hh => rw [if_neg hh] at h; exact ih _ _ h
    exact this _ _ _ g0
   rw [hat]
   rfl
  ·have := eval_Field_b (T := T) f x bits hx h1 h2 hn hz hs hq _ s p _ F m hlo _ _ hlo2
   rw [this, g1]
   rfl
 ·rw [if_pos h0]
  have := eval_Field_a (T := T) f x bits hx h1 h2 hn hz hs hq _ _ hlo
  rw [this, hfz]
  rfl
end
def wkF : Fd := ⟨[], [[⟨1, 0, [1]⟩, ⟨1, 0, [1]⟩, ⟨2, 0, []⟩, ⟨8, 0, []⟩, ⟨10, 0, []⟩]]⟩
def wkX : PoF := ⟨(false, [], []), [fz 0], []⟩
def wkY : PoF := ⟨fz 1, [fz 0], []⟩
def wkZ : PoF := ⟨(false, [], []), [], []⟩
section
variable {T : Tbl} [CLimb T] [CNat T] [CProd T] [CTwos T] [CQuot T] [CQuotD T] [CWhole T] [CCommon T] [CFrac T] [CFrac2 T] [CFrac3 T] [CFrac5 T] [CPow T] [CTape T] [CGauge T] [CEval T] [CEval2 T] [CTree T] [CText T] [CLenD T] [CTree2 T] [CJoin T] [CLex T] [CCheck T] [CRow T] [CLaw21 T]
theorem law21_works : callF T 463 [] = some (.b true) := by
 have hn : thinD 1000 50000 wkF := by
  intro c hc
  have : c = [⟨1, 0, [1]⟩, ⟨1, 0, [1]⟩, ⟨2, 0, []⟩, ⟨8, 0, []⟩, ⟨10, 0, []⟩] := by simpa [codesD, wkF] using hc
  subst this
  refine ⟨by decide, fun x hx => ?_⟩
  simp only [List.mem_cons, List.not_mem_nil, or_false] at hx
  rcases hx with rfl | rfl | rfl | rfl | rfl <;> decide
 have f0 : fsz (fz 0) ≤ 1000 := by decide +kernel
 have f1 : fsz (fz 1) ≤ 1000 := by decide +kernel
 have hy : ∀ u ∈ [fz 0], fsz u ≤ 1000 := fun u hu => by rw [List.mem_singleton.1 hu]; exact f0
 have hX : PoS wkX 1000 := ⟨by decide, hy, by simp [wkX], by decide, by decide⟩
 have hY : PoS wkY 1000 := ⟨f1, hy, by simp [wkY], by decide, by decide⟩
 have hZ : PoS wkZ 1000 := ⟨by decide, by simp [wkZ], by simp [wkZ], by decide, by decide⟩
 have cX : chkD wkF wkX.y.length wkX.p.length = none := by decide +kernel
 have cY : chkD wkF wkY.y.length wkY.p.length = none := by decide +kernel
 have a1 := eval_Field_ok (T := T) wkF wkX 100 hX (by decide) (by decide) hn (by decide) (by simp [wkF]) cX
 have a2 := eval_Field_ok (T := T) wkF wkY 100 hY (by decide) (by decide) hn (by decide) (by simp [wkF]) cY
 have e1 : evD (limI 100).toNat wkX.v wkF = ([1], 0, 0) := by decide +kernel
 have e2 : evD (limI 100).toNat wkY.v wkF = ([], 3, 4) := by decide +kernel
 have a3 := eval_Code_ok (T := T) [⟨1, 0, [8]⟩] wkZ [] 3 hZ (by decide) (by simp) (by decide) (fun x hx => by rw [List.mem_singleton.1 hx]; decide) (by decide +kernel)
 have e3 : walkR (limI 3).toNat wkZ.v (([] : List Fz).map fv) 0 [] [⟨1, 0, [8]⟩] = (0, 6, 0) := by decide +kernel
 rw [e1] at a1
 rw [e2] at a2
 rw [e3] at a3
 have z := row_zero (T := T) 1 (by decide)
 have o := frac_of1 (T := T)
 have h1 : ∀ u ∈ [fz 1], fsz u ≤ 1000 := fun u hu => by rw [List.mem_singleton.1 hu]; exact f1
 have sm := row_same (T := T) [fz 1] [fz 1] (by decide) h1 h1
 rw [decide_eq_true rfl] at sm
 have efs : fzs [1] = [fz 1] := rfl
 rw [efs] at a1
 have efs0 : fzs [] = [] := rfl
 rw [efs0] at a2
 have er : List.replicate 1 (fz 0) = [fz 0] := rfl
 rw [er] at z
 clear e1 e2 e3 efs efs0 er hX hY hZ hn cX cY hy h1 f0 f1
 unfold wkF wkX at a1
 unfold wkF wkY at a2
 unfold wkZ at a3
 generalize fz 1 = W at *
 generalize fz 0 = Z at *
 obtain ⟨z0, z1, z2⟩ := Z
 obtain ⟨w0, w1, w2⟩ := W
 have u1 : u32s [1] = [[u32 1]] := rfl
 have u8 : u32s [8] = [[u32 8]] := rfl
 simp only [rowN, rowC, rowLt, rowF, celN, celF, List.map_cons, List.map_nil, efd, ept, efz, u1, u8, u32s_nil] at a1 a2 a3 z o sm
 simp only [Int.natCast_one, Int.natCast_zero, Int.cast_ofNat_Int] at a1 a2 a3 z o sm
 rw [f463 _ rfl, b463]
 simp -implicitDefEqProofs [a1, a2, a3, z, o, sm]
end
section
variable {T : Tbl} [CLaw17 T]
theorem law17_to (l : List Nd) (hl : l.length ≤ 4294967295) : callF T 13 [.sl (rowN l) .an] = some (.sl (rowN l) .an) := by
 have hlo : loopN T 0 0 (.norm false [3]) l13_0 ⟨[(0, .sl (rowN l) .an), (3, .bs (.loc 3) 1 3 0 0), (4, .i .i64 0)], [(.loc 3, ⟨1, .own, 3, []⟩)], 3⟩ =
   some (.n, ⟨[(3, .bs (.loc 3) 1 3 0 l.length)], [(.loc 3, ⟨1, .own, 3, rowN l⟩)], 3⟩) := by
  have := range_loop (T := T) (k := 0) (id := 0) (g2 := .norm false [3]) (c := l13_0) (fun i => ⟨[(0, .sl (rowN l) .an), (3, .bs (.loc 3) 1 3 0 i), (4, .i .i64 (i : Int))], [(.loc 3, ⟨1, .own, 3, rowN (l.take i)⟩)], 3⟩) l.length
   (some (.n, ⟨[(3, .bs (.loc 3) 1 3 0 l.length)], [(.loc 3, ⟨1, .own, 3, rowN l⟩)], 3⟩)) (fun i hi => ?_) ?_
  ·simpa using this
  ·have hg : l[i]? = some (l[i]'hi) := List.getElem?_eq_getElem hi
   have hi' : (i : Int) < l.length := by omega
   have hws := wrapS hi (by omega)
   have hs : l.take (i + 1) = l.take i ++ [l[i]'hi] := by rw [List.take_succ_eq_append_getElem hi]
   have hp := rowN_push (n := i) (show (l.take i).length = i by rw [List.length_take]; omega) (l[i]'hi)
   have hle : i ≤ (l.take i).length := by rw [List.length_take]; omega
   have h32 : i + 1 ≤ 4294967296 := by omega
   rw [hs]
   generalize hx : l[i]'hi = x at *
   generalize l.take i = m at *
   obtain ⟨op, j, n⟩ := x
   clear hs
   simp -implicitDefEqProofs [l13_0, hi, hi', hg, hx, hws, hp, hle, h32]
  ·constructor <;> simp -implicitDefEqProofs [l13_0]
 rw [f13 _ rfl, b13]
 simp -implicitDefEqProofs [hlo]
end
def wantL : Int → List Nd → Int
 | w, [] => w
 | w, x :: r => wantL (w + arN x.op - 1) r
theorem want_app (l m : List Nd) (w : Int) : wantL w (l ++ m) = wantL (wantL w l) m := by
 induction l generalizing w with
 | nil => rfl
 | cons x r ih => exact ih _
theorem want_flat : ∀ (t : Tre), t.ok → ∀ w : Int, 1 ≤ w → wantL w t.flat.reverse = w - 1 ∧ ∀ k, k < t.flat.length → w ≤ wantL w (t.flat.reverse.take k)
 | .leaf x, h, w, hw => by
  have e : arN x.op = 0 := h
  refine ⟨by show w + arN x.op - 1 = w - 1; omega, fun k hk => ?_⟩
  have : k = 0 := by simp [Tre.flat] at hk; omega
  subst this
  exact Int.le_refl _
 | .un x a, h, w, hw => by
  have e : arN x.op = 1 := h.1
  have hr : (Tre.un x a).flat.reverse = x :: a.flat.reverse := by simp [Tre.flat]
  have ih := want_flat a h.2 w hw
  rw [hr]
  refine ⟨?_, fun k hk => ?_⟩
  ·show wantL (w + arN x.op - 1) a.flat.reverse = _
   rw [show w + arN x.op - 1 = w by omega]
   exact ih.1
  ·cases k with
   | zero => exact Int.le_refl _
   | succ k =>
    rw [List.take_succ_cons]
    show w ≤ wantL (w + arN x.op - 1) _
    rw [show w + arN x.op - 1 = w by omega]
    exact ih.2 k (by simp [Tre.flat] at hk; omega)
 | .bin x a b, h, w, hw => by
  have e : arN x.op = 2 := h.1
  have hr : (Tre.bin x a b).flat.reverse = x :: (b.flat.reverse ++ a.flat.reverse) := by simp [Tre.flat]
  have ihb := want_flat b h.2.2 (w + 1) (by omega)
  have iha := want_flat a h.2.1 w hw
  rw [hr]
  refine ⟨?_, fun k hk => ?_⟩
  ·show wantL (w + arN x.op - 1) (b.flat.reverse ++ a.flat.reverse) = _
   rw [show w + arN x.op - 1 = w + 1 by omega, want_app, ihb.1, show w + 1 - 1 = w by omega]
   exact iha.1
  ·cases k with
   | zero => exact Int.le_refl _
   | succ k =>
    rw [List.take_succ_cons]
    show w ≤ wantL (w + arN x.op - 1) _
    rw [show w + arN x.op - 1 = w + 1 by omega]
    have hlen : k < a.flat.length + b.flat.length := by simp [Tre.flat] at hk; omega
    by_cases hkb : k < b.flat.length
    ·rw [List.take_append_of_le_length (by simp; omega)]
     have := ihb.2 k hkb
     omega
    ·rw [List.take_append, List.take_of_length_le (by simp; omega), want_app, ihb.1, show w + 1 - 1 = w by omega]
     exact iha.2 _ (by simp; omega)
section
variable {T : Tbl} [CTree T] [CTree2 T]
theorem tree_begin (t : Tre) (ht : t.ok) (p q code : List Nd) (hc : p ++ t.flat ++ q = code) (hl : code.length ≤ 100000) :
  callF T 482 [.sl (rowN code) .an, .i .i64 ((p.length + t.flat.length : Nat) : Int)] = some (.i .i64 (p.length : Nat)) := by
 obtain ⟨hw1, hw2⟩ := want_flat t ht 1 (by decide)
 have hlc : code.length = p.length + t.flat.length + q.length := by rw [← hc, List.length_append, List.length_append]
 have hlo : loopN T 0 0 (.norm false [1]) l482_0 ⟨[(0, .sl (rowN code) .an), (1, .i .i64 ((p.length + t.flat.length - 0 : Nat) : Int)), (5, .i .i64 (wantL 1 (t.flat.reverse.take 0)))], [], 2⟩ =
   some (.n, ⟨[(1, .i .i64 (p.length : Nat))], [], 2⟩) := by
  refine range_loop (fun k => ⟨[(0, .sl (rowN code) .an), (1, .i .i64 ((p.length + t.flat.length - k : Nat) : Int)), (5, .i .i64 (wantL 1 (t.flat.reverse.take k)))], [], 2⟩) t.flat.length _ (fun k hk => ?_) ?_
  ·have hi : p.length + t.flat.length - (k + 1) < code.length := by omega
   have hge : code[p.length + t.flat.length - (k + 1)]'hi = t.flat.reverse[k]'(by simpa using hk) := by
    have h1 : p.length ≤ p.length + t.flat.length - (k + 1) := by omega
    have e : code[p.length + t.flat.length - (k + 1)]? = some (t.flat.reverse[k]'(by simpa using hk)) := by
     rw [← hc, List.append_assoc, List.getElem?_append_right h1, List.getElem?_append_left (by omega), List.getElem_reverse]
     rw [show p.length + t.flat.length - (k + 1) - p.length = t.flat.length - 1 - k by omega]
     exact List.getElem?_eq_getElem _
    exact (List.getElem?_eq_some_iff.1 e).2
   have hg : code[p.length + t.flat.length - (k + 1)]? = some (t.flat.reverse[k]'(by simpa using hk)) := by rw [List.getElem?_eq_getElem hi, hge]
   have hs : wantL 1 (t.flat.reverse.take (k + 1)) = wantL 1 (t.flat.reverse.take k) + arN (t.flat.reverse[k]'(by simpa using hk)).op - 1 := by
    rw [List.take_succ_eq_append_getElem (by simpa using hk), want_app]; rfl
   have ca := tree_arity (T := T) (t.flat.reverse[k]'(by simpa using hk)).op
   have hpos := hw2 k hk
   have hpos' : 0 < wantL 1 (t.flat.reverse.take k) := by omega
   have hbig : wantL 1 (t.flat.reverse.take k) ≤ k + 1 := by
    have : ∀ (l : List Nd) (w : Int), wantL w l ≤ w + l.length := by
     intro l
     induction l with
     | nil => intro w; simp [wantL]
     | cons x r ih =>
      intro w
      have := ih (w + arN x.op - 1)
      have h2 : arN x.op ≤ 2 := by rcases arN_cases x.op with h | h | h | h <;> omega
      show wantL (w + arN x.op - 1) r ≤ _
      rw [List.length_cons]
      omega
    have := this (t.flat.reverse.take k) 1
    rw [List.length_take] at this
    omega
   rw [hs]
   have hq : p.length + t.flat.length - k = (p.length + t.flat.length - (k + 1)) + 1 := by omega
   rw [hq]
   have har : -1 ≤ arN (t.flat.reverse[k]'(by simpa using hk)).op ∧ arN (t.flat.reverse[k]'(by simpa using hk)).op ≤ 2 := by
    rcases arN_cases (t.flat.reverse[k]'(by simpa using hk)).op with h | h | h | h <;> omega
   generalize t.flat.reverse[k]'(by simpa using hk) = x at *
   generalize p.length + t.flat.length - (k + 1) = j at *
   generalize wantL 1 (t.flat.reverse.take k) = w at *
   clear hs hw1 hw2 hq
   obtain ⟨op, ii, n⟩ := x
   dsimp only at *
   generalize arN op = a at *
   have hj : (j : Int) < code.length := by omega
   have hwj : IntKind.wrap .i64 (j : Int) = j := wrap_i64 _ (by omega)
   have hwa : IntKind.wrap .i64 (a - 1) = a - 1 := wrap_i64 _ (by omega)
   have hww : IntKind.wrap .i64 (w + (a - 1)) = w + a - 1 := by rw [wrap_i64 _ (by omega)]; omega
   have h0 : (0 : Int) ≤ j := by omega
   simp -implicitDefEqProofs [l482_0, hpos', hi, hj, hg, hge, ca, hwj, hwa, hww, h0]
  ·rw [show p.length + t.flat.length - t.flat.length = p.length by omega, List.take_of_length_le (by simp), hw1]
   constructor <;> simp -implicitDefEqProofs [l482_0]
 simp only [Nat.sub_zero, List.take_zero] at hlo
 have e1 : wantL 1 [] = 1 := rfl
 rw [e1] at hlo
 generalize p.length + t.flat.length = N at *
 rw [f482 _ rfl, b482]
 simp -implicitDefEqProofs [hlo]
end
def Tre.prts : Tre → List (List Nd)
 | .leaf _ => []
 | .un _ a => [a.flat]
 | .bin _ a b => [a.flat, b.flat]
section
variable {T : Tbl} [CTree T] [CTree2 T]
theorem tree_parts_wrong (l : List Nd) (hl : l.length ≤ 50000) (hw : wrongN l ≠ -1) : callF T 472 [.sl (rowN l) .an] = some (.tup [.sl [] .an, .b false]) := by
 have c := tree_right (T := T) l (by omega)
 rw [decide_eq_false hw] at c
 rw [f472 _ rfl, b472]
 simp -implicitDefEqProofs [c]
theorem tree_parts_leaf (x : Nd) (h : (Tre.leaf x).ok) : callF T 472 [.sl (rowN (Tre.leaf x).flat) .an] = some (.tup [.sl (rowC (Tre.leaf x).prts) .an, .b true]) := by
 have c := tree_right (T := T) (Tre.leaf x).flat (by simp [Tre.flat])
 rw [decide_eq_true (wrongN_flat h)] at c
 have e : arN x.op = 0 := h
 have ca := tree_arity (T := T) x.op
 rw [e] at ca
 have ef : (Tre.leaf x).flat = [x] := rfl
 have ep : (Tre.leaf x).prts = [] := rfl
 rw [ef] at c ⊢
 rw [ep]
 have hlo : loopN T 0 0 (.norm false [5]) l472_0 ⟨[(0, .sl (rowN [x]) .an), (4, .i .i64 0), (5, .bs (.loc 20) 1 1 0 0), (6, .i .i64 (-1))], [(.loc 20, ⟨1, .own, 1, []⟩)], 3⟩ =
   some (.n, ⟨[(5, .bs (.loc 20) 1 1 0 0)], [(.loc 20, ⟨1, .own, 1, []⟩)], 3⟩) := by
  refine range_loop (fun _ => ⟨[(0, .sl (rowN [x]) .an), (4, .i .i64 0), (5, .bs (.loc 20) 1 1 0 0), (6, .i .i64 (-1))], [(.loc 20, ⟨1, .own, 1, []⟩)], 3⟩) 0 _ (fun i hi => absurd hi (Nat.not_lt_zero i)) ?_
  constructor <;> simp -implicitDefEqProofs [l472_0]
 have hr : rowN [x] = [celN x] := rfl
 rw [hr] at c hlo ⊢
 obtain ⟨op, i, n⟩ := x
 dsimp only at *
 rw [f472 _ rfl, b472]
 simp -implicitDefEqProofs [c, ca, hlo]
def stPt (code : List Nd) (e : Nat) (R : List (List Nd)) (i : Int) : St := ⟨[(0, .sl (rowN code) .an), (4, .i .i64 e), (5, .bs (.loc 20) 1 1 0 R.length), (6, .i .i64 i)], [(.loc 20, ⟨1, .own, 1, rowC R⟩)], 3⟩
theorem rowC_set (R : List (List Nd)) (i : Nat) (c : List Nd) : (rowC R).set i [.sl (rowN c) .an] = rowC (R.set i c) := by simp [rowC, List.map_set]
theorem pt_round (code : List Nd) (e from_ : Nat) (R : List (List Nd)) (i : Nat) (part : List Nd) (hi : i < R.length) (hR : R.length ≤ 10) (hl : code.length ≤ 50000) (hfe : from_ ≤ e) (he : e ≤ code.length) (hp : (code.take e).drop from_ = part) (hn : thin 1000 code)
  (c1 : callF T 482 [.sl (rowN code) .an, .i .i64 (e : Nat)] = some (.i .i64 (from_ : Nat))) :
  evX (orc T) T 0 l472_0 (stPt code e R i) = some (.n, stPt code from_ (R.set i part) ((i : Int) - 1)) := by
 have hpl : part.length ≤ 4294967295 := by rw [← hp, List.length_drop, List.length_take]; omega
 have hpn : thin 1000 part := fun x hx => by rw [← hp] at hx; exact hn x (List.mem_of_mem_take (List.mem_of_mem_drop hx))
 have c2 := tree_copied (T := T) part hpl hpn
 have hi' : (i : Int) < R.length := by omega
 have hw : IntKind.wrap .i64 ((i : Int) - 1) = (i : Int) - 1 := wrap_i64 _ (by omega)
 have hfe' : (from_ : Int) ≤ e := by omega
 have he' : (e : Int) ≤ code.length := by omega
 have h0 : (0 : Int) ≤ i := by omega
 have hset := rowC_set R i part
 have hsl : List.take (e - from_) (List.drop from_ code) = part := by rw [← hp, List.drop_take]
 unfold stPt
 rw [List.length_set]
 clear hpn hn
 simp -implicitDefEqProofs [l472_0, hi, hi', hw, hfe, hfe', he, he', h0, c1, hp, hsl, c2, hset]
theorem pt_fin (code : List Nd) (e : Nat) (R : List (List Nd)) :
  isEx (evX (orc T) T 0 l472_0 (stPt code e R (-1))) = true ∧ finX 0 0 (.norm false [5]) (evX (orc T) T 0 l472_0 (stPt code e R (-1))) = some (.n, ⟨[(5, .bs (.loc 20) 1 1 0 R.length)], [(.loc 20, ⟨1, .own, 1, rowC R⟩)], 3⟩) := by
 unfold stPt
 constructor <;> simp -implicitDefEqProofs [l472_0]
theorem tree_parts_end (code : List Nd) (n : Nat) (x : Nd) (R : List (List Nd)) (hl : code.length = n + 1) (hn : n ≤ 40000) (hx : code[n]? = some x) (hw : wrongN code = -1) (hR : arN x.op = R.length) (hR2 : R.length = 1 ∨ R.length = 2)
  (hlo : loopN T 0 0 (.norm false [5]) l472_0 (stPt code n (List.replicate R.length []) ((R.length : Int) - 1)) = some (.n, ⟨[(5, .bs (.loc 20) 1 1 0 R.length)], [(.loc 20, ⟨1, .own, 1, rowC R⟩)], 3⟩)) :
  callF T 472 [.sl (rowN code) .an] = some (.tup [.sl (rowC R) .an, .b true]) := by
 have c := tree_right (T := T) code (by omega)
 rw [decide_eq_true hw] at c
 have ca := tree_arity (T := T) x.op
 rw [hR] at ca
 obtain ⟨hlt, hge⟩ := List.getElem?_eq_some_iff.1 hx
 have hwn : IntKind.wrap .i64 (n : Int) = n := wrap_i64 _ (by omega)
 have hn1 : (n : Int) < (n : Int) + 1 := by omega
 have ht : List.take R.length R = R := List.take_length
 unfold stPt at hlo
 rw [List.length_replicate] at hlo
 clear hw
 obtain ⟨op, i, m⟩ := x
 dsimp only at *
 rw [f472 _ rfl, b472]
 rcases hR2 with h1 | h1
 ·rw [h1] at hlo ca ht
  have hrep : rowC (List.replicate 1 []) = [[AV.sl [] .an]] := rfl
  rw [hrep] at hlo
  simp only [Int.natCast_one, Int.sub_self] at hlo ca
  simp -implicitDefEqProofs [c, ca, hl, hx, hge, hlt, hwn, hn1, hlo, ht, h1]
 ·rw [h1] at hlo ca ht
  have hrep : rowC (List.replicate 2 []) = [[AV.sl [] .an], [AV.sl [] .an]] := rfl
  have h21 : ((2 : Nat) : Int) - 1 = 1 := rfl
  have h22 : ((2 : Nat) : Int) = 2 := rfl
  rw [hrep, h21] at hlo
  rw [h22] at ca
  simp -implicitDefEqProofs [c, ca, hl, hx, hge, hlt, hwn, hn1, hlo, ht, h1]
theorem tree_parts_un (x : Nd) (a : Tre) (h : (Tre.un x a).ok) (hl : (Tre.un x a).flat.length ≤ 40000) (hn : thin 1000 (Tre.un x a).flat) : callF T 472 [.sl (rowN (Tre.un x a).flat) .an] = some (.tup [.sl (rowC (Tre.un x a).prts) .an, .b true]) := by
 have hw := wrongN_flat h
 have c1 := tree_begin (T := T) a h.2 [] [x] (Tre.un x a).flat rfl (by omega)
 have hlen : (Tre.un x a).flat.length = a.flat.length + 1 := by simp [Tre.flat]
 have e0 : (([] : List Nd).length + a.flat.length : Nat) = a.flat.length := by simp
 rw [e0] at c1
 have hx : (Tre.un x a).flat[a.flat.length]? = some x := by
  show (a.flat ++ [x])[a.flat.length]? = _
  rw [List.getElem?_append_right (Nat.le_refl _), Nat.sub_self]; rfl
 have hp : ((Tre.un x a).flat.take a.flat.length).drop ([] : List Nd).length = a.flat := by
  show ((a.flat ++ [x]).take a.flat.length).drop 0 = _
  rw [List.take_left, List.drop_zero]
 have hr : ((Tre.un x a).prts.length : Nat) = 1 := rfl
 refine tree_parts_end (T := T) _ a.flat.length x (Tre.un x a).prts hlen (by omega) hx hw (by rw [h.1]; rfl) (.inl rfl) ?_
 have r0 := pt_round (T := T) (Tre.un x a).flat a.flat.length 0 [[]] 0 a.flat (by decide) (by decide) (by omega) (Nat.zero_le _) (by omega) hp hn c1
 refine range_loop (fun k => if k = 0 then stPt (Tre.un x a).flat a.flat.length [[]] 0 else stPt (Tre.un x a).flat 0 [a.flat] (-1)) 1 _ (fun k hk => ?_) (pt_fin (T := T) _ _ _)
 have : k = 0 := by omega
 subst this
 exact r0
theorem tree_parts_bin (x : Nd) (a b : Tre) (h : (Tre.bin x a b).ok) (hl : (Tre.bin x a b).flat.length ≤ 40000) (hn : thin 1000 (Tre.bin x a b).flat) : callF T 472 [.sl (rowN (Tre.bin x a b).flat) .an] = some (.tup [.sl (rowC (Tre.bin x a b).prts) .an, .b true]) := by
 have hw := wrongN_flat h
 have ef : (Tre.bin x a b).flat = a.flat ++ (b.flat ++ [x]) := rfl
 have hlen : (Tre.bin x a b).flat.length = (a.flat.length + b.flat.length) + 1 := by simp [Tre.flat]; omega
 have c1 := tree_begin (T := T) b h.2.2 a.flat [x] (Tre.bin x a b).flat (by rw [ef, List.append_assoc]) (by omega)
 have c2 := tree_begin (T := T) a h.2.1 [] (b.flat ++ [x]) (Tre.bin x a b).flat (by rw [ef]; rfl) (by omega)
 have e0 : (([] : List Nd).length + a.flat.length : Nat) = a.flat.length := by simp
 rw [e0] at c2
 have hx : (Tre.bin x a b).flat[a.flat.length + b.flat.length]? = some x := by
  rw [ef, ← List.append_assoc, List.getElem?_append_right (by simp), List.length_append, Nat.sub_self]; rfl
 have hp1 : ((Tre.bin x a b).flat.take (a.flat.length + b.flat.length)).drop a.flat.length = b.flat := by
  rw [ef, ← List.append_assoc, List.take_left' (by simp), List.drop_left]
 have hp2 : ((Tre.bin x a b).flat.take a.flat.length).drop ([] : List Nd).length = a.flat := by
  rw [ef, List.take_left]; rfl
 refine tree_parts_end (T := T) _ (a.flat.length + b.flat.length) x (Tre.bin x a b).prts hlen (by omega) hx hw (by rw [h.1]; rfl) (.inr rfl) ?_
 have r0 := pt_round (T := T) (Tre.bin x a b).flat (a.flat.length + b.flat.length) a.flat.length [[], []] 1 b.flat (by decide) (by decide) (by omega) (by omega) (by omega) hp1 hn c1
 have r1 := pt_round (T := T) (Tre.bin x a b).flat a.flat.length 0 [[], b.flat] 0 a.flat (by simp) (by simp) (by omega) (Nat.zero_le _) (by omega) hp2 hn c2
 refine range_loop (fun k => if k = 0 then stPt (Tre.bin x a b).flat (a.flat.length + b.flat.length) [[], []] 1 else if k = 1 then stPt (Tre.bin x a b).flat a.flat.length [[], b.flat] 0 else stPt (Tre.bin x a b).flat 0 [a.flat, b.flat] (-1)) 2 _ (fun k hk => ?_) (pt_fin (T := T) _ _ _)
 have : k = 0 ∨ k = 1 := by omega
 rcases this with rfl | rfl
 ·exact r0
 ·exact r1
theorem tree_parts (t : Tre) (h : t.ok) (hl : t.flat.length ≤ 40000) (hn : thin 1000 t.flat) : callF T 472 [.sl (rowN t.flat) .an] = some (.tup [.sl (rowC t.prts) .an, .b true]) := by
 cases t with
 | leaf x => exact tree_parts_leaf x h
 | un x a => exact tree_parts_un x a h hl hn
 | bin x a b => exact tree_parts_bin x a b h hl hn
end
theorem walkR_sh (lim : Nat) (P : Po) (ls : List Rat) (n : Nat) : ∀ (l : List Nd) (i : Nat) (s : List Rat), walkR lim P ls (n + i) s l = ((walkR lim P ls i s l).1, (walkR lim P ls i s l).2.1, if (walkR lim P ls i s l).2.1 = 0 then 0 else n + (walkR lim P ls i s l).2.2)
 | [], i, s => rfl
 | x :: r, i, s => by
  have hk : ∀ (v : Rat × Bool), finV lim v (n + i) = ((finV lim v i).1, (finV lim v i).2.1, if (finV lim v i).2.1 = 0 then 0 else n + (finV lim v i).2.2) := by
   intro v
   unfold finV
   split
   ·rfl
   ·split <;> rfl
  rw [walkR, walkR, hk]
  dsimp only
  by_cases h : (finV lim (stepV P ls s x).1 i).2.1 = 0
  ·rw [if_neg (by simpa using h), if_neg (by simpa using h), Nat.add_assoc]
   exact walkR_sh lim P ls n r (i + 1) _
  ·rw [if_pos h, if_pos h]
theorem walkR_sh0 (lim : Nat) (P : Po) (ls : List Rat) (n : Nat) (l : List Nd) : walkR lim P ls n [] l = ((walkR lim P ls 0 [] l).1, (walkR lim P ls 0 [] l).2.1, if (walkR lim P ls 0 [] l).2.1 = 0 then 0 else n + (walkR lim P ls 0 [] l).2.2) := walkR_sh lim P ls n l 0 []
def Grt (A B : Nat × Nat) : Prop := A.1 = 6 ∧ (B.1 = 6 → A.2 ≤ B.2)
theorem walkR_at_lt (lim : Nat) (P : Po) (ls : List Rat) : ∀ (l : List Nd) (i : Nat) (s : List Rat), (walkR lim P ls i s l).2.1 ≠ 0 → (walkR lim P ls i s l).2.2 < i + l.length
 | [], i, s, h => absurd rfl h
 | x :: r, i, s, h => by
  rw [walkR] at h ⊢
  rw [List.length_cons]
  split
  ·next h1 => rw [(finV_stop h1).2]; omega
  ·next h1 =>
   rw [if_neg h1] at h
   have := walkR_at_lt lim P ls r (i + 1) _ h
   omega
class CLaw23b (T : Tbl) : Prop where
class CLaw23 (T : Tbl) : Prop where
class CRef23 (T : Tbl) : Prop where
section
variable {T : Tbl} [CRef17 T]
def stWq (l : List Nd) (p : Nat × Int) : St := ⟨[(0, .sl (rowN l) .an), (3, .i .i64 p.2), (4, .i .i64 p.1)], [], 2⟩
def longN (l : List Nd) (many words : Int) : Bool := decide (many < l.length) || (l.take many.toNat).any fun x => decide (words < x.n.length)
theorem ref17_long (l : List Nd) (many words : Nat) (hl : l.length ≤ 4294967296 ∨ many ≤ 4294967295) (hm : many ≤ 4294967295) : callF T 10 [.sl (rowN l) .an, .i .i64 many, .i .i64 words] = some (.b (decide (many < l.length) || (l.take many).any fun x => decide (words < x.n.length))) := by
 have hlo : loopN T 0 0 (.norm false [0, 1]) l10_0 ⟨[(0, .sl (rowN l) .an), (1, .i .i64 many), (2, .i .i64 words), (7, .i .i64 ((0 : Nat) : Int))], [], 2⟩ =
   if ((l.take many).drop 0).any (fun x => decide (words < x.n.length)) = true then some (.r, ⟨[(6, .b true)], [], 2⟩) else some (.n, ⟨[(0, .sl (rowN l) .an), (1, .i .i64 many)], [], 2⟩) := by
  refine until_loop (fun i => ⟨[(0, .sl (rowN l) .an), (1, .i .i64 many), (2, .i .i64 words), (7, .i .i64 ((i : Nat) : Int))], [], 2⟩) (l.take many).length
   (fun i => if ((l.take many).drop i).any (fun x => decide (words < x.n.length)) = true then some (.r, _) else some (.n, _)) (fun i hi => ?_) ?_
  ·have hi1 := hi
   rw [List.length_take] at hi1
   have h : i < l.length := by omega
   have h' : (i : Int) < l.length := by omega
   have h2 : i < many := by omega
   have h2' : (i : Int) < many := by omega
   have hg : l[i]? = some (l[i]'h) := List.getElem?_eq_getElem h
   have hd : (l.take many).drop i = (l.take many)[i]'hi :: (l.take many).drop (i + 1) := List.drop_eq_getElem_cons hi
   have hx2 : (l.take many)[i]'hi = l[i]'h := by simp
   rw [hx2] at hd
   have hws := wrapS h2 (by omega)
   generalize hx : l[i]'h = x at *
   by_cases hc : words < x.n.length
   ·right
    rw [if_pos (by rw [hd]; simp [hc])]
    have hc' : (words : Int) < x.n.length := by omega
    clear hd
    constructor <;> simp -implicitDefEqProofs [l10_0, h, h', h2, h2', hg, hx, hc, hc']
   ·left
    have hc' : ¬ (words : Int) < x.n.length := by omega
    refine ⟨?_, by rw [hd]; simp [hc]⟩
    clear hd
    simp -implicitDefEqProofs [l10_0, h, h', h2, h2', hg, hx, hc, hc', hws]
  ·rw [List.drop_length, List.length_take]
   simp only [List.any_nil, Bool.false_eq_true, if_false]
   by_cases h : l.length ≤ many
   ·rw [Nat.min_eq_right h]
    constructor <;> simp -implicitDefEqProofs [l10_0]
   ·rw [Nat.min_eq_left (by omega)]
    have h2 : many < l.length := by omega
    have h2' : (many : Int) < l.length := by omega
    constructor <;> simp -implicitDefEqProofs [l10_0, h2, h2']
 rw [List.drop_zero] at hlo
 simp only [Int.natCast_zero] at hlo
 rw [f10 _ rfl, b10]
 generalize (l.take many).any (fun x => decide (words < x.n.length)) = B at *
 cases B with
 | true =>
  rw [if_pos rfl] at hlo
  simp -implicitDefEqProofs [hlo]
 | false =>
  rw [if_neg (by decide)] at hlo
  by_cases h : many < l.length
  ·have h' : (many : Int) < l.length := by omega
   simp -implicitDefEqProofs [hlo, h, h']
  ·have h' : ¬ (many : Int) < l.length := by omega
   simp -implicitDefEqProofs [hlo, h, h']
variable [CRef02 T] [CRef04 T] [CRef05 T] [CRef07 T]
def stPq (l : List Nd) (dim pars lets w : Int) (i : Nat) : St := ⟨[(0, .sl (rowN l) .an), (1, .i .i64 dim), (2, .i .i64 pars), (3, .i .i64 lets), (9, .i .i64 w), (10, .i .i64 i)], [], 2⟩
end
section
variable {T : Tbl} [CRef17 T]
def Tre.parts : Tre → List (List Nd)
 | .leaf _ => []
 | .un _ a => [a.flat]
 | .bin _ a b => [a.flat, b.flat]
end
class CDiff (T : Tbl) : Prop where
def dv (l : List Nd) : AV := if l = [] then .sl [] .nl else .sl (rowN l) .an
def flg (l : List Nd) : Fl := if l = [] then .nl else .an
section
variable {T : Tbl} [CDiff T]
def stJn (op : Int) (L : List (List Nd)) (i : Nat) (c : List Nd) (acc : List Nd) (j : Nat) : St :=
 ⟨[(0, .i .i64 op), (5, .bs (.loc 5) 1 3 0 acc.length), (10, .sl (rowC L) .an), (11, .i .i64 L.length), (12, .i .i64 i), (16, .sl (rowN c) .an), (17, .i .i64 c.length), (18, .i .i64 j)],
  [(.loc 5, ⟨1, .own, 3, rowN acc⟩)], 3⟩
end
section
variable {T : Tbl} [CDiff T]
abbrev celP (p : Pc) : List AV := [.sl (rowN p.1) .an, dv p.2]
end
def rowP (l : List Pc) : List (List AV) := l.map celP
@[simp] theorem rowP_nil : rowP [] = [] := rfl
section
variable {T : Tbl} [CDiff T]
abbrev hpBy (u x : Nd) (S : List Pc) : Heap := [(.loc 3, ⟨1, .str, 3, [celN u]⟩), (.loc 5, ⟨2, .own, 2, rowP S⟩), (.loc 7, ⟨3, .str, 3, [celN x]⟩)]
def stIn (u x : Nd) (code : List Nd) (S : List Pc) (i kk : Nat) (v : AV) (r : Nat) (from_ j : Nat) : St :=
 ⟨[(0, .sl (rowN code) .an), (3, .ptr (.loc 3) 1 3 0 0), (5, .bs (.loc 5) 2 2 0 S.length), (6, .i .i64 i), (7, .ptr (.loc 7) 3 3 0 0), (8, .i .i64 kk), (9, .i .i64 from_), (13, .sl (rowN code) .an), (14, .i .i64 code.length), (15, .i .i64 i),
  (29, v), (30, .i .i64 r), (31, .i .i64 j)], hpBy u x S, 5⟩
def stOut (u x : Nd) (code : List Nd) (S : List Pc) (i kk : Nat) (from_ : Nat) : St :=
 ⟨[(0, .sl (rowN code) .an), (3, .ptr (.loc 3) 1 3 0 0), (5, .bs (.loc 5) 2 2 0 S.length), (6, .i .i64 i), (7, .ptr (.loc 7) 3 3 0 0), (8, .i .i64 kk), (9, .i .i64 from_), (13, .sl (rowN code) .an), (14, .i .i64 code.length), (15, .i .i64 i)], hpBy u x S, 5⟩
def stBy (u : Nd) (code : List Nd) (S : List Pc) (i : Nat) : St :=
 ⟨[(0, .sl (rowN code) .an), (3, .ptr (.loc 3) 1 3 0 0), (5, .bs (.loc 5) 2 2 0 S.length), (13, .sl (rowN code) .an), (14, .i .i64 code.length), (15, .i .i64 i)], [(.loc 3, ⟨1, .str, 3, [celN u]⟩), (.loc 5, ⟨2, .own, 2, rowP S⟩)], 4⟩
variable [CTree T]
end
end Go.Ab
section
namespace Go.Ab
end Go.Ab
end
section
namespace Go.Ab
end Go.Ab
end
namespace Go.Ab
def selN (f s : List Nd) (j : Int) (da db : List Nd) : List Nd :=
 if da ≠ [] ∧ db ≠ [] then catN f s j 0 else if da ≠ [] then f else if db ≠ [] ∧ j = 8 then catN s [] 6 0 else if db ≠ [] then s else []
end Go.Ab
section
namespace Go.Ab
end Go.Ab
end
namespace Go.Ab
def unkB (u : Nd) : Bool := decide (2 ≤ u.op) && decide (u.op ≤ 4) && okN 6 6 0 u
def derF (u : Nd) (t : Tre) : List Nd := if t.der u = [] then kN 0 else t.der u
def freeB (u : Nd) (l : List Nd) : Bool := !(l.any fun x => decide (x.op = u.op) && decide (x.i = u.i))
end Go.Ab
section
namespace Go.Ab
end Go.Ab
end
namespace Go.Ab
class CLaw11b (T : Tbl) : Prop where
class CRow2 (T : Tbl) : Prop where
class CFig (T : Tbl) : Prop where
def prim344 : List AV → Option AV
 | [.s s, .s [47, 46]] => if s.length ≤ 1000000 then some (.i .i64 (Lib.indexAny s [47, 46])) else none
 | _ => none
def prim194 : List AV → Option AV
 | [.s s, .s [c]] => some (.i .i64 (Lib.indexByte s c))
 | _ => none
def prim361 : List AV → Option AV
 | [.s s, .s [c]] => some (.i .i64 (Lib.countByte s c))
 | _ => none
def prim343 : List AV → Option AV
 | [.s [48], .i .i64 n] => if 0 ≤ n ∧ n ≤ 64 then some (.s (List.replicate n.toNat 48)) else none
 | _ => none
class CStr (T : Tbl) : Prop where
class CSplit (T : Tbl) : Prop where
def splitC (c : UInt8) : List UInt8 → List (List UInt8)
 | [] => [[]]
 | b :: l => if b = c then [] :: splitC c l else match splitC c l with
  | [] => [[b]]
  | p :: r => (b :: p) :: r
section
variable {T : Tbl} [CStr T] [CSplit T]
def stSp (c : UInt8) (N : Nat) (ps : List (List UInt8)) (s : List UInt8) : St :=
 ⟨[(0, .s s), (1, .s [c]), (2, .i .i64 0), (3, .i .i64 ((N : Int) - 1)), (9, .bs (.loc 31) 1 1 0 N), (10, .i .i64 ps.length)], [(.loc 31, ⟨1, .own, 1, rowsT ps ++ List.replicate (N - ps.length) [.s []]⟩)], 3⟩
end
abbrev flt (k a : Int) : AV := .agg [.i .i64 k, .i .i64 0, .i .i64 0, .i .i64 a]
def isCut (c : UInt8) : Bool := c == 47 || c == 46
def cutN : List UInt8 → Nat
 | [] => 0
 | c :: r => if isCut c then 0 else cutN r + 1
def figB (z : Int) (neg : Bool) (s : List UInt8) (c : UInt8) (at_ : Nat) : Rat × Int × Int :=
 let rest := s.drop at_
 if 0 ≤ wrongI rest then (0, 1, wrongI rest + at_)
 else if c = 47 then (if rd rest = 0 then (0, 2, at_) else (mkRat z (rd rest), 0, 0))
 else (mkRat (sg neg (z.natAbs * 10 ^ rest.length + rd rest)) (10 ^ rest.length), 0, 0)
def figR (s : List UInt8) : Rat × Int × Int :=
 let first := s.take (cutN s)
 if 0 ≤ wrongZ first then (0, 1, wrongZ first + minus first)
 else if cutN s < s.length then figB (readZ first) (s.head? = some 45) s (s.getD (cutN s) 0) (cutN s + 1)
 else (mkRat (readZ first) 1, 0, 0)
def readL : List (List UInt8) → Nat → List Rat → List Rat × Int × Int
 | [], _, acc => (acc, 0, 0)
 | w :: ws, k, acc => if (figR w).2.1 = 0 then readL ws (k + w.length + 1) (acc ++ [(figR w).1]) else ([], (figR w).2.1, (figR w).2.2 + k)
def rowR (s : List UInt8) : List Rat × Int × Int := if s = [] then ([], 0, 0) else readL (splitC 44 s) 0 []
section
variable {T : Tbl} [CLimb T] [CNat T] [CProd T] [CTwos T] [CQuot T] [CQuotD T] [CDigits T] [CText T] [CWhole T] [CCommon T] [CFrac T] [CFrac2 T] [CStr T] [CSplit T] [CPow T] [CFig T] [CJoin T] [CRow T] [CRow2 T]
def stRR (ws : List (List UInt8)) (y : Nat × Nat × List Rat) : St :=
 ⟨[(3, .ptr (.loc 3) 1 4 0 0), (4, .bs (.loc 4) 2 3 0 y.2.2.length), (5, .i .i64 y.2.1), (14, .sl (rowsT ws) .an), (15, .i .i64 ws.length), (16, .i .i64 y.1)],
  [(.loc 3, ⟨1, .str, 4, [[.i .i64 0, .i .i64 0, .i .i64 0, .i .i64 0]]⟩), (.loc 4, ⟨2, .own, 3, rowF (fzs y.2.2)⟩)], 4⟩
def resRR (r : List Rat × Int × Int) : Option (Ex × St) :=
 if r.2.1 = 0 then some (.n, ⟨[(3, .ptr (.loc 3) 1 4 0 0), (4, .bs (.loc 4) 2 3 0 r.1.length)], [(.loc 3, ⟨1, .str, 4, [[.i .i64 0, .i .i64 0, .i .i64 0, .i .i64 0]]⟩), (.loc 4, ⟨2, .own, 3, rowF (fzs r.1)⟩)], 4⟩)
 else some (.r, ⟨[(2, .sl [] .an), (3, .ptr (.loc 3) 1 4 0 0)], [(.loc 3, ⟨1, .str, 4, [[.i .i64 r.2.1, .i .i64 0, .i .i64 0, .i .i64 r.2.2]]⟩)], 3⟩)
end
end Go.Ab
section
namespace Go.Ab
end Go.Ab
end
namespace Go.Ab
def longT (t : Tp) (many words : Nat) : Bool := ((t.code.take many).any fun i => decide (words < fsz i.n)) || decide (many < t.code.length) || decide (many < t.outs.length)
def longP (x : PoF) (many words : Nat) : Bool := decide (words < fsz x.t) || longB x.y many words || longB x.p many words
theorem longP_false {x : PoF} {many words : Nat} (h : longP x many words = false) (hm : many ≤ 1000) : PoS x words := by
 unfold longP at h
 simp only [Bool.or_eq_false_iff, decide_eq_false_iff_not] at h
 obtain ⟨⟨h1, h2⟩, h3⟩ := h
 obtain ⟨a1, a2⟩ := longB_false h2
 obtain ⟨b1, b2⟩ := longB_false h3
 exact ⟨by omega, a2, b2, by omega, by omega⟩
section
variable {T : Tbl} [CRef02 T] [CRef04 T] [CRef05 T] [CRef07 T] [CRef06 T] [CRef08 T] [CRef09 T] [CRef11 T] [CLaw09 T] [CLaw11 T] [CLaw24 T]
def stLT (t : Tp) (many words i : Nat) : St := ⟨[(1, .i .i64 many), (2, .i .i64 words), (3, .ptr (.loc 3) 1 4 0 0), (7, .i .i64 i)], [(.loc 3, bxT t)], 3⟩
def enLT (t : Tp) (many : Nat) : Ex × St := (.n, ⟨[(1, .i .i64 many), (3, .ptr (.loc 3) 1 4 0 0)], [(.loc 3, bxT t)], 3⟩)
theorem ref21_long (x : PoF) (many words : Nat) (hm : many ≤ 1000) : callF T 380 [ept x, .i .i64 many, .i .i64 words] = some (.b (longP x many words)) := by
 have c1 := ref09_long (T := T) x.t words
 have c2 := ref11_longB (T := T) x.y many words hm
 have c3 := ref11_longB (T := T) x.p many words hm
 unfold longP
 generalize decide (words < fsz x.t) = B1 at *
 generalize longB x.y many words = B2 at *
 generalize longB x.p many words = B3 at *
 obtain ⟨⟨n, a, d⟩, y, p⟩ := x
 dsimp only at *
 rw [f380 _ rfl, b380]
 cases B1 <;> cases B2 <;> simp -implicitDefEqProofs [c1, c2, c3]
theorem law21_to (x : PoF) (hy : x.y.length ≤ 1000) (hp : x.p.length ≤ 1000) : callF T 383 [ept x] = some (ept x) := by
 have c1 := law09_to (T := T) x.t
 have c2 := law11_to (T := T) x.y (by omega)
 have c3 := law11_to (T := T) x.p (by omega)
 obtain ⟨⟨n, a, d⟩, y, p⟩ := x
 dsimp only at *
 rw [f383 _ rfl, b383]
 simp -implicitDefEqProofs [c1, c2, c3]
@[simp] theorem ints_hd (l : List Int) : Option.all (fun r => decide (r.length = 1)) (ints l).head? = true := by cases l <;> rfl
def fC : BId := .fld (.loc 3) 0
def stTT (t : Tp) (i : Nat) : St := ⟨[(1, .ptr (.loc 1) 1 4 0 0), (2, .ptr (.loc 2) 2 4 0 0), (3, .ptr (.loc 3) 3 4 0 0), (4, .i .i64 i)],
 [(.loc 1, bxT t), (.loc 2, ⟨2, .str, 4, [[.sl [] .an, .sl [] .an, .i .i64 0, .i .i64 0]]⟩), (.loc 3, ⟨3, .str, 4, [[.bs fC 4 6 0 i, .bs (.loc 13) 5 1 0 t.outs.length, .i .i64 t.dim, .i .i64 t.par]]⟩), (fC, ⟨4, .own, 6, rowI (t.code.take i)⟩), (.loc 13, ⟨5, .own, 1, ints t.outs⟩)], 7⟩
end
def valT (P : Po) (ls : List Rat) : Tre → Option Rat
 | .leaf x => some (leafV P ls x)
 | .un x a => (valT P ls a).bind fun v => if (unV x v).2 = true then some (unV x v).1 else none
 | .bin x a b => (valT P ls a).bind fun v => (valT P ls b).bind fun w => if (biV x.op v w).2 = true then some (biV x.op v w).1 else none
structure Fine (P : Po) (yl pl : Int) (t : Tre) (v : Rat) : Prop where
 ok : t.ok
 nd : ∀ x ∈ t.flat, okN yl pl 0 x = true
 v : valT P [] t = some v
section
variable {P : Po} {yl pl : Int}
def Der (P : Po) (yl pl : Int) (l : List Nd) : Prop := l = [] ∨ ∃ d w, Fine P yl pl d w ∧ d.flat = l
end
theorem longN_false {l : List Nd} {many words : Nat} (h : (decide (many < l.length) || (l.take many).any fun x => decide (words < x.n.length)) = false) : l.length ≤ many ∧ thin words l := by
 have h1 : l.length ≤ many := by
  simp only [Bool.or_eq_false_iff, decide_eq_false_iff_not] at h
  omega
 refine ⟨h1, fun x hx => ?_⟩
 rw [List.take_of_length_le h1] at h
 simp only [Bool.or_eq_false_iff, List.any_eq_false, decide_eq_true_eq] at h
 have := h.2 x hx
 omega
theorem thin_mono {a b : Nat} (h : a ≤ b) {l : List Nd} (hl : thin a l) : thin b l := fun x hx => Nat.le_trans (hl x hx) h
section
variable {T : Tbl} [CLimb T] [CNat T] [CProd T] [CTwos T] [CQuot T] [CQuotD T] [CWhole T] [CCommon T] [CFrac T] [CFrac2 T] [CFrac3 T] [CFrac5 T] [CPow T] [CTape T] [CGauge T] [CEval T] [CEval2 T] [CTree T] [CText T] [CLenD T] [CDiff T] [CRef23 T] [CRef17 T] [CRef02 T] [CRef04 T] [CRef05 T] [CRef07 T] [CLaw17 T] [CLaw23 T] [CLaw23b T]
 [CRef06 T] [CRef08 T] [CRef09 T] [CRef11 T] [CLaw09 T] [CLaw11 T] [CLaw24 T]
end
theorem evT_sh (lim : Nat) (P : Po) (ls : List Rat) (t : Tre) (h : t.ok) (n : Nat) : evT lim P ls t n = ((evT lim P ls t 0).1, (evT lim P ls t 0).2.1, if (evT lim P ls t 0).2.1 = 0 then 0 else n + (evT lim P ls t 0).2.2) := by
 rw [← walk_tree lim P ls t h n, ← walk_tree lim P ls t h 0, walkR_sh0]
theorem evT_lt (lim : Nat) (P : Po) (ls : List Rat) (t : Tre) (h : t.ok) : (evT lim P ls t 0).2.2 ≤ t.flat.length := by
 rw [← walk_tree lim P ls t h 0]
 by_cases hk : (walkR lim P ls 0 [] t.flat).2.1 = 0
 ·rw [walkR_at _ _ _ _ _ _ hk]; exact Nat.zero_le _
 ·have := walkR_at_lt lim P ls t.flat 0 [] hk
  omega
theorem evT_sz {P : Po} {t : Tre} {i : Nat} (h : (evT 500 P [] t i).2.1 = 0) : sz (evT 500 P [] t i).1 ≤ 129 := fit_sz (by decide) (evT_ok h).2
section
variable {T : Tbl} [CLimb T] [CNat T] [CProd T] [CTwos T] [CQuot T] [CQuotD T] [CWhole T] [CCommon T] [CFrac T] [CFrac2 T] [CFrac3 T] [CFrac5 T] [CPow T] [CTape T] [CGauge T] [CEval T] [CEval2 T] [CTree T] [CText T] [CLenD T] [CTree2 T] [CJoin T] [CLex T] [CCheck T] [CRow T] [CLaw21 T]
 [CRef17 T] [CRef02 T] [CRef04 T] [CRef05 T] [CRef07 T] [CRef06 T] [CRef08 T] [CRef09 T] [CRef11 T] [CLaw09 T] [CLaw11 T] [CLaw24 T] [CLaw17 T]
theorem eval_tree (t : Tre) (ht : t.ok) (x : PoF) (hx : PoS x 1000) (hok : ∀ u ∈ t.flat, okN x.y.length x.p.length 0 u = true) (hl : t.flat.length ≤ 3000) (hn : thin 1000 t.flat) :
  callF T 462 [.sl (rowN t.flat) .an, ept x, .sl [] .an, .i .i64 500] = some (.tup [efz (fz (evT 500 x.v [] t 0).1), flt4 (evT 500 x.v [] t 0).2.1 0 0 (evT 500 x.v [] t 0).2.2]) := by
 have h := placeN_flat ht hok
 have c := eval_Code_ok (T := T) t.flat x [] 500 hx (by decide) (by simp) hl hn (by show placeN x.y.length x.p.length 0 t.flat < 0; rw [h]; decide)
 have hm : ([] : List Fz).map fv = [] := rfl
 have hlim : (limI 500).toNat = 500 := by decide
 rw [hm, hlim, walk_tree _ _ _ _ ht] at c
 exact c
set_option maxHeartbeats 1000000 in
theorem parts_stop (c ca cb : List Nd) (u : Nd) (x : PoF) (k m : Nat) (hlen : c.length = k + 1) (hk : k ≤ 20) (hca : ca.length = m) (hm : m ≤ 20) (hxl : c[k]? = some u)
  (hw : callF T 463 [] = some (.b true)) (cl : callF T 10 [.sl (rowN c) .an, .i .i64 20, .i .i64 4] = some (.b false)) (cl2 : callF T 380 [ept x, .i .i64 6, .i .i64 2] = some (.b false))
  (t1 : callF T 13 [.sl (rowN c) .an] = some (.sl (rowN c) .an)) (t3 : callF T 383 [ept x] = some (ept x)) (cp : callF T 472 [.sl (rowN c) .an] = some (.tup [.sl [[.sl (rowN ca) .an], [.sl (rowN cb) .an]] .an, .b true]))
  (E A B : Fz) (ke at_ ka aa kb ab : Nat) (ce : callF T 462 [.sl (rowN c) .an, ept x, .sl [] .an, .i .i64 500] = some (.tup [efz E, flt4 ke 0 0 at_]))
  (cea : callF T 462 [.sl (rowN ca) .an, ept x, .sl [] .an, .i .i64 500] = some (.tup [efz A, flt4 ka 0 0 aa]))
  (ceb : callF T 462 [.sl (rowN cb) .an, ept x, .sl [] .an, .i .i64 500] = some (.tup [efz B, flt4 kb 0 0 ab])) (hab : ab ≤ 40) (hke : ke ≠ 2)
  (h : (ka ≠ 0 ∧ ke = ka ∧ at_ = aa) ∨ (ka = 0 ∧ aa = 0 ∧ kb ≠ 0 ∧ ke = kb ∧ at_ = ab + m)) :
  callF T 461 [.sl (rowN c) .an, ept x] = some (.b true) := by
 obtain ⟨hlt, hge⟩ := List.getElem?_eq_some_iff.1 hxl
 have hwn : IntKind.wrap .i64 (k : Int) = k := wrap_i64 _ (by omega)
 have hn1 : (k : Int) < (k : Int) + 1 := by omega
 have hke' : ¬ (ke : Int) = 2 := by omega
 have hwa : IntKind.wrap .i64 ((ab : Int) + m) = ((ab + m : Nat) : Int) := by rw [wrap_i64 _ (by omega)]; omega
 obtain ⟨⟨x0, x1, x2⟩, xy, xp⟩ := x
 obtain ⟨op, ii, nn⟩ := u
 obtain ⟨e0, e1, e2⟩ := E
 obtain ⟨a0, a1, a2⟩ := A
 obtain ⟨b0, b1, b2⟩ := B
 try dsimp only at *
 rw [f461 _ rfl, b461]
 rcases h with ⟨h1, rfl, rfl⟩ | ⟨rfl, rfl, h1, rfl, rfl⟩
 ·simp -implicitDefEqProofs [hw, cl, cl2, t1, t3, ce, cp, cea, hlen, hxl, hlt, hge, hwn, hn1, h1, hke, hke']
 ·simp -implicitDefEqProofs [hw, cl, cl2, t1, t3, ce, cp, cea, ceb, hlen, hca, hxl, hlt, hge, hwn, hn1, h1, hke, hke', hwa]
set_option maxHeartbeats 1000000 in
theorem parts_fault (c ca cb : List Nd) (u : Nd) (x : PoF) (k : Nat) (hlen : c.length = k + 1) (hk : k ≤ 20) (hxl : c[k]? = some u)
  (hw : callF T 463 [] = some (.b true)) (cl : callF T 10 [.sl (rowN c) .an, .i .i64 20, .i .i64 4] = some (.b false)) (cl2 : callF T 380 [ept x, .i .i64 6, .i .i64 2] = some (.b false))
  (t1 : callF T 13 [.sl (rowN c) .an] = some (.sl (rowN c) .an)) (t3 : callF T 383 [ept x] = some (ept x)) (cp : callF T 472 [.sl (rowN c) .an] = some (.tup [.sl [[.sl (rowN ca) .an], [.sl (rowN cb) .an]] .an, .b true]))
  (E A B : Fz)
  (cea : callF T 462 [.sl (rowN ca) .an, ept x, .sl [] .an, .i .i64 500] = some (.tup [efz A, flt4 0 0 0 0]))
  (ceb : callF T 462 [.sl (rowN cb) .an, ept x, .sl [] .an, .i .i64 500] = some (.tup [efz B, flt4 0 0 0 0]))
  (ke at_ : Nat) (ce : callF T 462 [.sl (rowN c) .an, ept x, .sl [] .an, .i .i64 500] = some (.tup [efz E, flt4 ke 0 0 at_])) (hke : ke ≠ 2) (hke0 : ke ≠ 0) (sg : Int) (cs : callF T 209 [efz B] = some (.i .i64 sg)) (h3 : ke = 3 ↔ (u.op = 10 ∧ sg = 0)) :
  callF T 461 [.sl (rowN c) .an, ept x] = some (.b true) := by
 obtain ⟨hlt, hge⟩ := List.getElem?_eq_some_iff.1 hxl
 have hwn : IntKind.wrap .i64 (k : Int) = k := wrap_i64 _ (by omega)
 have hn1 : (k : Int) < (k : Int) + 1 := by omega
 have hke' : ¬ (ke : Int) = 2 := by omega
 have hke0' : ¬ (ke : Int) = 0 := by omega
 obtain ⟨⟨x0, x1, x2⟩, xy, xp⟩ := x
 obtain ⟨op, ii, nn⟩ := u
 obtain ⟨e0, e1, e2⟩ := E
 obtain ⟨a0, a1, a2⟩ := A
 obtain ⟨b0, b1, b2⟩ := B
 dsimp only at h3
 rw [f461 _ rfl, b461]
 by_cases h10 : op = 10
 ·subst h10
  by_cases hs : sg = 0
  ·have := h3.2 ⟨rfl, hs⟩
   subst this hs
   simp -implicitDefEqProofs [hw, cl, cl2, t1, t3, ce, cp, cea, ceb, hlen, hxl, hlt, hge, hwn, hn1, cs]
  ·have hk3 : ke ≠ 3 := fun h => hs (h3.1 h).2
   have hk3' : ¬ (ke : Int) = 3 := by omega
   have hb1 : ((ke : Int) == 3) = false := by simpa using hk3'
   have hb2 : (sg == 0) = false := by simpa using hs
   simp -implicitDefEqProofs [hw, cl, cl2, t1, t3, ce, cp, cea, ceb, hlen, hxl, hlt, hge, hwn, hn1, cs, hs, hke, hke', hke0, hke0', hb1, hb2]
 ·have hk3 : ke ≠ 3 := fun h => h10 (h3.1 h).1
  have hk3' : ¬ (ke : Int) = 3 := by omega
  have hb1 : ((ke : Int) == 3) = false := by simpa using hk3'
  have hb2 : (op == 10) = false := by simpa using h10
  simp -implicitDefEqProofs [hw, cl, cl2, t1, t3, ce, cp, cea, ceb, hlen, hxl, hlt, hge, hwn, hn1, h10, hke, hke', hke0, hke0', hb1, hb2]
set_option maxHeartbeats 1000000 in
theorem parts_val (c ca cb : List Nd) (u : Nd) (x : PoF) (k : Nat) (hlen : c.length = k + 1) (hk : k ≤ 20) (hxl : c[k]? = some u)
  (hw : callF T 463 [] = some (.b true)) (cl : callF T 10 [.sl (rowN c) .an, .i .i64 20, .i .i64 4] = some (.b false)) (cl2 : callF T 380 [ept x, .i .i64 6, .i .i64 2] = some (.b false))
  (t1 : callF T 13 [.sl (rowN c) .an] = some (.sl (rowN c) .an)) (t3 : callF T 383 [ept x] = some (ept x)) (cp : callF T 472 [.sl (rowN c) .an] = some (.tup [.sl [[.sl (rowN ca) .an], [.sl (rowN cb) .an]] .an, .b true]))
  (E A B : Fz)
  (cea : callF T 462 [.sl (rowN ca) .an, ept x, .sl [] .an, .i .i64 500] = some (.tup [efz A, flt4 0 0 0 0]))
  (ceb : callF T 462 [.sl (rowN cb) .an, ept x, .sl [] .an, .i .i64 500] = some (.tup [efz B, flt4 0 0 0 0]))
  (ce : callF T 462 [.sl (rowN c) .an, ept x, .sl [] .an, .i .i64 500] = some (.tup [efz E, flt4 0 0 0 0])) (S7 : Fz) (c7 : callF T 215 [efz A, efz B] = some (efz S7))
  (h : (u.op = 7 ∧ callF T 212 [efz E, efz S7] = some (.b true)) ∨ (u.op = 8 ∧ ∃ S8 : Fz, callF T 216 [efz A, efz B] = some (efz S8) ∧ callF T 212 [efz E, efz S8] = some (.b true)) ∨
   (u.op = 9 ∧ ∃ S9 : Fz, callF T 217 [efz A, efz B] = some (efz S9) ∧ callF T 212 [efz E, efz S9] = some (.b true)) ∨
   (u.op = 10 ∧ ∃ S10 : Fz, callF T 217 [efz E, efz B] = some (efz S10) ∧ callF T 212 [efz S10, efz A] = some (.b true))) :
  callF T 461 [.sl (rowN c) .an, ept x] = some (.b true) := by
 obtain ⟨hlt, hge⟩ := List.getElem?_eq_some_iff.1 hxl
 have hwn : IntKind.wrap .i64 (k : Int) = k := wrap_i64 _ (by omega)
 have hn1 : (k : Int) < (k : Int) + 1 := by omega
 obtain ⟨⟨x0, x1, x2⟩, xy, xp⟩ := x
 obtain ⟨op, ii, nn⟩ := u
 obtain ⟨e0, e1, e2⟩ := E
 obtain ⟨a0, a1, a2⟩ := A
 obtain ⟨b0, b1, b2⟩ := B
 obtain ⟨s0, s1, s2⟩ := S7
 dsimp only at h
 rw [f461 _ rfl, b461]
 rcases h with ⟨rfl, sm⟩ | ⟨rfl, ⟨r0, r1, r2⟩, c8, sm⟩ | ⟨rfl, ⟨r0, r1, r2⟩, c8, sm⟩ | ⟨rfl, ⟨r0, r1, r2⟩, c8, sm⟩
 ·simp -implicitDefEqProofs [hw, cl, cl2, t1, t3, ce, cp, cea, ceb, hlen, hxl, hlt, hge, hwn, hn1, c7, sm]
 ·simp -implicitDefEqProofs [hw, cl, cl2, t1, t3, ce, cp, cea, ceb, hlen, hxl, hlt, hge, hwn, hn1, c7, c8, sm]
 ·simp -implicitDefEqProofs [hw, cl, cl2, t1, t3, ce, cp, cea, ceb, hlen, hxl, hlt, hge, hwn, hn1, c7, c8, sm]
 ·simp -implicitDefEqProofs [hw, cl, cl2, t1, t3, ce, cp, cea, ceb, hlen, hxl, hlt, hge, hwn, hn1, c7, c8, sm]
end
section
variable {T : Tbl} [CLimb T] [CNat T] [CProd T] [CTwos T] [CQuot T] [CQuotD T] [CWhole T] [CCommon T] [CFrac T] [CFrac2 T] [CFrac3 T] [CFrac5 T] [CPow T] [CTape T] [CGauge T] [CEval T] [CEval2 T] [CTree T] [CText T] [CLenD T] [CTree2 T] [CJoin T] [CLex T] [CCheck T] [CRow T] [CLaw21 T]
 [CRef17 T] [CRef02 T] [CRef04 T] [CRef05 T] [CRef07 T] [CRef06 T] [CRef08 T] [CRef09 T] [CRef11 T] [CLaw09 T] [CLaw11 T] [CLaw24 T] [CLaw17 T]
set_option maxHeartbeats 1000000 in
theorem law21_parts (l : List Nd) (x : PoF) : callF T 461 [.sl (rowN l) .an, ept x] = some (.b true) := by
 have hw := law21_works (T := T)
 have cl := ref17_long (T := T) l 20 4 (.inr (by decide)) (by decide)
 have cl2 := ref21_long (T := T) x 6 2 (by decide)
 simp only [Int.cast_ofNat_Int] at cl cl2
 rw [f461 _ rfl, b461]
 cases hL : (decide (20 < l.length) || (l.take 20).any fun x => decide (4 < x.n.length)) with
 | true =>
  rw [hL] at cl
  obtain ⟨⟨x0, x1, x2⟩, xy, xp⟩ := x
  simp -implicitDefEqProofs [hw, cl]
 | false =>
 rw [hL] at cl
 obtain ⟨hlen, hth⟩ := longN_false hL
 clear hL
 have hthin := thin_mono (b := 1000) (by decide) hth
 cases hP : longP x 6 2 with
 | true =>
  rw [hP] at cl2
  obtain ⟨⟨x0, x1, x2⟩, xy, xp⟩ := x
  simp -implicitDefEqProofs [hw, cl, cl2]
 | false =>
 rw [hP] at cl2
 have hx0 := longP_false hP (by decide)
 have hx : PoS x 1000 := ⟨Nat.le_trans hx0.t (by decide), fun u hu => Nat.le_trans (hx0.y u hu) (by decide), fun u hu => Nat.le_trans (hx0.p u hu) (by decide), hx0.yl, hx0.pl⟩
 clear hP hx0
 have t1 := law17_to (T := T) l (by omega)
 have t3 := law21_to (T := T) x hx.yl hx.pl
 by_cases hpl : 0 ≤ placeN x.y.length x.p.length 0 l
 ·-- the expression may not be
  have ce := eval_Code_bad (T := T) l x [] 500 (by omega) hthin (by show 0 ≤ placeN x.y.length x.p.length 0 l; exact hpl)
  rw [rowF_nil] at ce
  have hpl2 : placeN x.y.length x.p.length ([] : List Fz).length l = placeN x.y.length x.p.length 0 l := rfl
  rw [hpl2] at ce
  generalize placeN x.y.length x.p.length 0 l = p at *
  generalize fz 0 = Z at *
  obtain ⟨z0, z1, z2⟩ := Z
  by_cases hwr : wrongN l = -1
  ·obtain ⟨t, ht, rfl⟩ := wrongN_tree hwr
   have cp := tree_parts (T := T) t ht (by omega) hthin
   generalize t.prts = R at *
   generalize t.flat = c at *
   clear hx hthin hth hwr
   obtain ⟨⟨x0, x1, x2⟩, xy, xp⟩ := x
   try dsimp only at *
   simp -implicitDefEqProofs [hw, cl, cl2, t1, t3, ce, cp]
  ·have cp := tree_parts_wrong (T := T) l (by omega) hwr
   clear hx hthin hth hwr
   obtain ⟨⟨x0, x1, x2⟩, xy, xp⟩ := x
   try dsimp only at *
   simp -implicitDefEqProofs [hw, cl, cl2, t1, t3, ce, cp]
 obtain ⟨t, ht, rfl, hok⟩ := placeN_tree (show placeN x.y.length x.p.length 0 l < 0 by omega)
 have cp := tree_parts (T := T) t ht (by omega) hthin
 have ce := eval_tree (T := T) t ht x hx hok (by omega) hthin
 cases t with
 | leaf u =>
  have ep : (Tre.leaf u).prts = [] := rfl
  rw [ep, rowC_nil] at cp
  generalize (evT 500 x.v [] (Tre.leaf u) 0) = E at *
  obtain ⟨v, kind, at_⟩ := E
  dsimp only at *
  generalize fz v = V at *
  obtain ⟨v0, v1, v2⟩ := V
  generalize (Tre.leaf u).flat = c at *
  clear hx hthin hth hok hpl
  obtain ⟨⟨x0, x1, x2⟩, xy, xp⟩ := x
  try dsimp only at *
  by_cases hk : (kind : Int) = 2
  ·simp -implicitDefEqProofs [hw, cl, cl2, t1, t3, ce, cp, hk]
  ·simp -implicitDefEqProofs [hw, cl, cl2, t1, t3, ce, cp, hk]
 | un u a =>
  have ep : (Tre.un u a).prts = [a.flat] := rfl
  have er : rowC [a.flat] = [[.sl (rowN a.flat) .an]] := rfl
  rw [ep, er] at cp
  have hlenu : (Tre.un u a).flat.length = a.flat.length + 1 := by simp [Tre.flat]
  have hsub : ∀ v ∈ a.flat, v ∈ (Tre.un u a).flat := fun v hv => by show v ∈ a.flat ++ [u]; exact List.mem_append.2 (.inl hv)
  have ca := eval_tree (T := T) a ht.2 x hx (fun v hv => hok v (hsub v hv)) (by omega) (fun v hv => hthin v (hsub v hv))
  have hxl : (Tre.un u a).flat[a.flat.length]? = some u := by
   show (a.flat ++ [u])[a.flat.length]? = _
   rw [List.getElem?_append_right (Nat.le_refl _), Nat.sub_self]; rfl
  obtain ⟨hlt, hge⟩ := List.getElem?_eq_some_iff.1 hxl
  have hop : u.op = 6 ∨ u.op = 11 := by
   have := ht.1
   rcases arN_cases u.op with ⟨e, _⟩ | ⟨e, h⟩ | ⟨e, _⟩ | ⟨e, _⟩ <;> omega
  have hn : a.flat.length ≤ 20 := by omega
  have hwn : IntKind.wrap .i64 (a.flat.length : Int) = a.flat.length := wrap_i64 _ (by omega)
  have hn1 : (a.flat.length : Int) < (a.flat.length : Int) + 1 := by omega
  have hE : evT 500 x.v [] (.un u a) 0 = if (evT 500 x.v [] a 0).2.1 ≠ 0 then evT 500 x.v [] a 0 else finV 500 (unV u (evT 500 x.v [] a 0).1) (0 + a.flat.length) := rfl
  rw [hE] at ce
  have hkA := evT_kind 500 x.v [] a 0
  have hat := fun h : (evT 500 x.v [] a 0).2.1 = 0 => (evT_ok h).1
  have hza := fun h : (evT 500 x.v [] a 0).2.1 = 0 => evT_sz h
  generalize evT 500 x.v [] a 0 = A at *
  obtain ⟨va, ka, aa⟩ := A
  dsimp only at *
  clear hE hok hpl hthin hth ht hsub
  by_cases hk : ka = 0
  ·subst hk
   have := hat rfl
   subst this
   have hz := hza rfl
   rw [if_neg (by simp)] at ce
   have c1 := frac_pow (T := T) (fz va) u.i (by rw [fsz_fz]; omega)
   have c2 := frac_neg (T := T) (fz va) (by rw [fsz_fz]; omega)
   rw [fv_fz] at c1 c2
   have hzu := unV_sz (x := u) hz
   have hun : unV u va = if u.op = 6 then (-va, true) else powR va u.i := rfl
   clear hat hza hkA hzu
   have same : ∀ q : Rat, sizQ q ≤ 500 → callF T 212 [efz (fz q), efz (fz q)] = some (.b true) := fun q hq => by
    have h129 := fit_sz (lim := 500) (by decide) hq
    have := frac_same (T := T) (fz q) (fz q) (by rw [fsz_fz]; omega) (by rw [fsz_fz]; omega)
    rwa [decide_eq_true rfl] at this
   have hwW : ∀ (w : Rat) (ok : Bool), unV u va = (w, ok) → (ok = false → u.op ≠ 6) := fun w ok h1 h2 h3 => by
    rw [hun, if_pos h3] at h1
    rw [h2] at h1
    cases h1
   have hpw : u.op ≠ 6 → unV u va = powR va u.i := fun h => by rw [hun, if_neg h]
   have hng : u.op = 6 → unV u va = (-va, true) := fun h => by rw [hun, if_pos h]
   clear hun
   generalize unV u va = W at *
   obtain ⟨w, ok⟩ := W
   have hno := hwW w ok rfl
   clear hwW
   have sm := same w
   clear same
   generalize hpr : powR va u.i = PW at *
   obtain ⟨pv, pok⟩ := PW
   clear hpr
   have hz6 : finV 500 (w, ok) (0 + a.flat.length) = (if ok = false then (0, 3, a.flat.length) else if 500 < sizQ w then (0, 6, a.flat.length) else (w, 0, 0)) := by
    unfold finV
    rw [Nat.zero_add]
   rw [hz6] at ce
   clear hz6
   by_cases h6 : u.op = 6
   ·have e1 := hng h6
    cases e1
    rw [if_neg (by decide)] at ce
    clear hng hpw hno
    by_cases hs : 500 < sizQ (-va)
    ·rw [if_pos hs] at ce
     generalize fz (-va) = NV at *
     generalize fz va = V at *
     generalize fz pv = PV at *
     generalize fz 0 = Z at *
     obtain ⟨v0, v1, v2⟩ := V
     obtain ⟨n0, n1, n2⟩ := NV
     obtain ⟨p0, p1, p2⟩ := PV
     obtain ⟨z0, z1, z2⟩ := Z
     generalize (Tre.un u a).flat = c at *
     generalize a.flat = ac at *
     clear hx sm hs
     obtain ⟨⟨x0, x1, x2⟩, xy, xp⟩ := x
     obtain ⟨op, ii, nn⟩ := u
     dsimp only at *
     subst h6
     simp -implicitDefEqProofs [hw, cl, cl2, t1, t3, ce, cp, ca, hlenu, hxl, hlt, hge, hwn, hn1, c1, c2]
    ·rw [if_neg hs] at ce
     have sm := sm (by omega)
     generalize fz (-va) = NV at *
     generalize fz va = V at *
     generalize fz pv = PV at *
     obtain ⟨v0, v1, v2⟩ := V
     obtain ⟨n0, n1, n2⟩ := NV
     obtain ⟨p0, p1, p2⟩ := PV
     generalize (Tre.un u a).flat = c at *
     generalize a.flat = ac at *
     clear hx hs
     obtain ⟨⟨x0, x1, x2⟩, xy, xp⟩ := x
     obtain ⟨op, ii, nn⟩ := u
     dsimp only at *
     subst h6
     simp -implicitDefEqProofs [hw, cl, cl2, t1, t3, ce, cp, ca, hlenu, hxl, hlt, hge, hwn, hn1, c1, c2, sm]
   ·have e1 := hpw h6
    cases e1
    clear hng hpw hno
    cases ok with
    | false =>
     rw [if_pos rfl] at ce
     generalize fz (-va) = NV at *
     generalize fz va = V at *
     generalize fz w = PV at *
     generalize fz 0 = Z at *
     obtain ⟨v0, v1, v2⟩ := V
     obtain ⟨p0, p1, p2⟩ := PV
     obtain ⟨z0, z1, z2⟩ := Z
     generalize (Tre.un u a).flat = c at *
     generalize a.flat = ac at *
     clear hx sm
     obtain ⟨⟨x0, x1, x2⟩, xy, xp⟩ := x
     obtain ⟨op, ii, nn⟩ := u
     dsimp only at *
     simp -implicitDefEqProofs [hw, cl, cl2, t1, t3, ce, cp, ca, hlenu, hxl, hlt, hge, hwn, hn1, c1, c2, h6]
    | true =>
     rw [if_neg (by decide)] at ce
     by_cases hs : 500 < sizQ w
     ·rw [if_pos hs] at ce
      generalize fz (-va) = NV at *
      generalize fz va = V at *
      generalize fz w = PV at *
      generalize fz 0 = Z at *
      obtain ⟨v0, v1, v2⟩ := V
      obtain ⟨p0, p1, p2⟩ := PV
      obtain ⟨z0, z1, z2⟩ := Z
      generalize (Tre.un u a).flat = c at *
      generalize a.flat = ac at *
      clear hx sm hs
      obtain ⟨⟨x0, x1, x2⟩, xy, xp⟩ := x
      obtain ⟨op, ii, nn⟩ := u
      dsimp only at *
      simp -implicitDefEqProofs [hw, cl, cl2, t1, t3, ce, cp, ca, hlenu, hxl, hlt, hge, hwn, hn1, c1, c2, h6]
     ·rw [if_neg hs] at ce
      have sm := sm (by omega)
      generalize fz (-va) = NV at *
      generalize fz va = V at *
      generalize fz w = PV at *
      obtain ⟨v0, v1, v2⟩ := V
      obtain ⟨p0, p1, p2⟩ := PV
      generalize (Tre.un u a).flat = c at *
      generalize a.flat = ac at *
      clear hx hs
      obtain ⟨⟨x0, x1, x2⟩, xy, xp⟩ := x
      obtain ⟨op, ii, nn⟩ := u
      dsimp only at *
      simp -implicitDefEqProofs [hw, cl, cl2, t1, t3, ce, cp, ca, hlenu, hxl, hlt, hge, hwn, hn1, c1, c2, sm, h6]
  ·have hk' : ¬ (ka : Int) = 0 := by omega
   have hk2 : ¬ (ka : Int) = 2 := by omega
   rw [if_pos hk] at ce
   clear hat hza
   generalize fz va = V at *
   obtain ⟨v0, v1, v2⟩ := V
   generalize (Tre.un u a).flat = c at *
   generalize a.flat = ac at *
   clear hx hkA
   obtain ⟨⟨x0, x1, x2⟩, xy, xp⟩ := x
   obtain ⟨op, ii, nn⟩ := u
   dsimp only at *
   simp -implicitDefEqProofs [hw, cl, cl2, t1, t3, ce, cp, ca, hk, hk', hk2, hlenu, hxl, hlt, hge, hwn, hn1]
 | bin u a b =>
  have ep : rowC (Tre.bin u a b).prts = [[.sl (rowN a.flat) .an], [.sl (rowN b.flat) .an]] := rfl
  rw [ep] at cp
  have hlenu : (Tre.bin u a b).flat.length = (a.flat.length + b.flat.length) + 1 := by simp [Tre.flat]; omega
  have hsa : ∀ v ∈ a.flat, v ∈ (Tre.bin u a b).flat := fun v hv => by show v ∈ a.flat ++ (b.flat ++ [u]); exact List.mem_append.2 (.inl hv)
  have hsb : ∀ v ∈ b.flat, v ∈ (Tre.bin u a b).flat := fun v hv => by show v ∈ a.flat ++ (b.flat ++ [u]); exact List.mem_append.2 (.inr (List.mem_append.2 (.inl hv)))
  have cea := eval_tree (T := T) a ht.2.1 x hx (fun v hv => hok v (hsa v hv)) (by omega) (fun v hv => hthin v (hsa v hv))
  have ceb := eval_tree (T := T) b ht.2.2 x hx (fun v hv => hok v (hsb v hv)) (by omega) (fun v hv => hthin v (hsb v hv))
  have hxl : (Tre.bin u a b).flat[a.flat.length + b.flat.length]? = some u := by
   show (a.flat ++ (b.flat ++ [u]))[a.flat.length + b.flat.length]? = _
   rw [← List.append_assoc, List.getElem?_append_right (by simp), List.length_append, Nat.sub_self]; rfl
  have hE : evT 500 x.v [] (.bin u a b) 0 = if (evT 500 x.v [] a 0).2.1 ≠ 0 then evT 500 x.v [] a 0 else if (evT 500 x.v [] b (0 + a.flat.length)).2.1 ≠ 0 then evT 500 x.v [] b (0 + a.flat.length)
   else finV 500 (biV u.op (evT 500 x.v [] a 0).1 (evT 500 x.v [] b (0 + a.flat.length)).1) (0 + a.flat.length + b.flat.length) := rfl
  rw [evT_sh 500 x.v [] b ht.2.2 (0 + a.flat.length)] at hE
  rw [hE] at ce
  have hkA := evT_kind 500 x.v [] a 0
  have hkB := evT_kind 500 x.v [] b 0
  have hat := fun h : (evT 500 x.v [] a 0).2.1 = 0 => (evT_ok h).1
  have hbt := fun h : (evT 500 x.v [] b 0).2.1 = 0 => (evT_ok h).1
  have hza := fun h : (evT 500 x.v [] a 0).2.1 = 0 => evT_sz h
  have hzb := fun h : (evT 500 x.v [] b 0).2.1 = 0 => evT_sz h
  have hlb := evT_lt 500 x.v [] b ht.2.2
  have hop := ht.1
  have main : callF T 461 [.sl (rowN (Tre.bin u a b).flat) .an, ept x] = some (.b true) := by
   generalize evT 500 x.v [] a 0 = A at *
   generalize evT 500 x.v [] b 0 = B at *
   obtain ⟨va, ka, aa⟩ := A
   obtain ⟨vb, kb, ab⟩ := B
   have ka2 : ka ≠ 2 := by rcases hkA with h | h | h <;> (replace h : ka = _ := h; rw [h]; decide)
   have kb2 : kb ≠ 2 := by rcases hkB with h | h | h <;> (replace h : kb = _ := h; rw [h]; decide)
   have hab : ab ≤ 40 := by replace hlb : ab ≤ b.flat.length := hlb; omega
   dsimp only at *
   by_cases hk : ka = 0
   ·subst hk
    have h0 := hat rfl
    subst h0
    rw [if_neg (by simp)] at ce
    by_cases hk2 : kb = 0
    ·subst hk2
     have h0 := hbt rfl
     subst h0
     rw [if_neg (by simp)] at ce
     have za := hza rfl
     have zb := hzb rfl
     have c7 := frac_add (T := T) (fz va) (fz vb) (by rw [fsz_fz]; omega) (by rw [fsz_fz]; omega)
     have c8 := frac_sub (T := T) (fz va) (fz vb) (by rw [fsz_fz]; omega) (by rw [fsz_fz]; omega)
     have c9 := frac_mul (T := T) (fz va) (fz vb) (by rw [fsz_fz]; omega) (by rw [fsz_fz]; omega)
     have cs := frac_sign (T := T) (fz vb) (by rw [fsz_fz]; omega)
     rw [fv_fz, fv_fz] at c7 c8 c9
     rw [fv_fz] at cs
     have hops : 7 ≤ u.op ∧ u.op ≤ 10 := by rcases arN_cases u.op with ⟨e, _⟩ | ⟨e, _⟩ | ⟨e, h⟩ | ⟨e, _⟩ <;> omega
     have same : ∀ q : Rat, sizQ q ≤ 500 → callF T 212 [efz (fz q), efz (fz q)] = some (.b true) := fun q hq => by
      have h129 := fit_sz (lim := 500) (by decide) hq
      have := frac_same (T := T) (fz q) (fz q) (by rw [fsz_fz]; omega) (by rw [fsz_fz]; omega)
      rwa [decide_eq_true rfl] at this
     by_cases hokv : (biV u.op va vb).2 = false
     ·-- a pole
      have e : finV 500 (biV u.op va vb) (0 + a.flat.length + b.flat.length) = (0, 3, 0 + a.flat.length + b.flat.length) := by unfold finV; rw [if_pos hokv]
      rw [e] at ce
      have h10 : u.op = 10 ∧ vb = 0 := by
       unfold biV at hokv
       split at hokv
       ·cases hokv
       ·split at hokv
        ·cases hokv
        ·split at hokv
         ·cases hokv
         ·exact ⟨by omega, by simpa using hokv⟩
      exact parts_fault (T := T) _ a.flat b.flat u x (a.flat.length + b.flat.length) hlenu (by omega) hxl hw cl cl2 t1 t3 cp _ _ _ cea ceb 3 _ ce (by decide) (by decide) _ cs ⟨fun _ => ⟨h10.1, sgQ_zero.2 h10.2⟩, fun _ => rfl⟩
     ·have hv2 : ¬ (u.op = 10 ∧ vb = 0) := fun h => hokv (by unfold biV; rw [if_neg (by omega), if_neg (by omega), if_neg (by omega)]; simp [h.2])
      by_cases hs : 500 < sizQ (biV u.op va vb).1
      ·have e : finV 500 (biV u.op va vb) (0 + a.flat.length + b.flat.length) = (0, 6, 0 + a.flat.length + b.flat.length) := by unfold finV; rw [if_neg hokv, if_pos hs]
       rw [e] at ce
       exact parts_fault (T := T) _ a.flat b.flat u x (a.flat.length + b.flat.length) hlenu (by omega) hxl hw cl cl2 t1 t3 cp _ _ _ cea ceb 6 _ ce (by decide) (by decide) _ cs ⟨fun h => absurd h (by decide), fun h => absurd ⟨h.1, sgQ_zero.1 h.2⟩ hv2⟩
      ·have e : finV 500 (biV u.op va vb) (0 + a.flat.length + b.flat.length) = ((biV u.op va vb).1, 0, 0) := by unfold finV; rw [if_neg hokv, if_neg hs]
       rw [e] at ce
       have sm := same _ (show sizQ (biV u.op va vb).1 ≤ 500 by omega)
       have h129 := fit_sz (lim := 500) (by decide) (show sizQ (biV u.op va vb).1 ≤ 500 by omega)
       refine parts_val (T := T) _ a.flat b.flat u x (a.flat.length + b.flat.length) hlenu (by omega) hxl hw cl cl2 t1 t3 cp _ _ _ cea ceb ce _ c7 ?_
       have hc : u.op = 7 ∨ u.op = 8 ∨ u.op = 9 ∨ u.op = 10 := by omega
       rcases hc with h | h | h | h
       ·left
        have eb : (biV u.op va vb).1 = va + vb := by rw [h]; rfl
        rw [eb] at sm ⊢
        exact ⟨h, sm⟩
       ·right; left
        have eb : (biV u.op va vb).1 = va - vb := by rw [h]; rfl
        rw [eb] at sm ⊢
        exact ⟨h, _, c8, sm⟩
       ·right; right; left
        have eb : (biV u.op va vb).1 = va * vb := by rw [h]; rfl
        rw [eb] at sm ⊢
        exact ⟨h, _, c9, sm⟩
       ·right; right; right
        have eb : (biV u.op va vb).1 = va / vb := by rw [h]; rfl
        have hb0 : vb ≠ 0 := fun hb => hv2 ⟨h, hb⟩
        have c10 := frac_mul (T := T) (fz (biV u.op va vb).1) (fz vb) (by rw [fsz_fz]; omega) (by rw [fsz_fz]; omega)
        rw [fv_fz, fv_fz, eb, Rat.div_mul_cancel hb0] at c10
        have sma := frac_same (T := T) (fz va) (fz va) (by rw [fsz_fz]; omega) (by rw [fsz_fz]; omega)
        rw [decide_eq_true rfl] at sma
        rw [eb]
        exact ⟨h, _, c10, sma⟩
    ·rw [if_pos hk2, if_neg hk2] at ce
     exact parts_stop (T := T) _ a.flat b.flat u x (a.flat.length + b.flat.length) a.flat.length hlenu (by omega) rfl (by omega) hxl hw cl cl2 t1 t3 cp _ _ _ _ _ _ _ _ _ ce cea ceb hab kb2 (.inr ⟨rfl, rfl, hk2, rfl, by rw [Nat.zero_add, Nat.add_comm]⟩)
   ·rw [if_pos hk] at ce
    exact parts_stop (T := T) _ a.flat b.flat u x (a.flat.length + b.flat.length) a.flat.length hlenu (by omega) rfl (by omega) hxl hw cl cl2 t1 t3 cp _ _ _ _ _ _ _ _ _ ce cea ceb hab ka2 (.inl ⟨hk, rfl, rfl⟩)
  rw [f461 _ rfl, b461] at main
  exact main
end
end Go.Ab