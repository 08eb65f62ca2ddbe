/-
  A calculus of values, boxes and code, and what functions of the program compute, proved in it.
  Conditions: none beyond those that the theorems state. (Part 7: GpRnd, GpRef06, GpRef08, GpRef09, GpRef10, GcRef11b, GcLaw11c, GcRow5, GcFrac5, GcRef5x, GpRow3, GpRef11, GpRow4, GcGrid, GpLaw11, GpGrid, GpGrid2, NmGrid, NmRow, GcLaw12, GcRef12, GpRef12, GpLaw12, GcPoly, GpPoly, GpRow5, GcLaw11b, GpLaw11b, GpLaw11c, GpRef11b, GpLaw11e, GpLaw10, NmRnd, GpLaw10c.)
-/
import Derived.Test.YtefdnbbfkhkjeaaGreatDoorPart6

set_option linter.unusedSectionVars false
set_option linter.unusedVariables false
set_option linter.unusedSimpArgs false
set_option linter.unnecessarySimpa false

section
namespace Go.Ab
theorem floor_mk (z : Int) {d : Nat} (hd : d ≠ 0) : (mkRat z d).floor = z.fdiv (d : Int) := by
 have hx : mkRat z d * (d : Rat) = (z : Rat) := by
  rw [Rat.mkRat_eq_div]
  have : ((d : Nat) : Rat) ≠ 0 := by
   intro h
   exact hd (by exact_mod_cast h)
  grind
 have hdp : (0 : Rat) < (d : Rat) := by
  have : (0 : Int) < d := by omega
  exact_mod_cast this
 rw [Int.fdiv_eq_ediv_of_nonneg _ (by omega)]
 refine Int.le_antisymm ?_ ?_
 ·rw [Int.le_ediv_iff_mul_le (by omega)]
  have h1 := Rat.floor_le (mkRat z d)
  have h2 : (((mkRat z d).floor : Int) : Rat) * (d : Rat) ≤ mkRat z d * (d : Rat) := Rat.mul_le_mul_of_nonneg_right h1 (Rat.le_of_lt hdp)
  rw [hx] at h2
  exact_mod_cast h2
 ·rw [Rat.le_floor_iff]
  have h1 : z / (d : Int) * d ≤ z := Int.ediv_mul_le _ (by omega)
  have h2 : ((z / (d : Int) : Int) : Rat) * (d : Rat) ≤ mkRat z d * (d : Rat) := by
   rw [hx]
   exact_mod_cast h1
  exact Rat.le_of_mul_le_mul_right h2 hdp
def padZ (p : Nat) (s : List UInt8) : List UInt8 := List.replicate (p - s.length) 48 ++ s
def rndN (q : Rat) (p : Nat) : Nat := (absQ q * mkRat (10 ^ p : Nat) 1 + 1 / 2).floor.toNat
def roundQ (q : Rat) (p : Nat) : List UInt8 :=
 (if q < 0 ∧ rndN q p ≠ 0 then [45] else []) ++ (textN (rndN q p / 10 ^ p) ++ (if 0 < p then 46 :: padZ p (textN (rndN q p % 10 ^ p)) else []))
def cap60 (n : Int) : Nat := (min (max n 0) 60).toNat
theorem cap60_le (n : Int) : cap60 n ≤ 60 := by unfold cap60; omega
theorem rnd_nonneg (q : Rat) (p : Nat) : 0 ≤ (absQ q * mkRat (10 ^ p : Nat) 1 + 1 / 2).floor := by
 rw [Rat.le_floor_iff]
 have h1 := absQ_nonneg q
 have h2 : (0 : Rat) ≤ mkRat (10 ^ p : Nat) 1 := by
  rw [Rat.mkRat_eq_div]
  have : (0 : Int) ≤ ((10 ^ p : Nat) : Int) := Int.natCast_nonneg _
  have h3 : (0 : Rat) ≤ (((10 ^ p : Nat) : Int) : Rat) := by exact_mod_cast this
  grind
 have h3 := Rat.mul_nonneg h1 h2
 have h4 : (0 : Rat) ≤ 1 / 2 := by decide +kernel
 show ((0 : Int) : Rat) ≤ _
 have : ((0 : Int) : Rat) = 0 := rfl
 grind
section
variable {T : Tbl} [CLimb T] [CNat T] [CProd T] [CTwos T] [CQuot T] [CQuotD T] [CDigits T] [CText T] [CWhole T] [CCommon T] [CFrac T] [CFrac2 T] [CStr T] [CSplit T] [CPow T] [CFig T] [CJoin T] [CRow T] [CRow2 T]
theorem frac_floor (x : Fz) (hx : fsz x ≤ 900) : callF T 222 [efz x] = some (ez (fv x).floor) := by
 obtain ⟨y, h0, hv, hs, hp⟩ := frac_parts (T := T) x (by omega)
 have h1 := fsz_a y
 have h2 := fsz_d y
 have hf := whole_floor (T := T) y.1 false y.2.1 y.2.2 (by omega) (by omega)
 rw [if_neg h0] at hf
 have e : (wv y.1 y.2.1).fdiv (wv false y.2.2) = (fv x).floor := by
  rw [← hv]
  unfold fv
  rw [floor_mk _ h0]
  rfl
 rw [e] at hf
 rw [f222 _ rfl, b222]
 generalize (wv y.1 y.2.1).fmod (wv false y.2.2) = R at *
 generalize (fv x).floor = F at *
 simp -implicitDefEqProofs [hp, hf]
theorem frac_half : callF T 206 [.i .i64 1, .i .i64 2] = some (.tup [efz (fz (1 / 2)), .b true]) := by
 have c1 := frac_of (T := T) 1 (by decide) (by decide)
 have c2 := frac_of (T := T) 2 (by decide) (by decide)
 have q1 : ((1 : Int) : Rat) = 1 := rfl
 have q2 : ((2 : Int) : Rat) = 2 := rfl
 rw [q1] at c1
 rw [q2] at c2
 have s2 : sz 2 ≤ 1 := Nat.max_le.2 ⟨ofN_length_le' (by decide), ofN_length_le' (by decide)⟩
 have c3 := frac_quo (T := T) (fz 1) (fz 2) (by rw [fsz_fz, sz_one]; decide) (by rw [fsz_fz]; omega)
 rw [fv_fz, fv_fz, decide_eq_true (show (2 : Rat) ≠ 0 by decide +kernel)] at c3
 rw [f206 _ rfl, b206]
 clear s2 q1 q2
 generalize fz (1 / 2) = H at *
 generalize fz 1 = O at *
 generalize fz 2 = W at *
 simp -implicitDefEqProofs [c1, c2, c3]
theorem p343_eq (n : Nat) (hn : n ≤ 64) : callF T 343 [.s [48], .i .i64 n] = some (.s (List.replicate n 48)) := by
 rw [p343]
 simp only [prim343]
 rw [if_pos ⟨by omega, by omega⟩, Int.toNat_natCast]
theorem fig_round (x : Fz) (hx : fsz x ≤ 100) (n : Int) : callF T 257 [efz x, .i .i64 n] = some (.s (roundQ (fv x) (cap60 n))) := by
 have hp60 := cap60_le n
 have m2 : (if (60 : Int) < (if n < 0 then 0 else n) then (60 : Int) else (if n < 0 then 0 else n)) = (cap60 n : Int) := by unfold cap60; split <;> split at * <;> omega
 generalize cap60 n = p at *
 have c1 := fig_tens (T := T) p hp60
 have ht60 := ten_len hp60
 have c2 := nat_of (T := T) 1 (by decide)
 have c3 := frac_new (T := T) false (ofN (10 ^ p)) (ofN 1) (by omega) (by rw [ofN_one]; decide)
 have w1 : wv false (ofN (10 ^ p)) = ((10 ^ p : Nat) : Int) := by unfold wv sg; simp [val_ofN]
 rw [val_ofN, if_neg (by decide), w1] at c3
 have c4 := frac_half (T := T)
 have c5 := frac_abs (T := T) x (by omega)
 have zq := sz_fv (x := x) (L := 100) hx (by decide)
 have za : sz (absQ (fv x)) ≤ 100 := by rw [sz_abs]; exact zq
 have zm : sz (mkRat ((10 ^ p : Nat) : Int) 1) ≤ 60 := sz_mk (by rw [Int.natAbs_natCast]; exact ht60) (by rw [ofN_one]; decide) (by decide)
 have zh : sz (1 / 2) ≤ 1 := Nat.max_le.2 ⟨ofN_length_le' (by decide +kernel), ofN_length_le' (by decide +kernel)⟩
 have c6 := frac_mul (T := T) (fz (absQ (fv x))) (fz (mkRat ((10 ^ p : Nat) : Int) 1)) (by rw [fsz_fz]; omega) (by rw [fsz_fz]; omega)
 rw [fv_fz, fv_fz] at c6
 have z6 := sz_mul (absQ (fv x)) (mkRat ((10 ^ p : Nat) : Int) 1)
 have c7 := frac_add (T := T) (fz (absQ (fv x) * mkRat ((10 ^ p : Nat) : Int) 1)) (fz (1 / 2)) (by rw [fsz_fz]; omega) (by rw [fsz_fz]; omega)
 rw [fv_fz, fv_fz] at c7
 have z7 := sz_add (absQ (fv x) * mkRat ((10 ^ p : Nat) : Int) 1) (1 / 2)
 have c8 := frac_floor (T := T) (fz (absQ (fv x) * mkRat ((10 ^ p : Nat) : Int) 1 + 1 / 2)) (by rw [fsz_fz]; omega)
 rw [fv_fz] at c8
 obtain ⟨N, hN⟩ : ∃ N, N = rndN (fv x) p := ⟨_, rfl⟩
 have hF : (absQ (fv x) * mkRat ((10 ^ p : Nat) : Int) 1 + 1 / 2).floor = (N : Int) := by
  have := rnd_nonneg (fv x) p
  rw [hN]
  unfold rndN
  omega
 have hNl : (ofN N).length ≤ 200 := by
  have h1 : (N : Int) = (absQ (fv x) * mkRat ((10 ^ p : Nat) : Int) 1 + 1 / 2).num / ((absQ (fv x) * mkRat ((10 ^ p : Nat) : Int) 1 + 1 / 2).den : Int) := by rw [← hF, Rat.floor_def]
  have h2 := sz_num (absQ (fv x) * mkRat ((10 ^ p : Nat) : Int) 1 + 1 / 2)
  have h3 : N ≤ (absQ (fv x) * mkRat ((10 ^ p : Nat) : Int) 1 + 1 / 2).num.natAbs := by
   have h4 := Int.natAbs_ediv_le_natAbs (absQ (fv x) * mkRat ((10 ^ p : Nat) : Int) 1 + 1 / 2).num (absQ (fv x) * mkRat ((10 ^ p : Nat) : Int) 1 + 1 / 2).den
   rw [← h1, Int.natAbs_natCast] at h4
   exact h4
  have := ofN_len_le h3
  omega
 rw [hF] at c8
 have ezN : ez (N : Int) = wh false (ofN N) := by
  unfold ez
  rw [decide_eq_false (by omega), Int.natAbs_natCast]
 rw [ezN] at c8
 have c9 := whole_floor (T := T) false false (ofN N) (ofN (10 ^ p)) (by omega) (by omega)
 have hne : ¬ 10 ^ p = 0 := Nat.ne_of_gt (Nat.pow_pos (by decide))
 have wN : wv false (ofN N) = (N : Int) := by unfold wv sg; simp [val_ofN]
 rw [val_ofN, if_neg hne, wN, w1] at c9
 have hdv : (N : Int).fdiv ((10 ^ p : Nat) : Int) = ((N / 10 ^ p : Nat) : Int) := by
  rw [Int.fdiv_eq_ediv_of_nonneg _ (Int.natCast_nonneg _)]
  rfl
 have hmd : (N : Int).fmod ((10 ^ p : Nat) : Int) = ((N % 10 ^ p : Nat) : Int) := by
  rw [Int.fmod_eq_emod_of_nonneg _ (Int.natCast_nonneg _)]
  rfl
 have ez1 : ∀ k : Nat, ez (k : Int) = wh false (ofN k) := fun k => by
  unfold ez
  rw [decide_eq_false (by omega), Int.natAbs_natCast]
 rw [hdv, hmd, ez1, ez1] at c9
 have lq : (ofN (N / 10 ^ p)).length ≤ 200 := Nat.le_trans (ofN_len_le (Nat.div_le_self _ _)) hNl
 have lr : (ofN (N % 10 ^ p)).length ≤ 200 := Nat.le_trans (ofN_len_le (Nat.mod_le _ _)) hNl
 have c10 := whole_text (T := T) false (ofN (N / 10 ^ p)) (by omega)
 have c11 := whole_text (T := T) false (ofN (N % 10 ^ p)) (by omega)
 have tz : ∀ k : Nat, textZ (wv false (ofN k)) = textN k := fun k => by
  have : wv false (ofN k) = (k : Int) := by unfold wv sg; simp [val_ofN]
  rw [this]
  unfold textZ
  rw [if_neg (by omega), Int.natAbs_natCast]
 rw [tz] at c10 c11
 have tq : (textN (N / 10 ^ p)).length ≤ 10000 := by
  have := textN_words (a := ofN (N / 10 ^ p)) (by omega)
  rwa [val_ofN] at this
 have c12 := frac_sign (T := T) x (by omega)
 have c13 := whole_sign (T := T) false (ofN N) (by omega)
 rw [wN] at c13
 have hsg : sgI (N : Int) = if N = 0 then 0 else 1 := by
  unfold sgI
  split <;> split <;> (try split) <;> omega
 unfold roundQ
 rw [← hN]
 rw [f257 _ rfl, b257]
 clear hF hN hNl ezN zq za zm zh z6 z7 ht60 w1 wN lq lr hdv hmd ez1 tz hne
 generalize fz (absQ (fv x) * mkRat ((10 ^ p : Nat) : Int) 1 + 1 / 2) = X1 at *
 generalize fz (absQ (fv x) * mkRat ((10 ^ p : Nat) : Int) 1) = X2 at *
 generalize fz (mkRat ((10 ^ p : Nat) : Int) 1) = X3 at *
 generalize fz (absQ (fv x)) = X4 at *
 generalize fz (1 / 2) = X5 at *
 have hs1 : (fv x < 0 ∧ N ≠ 0) = (sgQ (fv x) < 0 ∧ sgI (N : Int) ≠ 0) := by
  rw [sgQ_neg, hsg]
  split <;> simp [*]
 simp only [hs1]
 clear hs1 hsg
 by_cases hp0 : 0 < p
 ·have tr : (textN (N % 10 ^ p)).length ≤ p := by
   obtain ⟨k, rfl⟩ : ∃ k, p = k + 1 := ⟨p - 1, by omega⟩
   exact textN_len (Nat.mod_lt _ (Nat.pow_pos (by decide)))
  have c14 := p343_eq (T := T) (p - (textN (N % 10 ^ p)).length) (by omega)
  have w2 : IntKind.wrap .i64 ((p : Int) - ((textN (N % 10 ^ p)).length : Int)) = ((p - (textN (N % 10 ^ p)).length : Nat) : Int) := by
   have : ((p - (textN (N % 10 ^ p)).length : Nat) : Int) = (p : Int) - ((textN (N % 10 ^ p)).length : Int) := by omega
   rw [this]
   exact wrap_i64 _ (by omega)
  have hp0' : (0 : Int) < p := by omega
  rw [if_pos hp0]
  unfold padZ
  generalize ofN (N / 10 ^ p) = A1 at *
  generalize ofN (N % 10 ^ p) = A2 at *
  generalize textN (N / 10 ^ p) = TQ at *
  generalize textN (N % 10 ^ p) = TR at *
  generalize ofN (10 ^ p) = A3 at *
  generalize ofN N = A4 at *
  generalize sgI (N : Int) = SN at *
  generalize sgQ (fv x) = SQ at *
  obtain ⟨K, hK⟩ : ∃ K, K = p - TR.length := ⟨_, rfl⟩
  rw [← hK] at c14 w2 ⊢
  have l0 : K + TR.length = p := by omega
  have l1 : 1 + K ≤ 9223372036854775807 := by omega
  have l2 : K + 1 + TR.length ≤ 9223372036854775807 := by omega
  have l3 : TQ.length + (K + TR.length + 1) ≤ 9223372036854775807 := by omega
  have l4 : 1 + (TQ.length + (K + TR.length + 1)) ≤ 9223372036854775807 := by omega
  have l5 : K + 1 + TR.length = K + TR.length + 1 := by omega
  clear hK
  by_cases hA : SQ < 0
  ·by_cases hB : SN = 0
   ·simp -implicitDefEqProofs [mm2, m2, c1, c2, c3, c4, c5, c6, c7, c8, c9, c10, c11, c12, c13, c14, w2, l1, l2, l3, l4, hp0, hp0', hA, hB]
   ·simp -implicitDefEqProofs [mm2, m2, c1, c2, c3, c4, c5, c6, c7, c8, c9, c10, c11, c12, c13, c14, w2, l1, l2, l3, l4, hp0, hp0', hA, hB]
  ·simp -implicitDefEqProofs [mm2, m2, c1, c2, c3, c4, c5, c6, c7, c8, c9, c10, c11, c12, c13, c14, w2, l1, l2, l3, l4, hp0, hp0', hA]
 ·have hp0' : ¬ (0 : Int) < p := by omega
  rw [if_neg hp0]
  generalize ofN (N / 10 ^ p) = A1 at *
  generalize ofN (N % 10 ^ p) = A2 at *
  generalize textN (N / 10 ^ p) = TQ at *
  generalize textN (N % 10 ^ p) = TR at *
  generalize ofN (10 ^ p) = A3 at *
  generalize ofN N = A4 at *
  generalize sgI (N : Int) = SN at *
  generalize sgQ (fv x) = SQ at *
  have l6 : 1 + TQ.length ≤ 9223372036854775807 := by omega
  by_cases hA : SQ < 0
  ·by_cases hB : SN = 0
   ·simp -implicitDefEqProofs [mm2, m2, c1, c2, c3, c4, c5, c6, c7, c8, c9, c10, c12, c13, l6, hp0, hp0', hA, hB]
   ·simp -implicitDefEqProofs [mm2, m2, c1, c2, c3, c4, c5, c6, c7, c8, c9, c10, c12, c13, l6, hp0, hp0', hA, hB]
  ·simp -implicitDefEqProofs [mm2, m2, c1, c2, c3, c4, c5, c6, c7, c8, c9, c10, c12, c13, l6, hp0, hp0', hA]
end
end Go.Ab
end

section
namespace Go.Ab
section
variable {T : Tbl}
def stDw (Q : List UInt32) (o n s i : Nat) : St := ⟨[(0, .bs (.bor 0) 0 1 o n), (1, .i .i64 s), (5, .i .i64 i)], [(.bor 0, ⟨0, .own, 1, u32s Q⟩)], 4⟩
end
section
variable {T : Tbl} [CRef02 T] [CRef04 T] [CRef05 T] [CRef07 T] [CRef06 T]
def stLw (Q R : List UInt32) (o n o2 n2 c i : Nat) : St := ⟨[(0, .bs (.bor 0) 0 1 o n), (1, .bs (.bor 1) 1 1 o2 n2), (4, u64 c), (5, .i .i64 i)], [(.bor 0, ⟨0, .own, 1, u32s Q⟩), (.bor 1, ⟨1, .own, 1, u32s R⟩)], 6⟩
def nmX : BId := .fld (.loc 12) 22
def nmY : BId := .fld (.loc 14) 22
def nm2 (f : Bool) : BId × BId := if f then (nmX, nmY) else (nmY, nmX)
def stGc (f : Bool) (P a S P2 b S2 : List UInt32) (m n : Nat) : St :=
 ⟨[(5, .bs (nm2 f).1 1 1 P.length a.length), (6, .bs (nm2 f).2 2 1 P2.length b.length), (7, .i .i64 m), (8, .i .i64 n)], [((nm2 f).1, ⟨1, .own, 1, u32s (P ++ (a ++ S))⟩), ((nm2 f).2, ⟨2, .own, 1, u32s (P2 ++ (b ++ S2))⟩)], 4⟩
structure Gc where
 f : Bool
 P : List UInt32
 S : List UInt32
 P2 : List UInt32
 S2 : List UInt32
 X : Nat
 Y : Nat
end
end Go.Ab
end

section
namespace Go.Ab
end Go.Ab
end

section
namespace Go.Ab
section
variable {T : Tbl} [CRef02 T] [CRef04 T] [CRef05 T] [CRef07 T] [CRef06 T] [CRef08 T] [CRef09 T]
theorem ref09_long (x : Fz) (k : Nat) : callF T 247 [efz x, .i .i64 k] = some (.b (decide (k < fsz x))) := by
 obtain ⟨n, a, d⟩ := x
 unfold fsz
 rw [f247 _ rfl, b247]
 by_cases h1 : k < a.length
 ·have h3 : k < max a.length d.length := by omega
  simp -implicitDefEqProofs [h1, h3]
 ·by_cases h2 : k < d.length
  ·have h3 : k < max a.length d.length := by omega
   simp -implicitDefEqProofs [h1, h2, h3]
  ·have h3 : ¬ k < max a.length d.length := by omega
   simp -implicitDefEqProofs [h1, h2, h3]
end
end Go.Ab
end

section
namespace Go.Ab
end Go.Ab
end

section
namespace Go.Ab
class CRef11b (T : Tbl) : Prop where
end Go.Ab
end

section
namespace Go.Ab
class CLaw11c (T : Tbl) : Prop where
end Go.Ab
end

section
namespace Go.Ab
class CRow5 (T : Tbl) : Prop where
end Go.Ab
end

section
namespace Go.Ab
class CFrac5 (T : Tbl) : Prop where
end Go.Ab
end

section
namespace Go.Ab
class CRef5 (T : Tbl) : Prop where
end Go.Ab
end

section
namespace Go.Ab
end Go.Ab
end

section
namespace Go.Ab
section
variable {T : Tbl} [CRef02 T] [CRef04 T] [CRef05 T] [CRef07 T] [CRef06 T] [CRef08 T] [CRef09 T] [CRef11 T]
def stZ1 (n i : Nat) : St := ⟨[(0, .i .i64 n), (3, .bs (.loc 3) 1 3 0 i), (4, .i .i64 i)], [(.loc 3, ⟨1, .own, 3, rowF (List.replicate i (fz 0))⟩)], 3⟩
def stN1 (l : List Fz) (i : Nat) : St := ⟨[(0, .sl (rowF l) .an), (3, .bs (.loc 3) 1 3 0 i), (4, .i .i64 i)], [(.loc 3, ⟨1, .own, 3, rowF (nrm (l.take i))⟩)], 3⟩
def stS1 (a b : List Fz) (i : Nat) : St := ⟨[(0, .sl (rowF a) .an), (1, .sl (rowF b) .an), (5, .i .i64 i)], [], 2⟩
def stA1 (p q : List Rat) (i : Nat) : St := ⟨[(0, .sl (rowF (fzs p)) .an), (1, .sl (rowF (fzs q)) .an), (5, .bs (.loc 5) 1 3 0 i), (6, .i .i64 i)], [(.loc 5, ⟨1, .own, 3, rowF (fzs ((addP p (fzs q)).take i))⟩)], 3⟩
def stD1 (p q : List Rat) (i : Nat) : St := ⟨[(0, .sl (rowF (fzs p)) .an), (1, .sl (rowF (fzs q)) .an), (4, .ptr (.loc 4) 1 3 0 0), (5, .ptr (.loc 5) 2 3 0 0), (6, .i .i64 i)],
 [(.loc 4, ⟨1, .str, 3, [nocell]⟩), (.loc 5, ⟨2, .str, 3, [celF (fz (dotK (fzs p) (fzs q) i))]⟩)], 4⟩
def longB (l : List Fz) (many words : Nat) : Bool := decide (many < l.length) || l.any fun x => decide (words < fsz x)
def stL1 (l : List Fz) (many words : Nat) (i : Nat) : St := ⟨[(0, .sl (rowF l) .an), (1, .i .i64 many), (2, .i .i64 words), (7, .i .i64 i)], [], 2⟩
end
end Go.Ab
end

section
namespace Go.Ab
def cap300 (n : Int) : Nat := (min (max n 0) 300).toNat
section
variable {T : Tbl} [CNat T] [CProd T] [CTwos T] [CQuot T] [CQuotD T] [CText T] [CWhole T] [CCommon T] [CFrac T] [CJoin T] [CRow T]
def unitR (n i : Int) : List Rat := if 0 ≤ i ∧ i < cap300 n then (List.replicate (cap300 n) 0).set i.toNat 1 else List.replicate (cap300 n) 0
end
section
variable {T : Tbl} [CRef02 T] [CRef04 T] [CRef05 T] [CRef07 T] [CRef06 T] [CRef08 T] [CRef09 T] [CRef11 T]
def stZ1x (n : Int) (i : Nat) : St := ⟨[(0, .i .i64 n), (3, .bs (.loc 3) 1 3 0 i), (4, .i .i64 i)], [(.loc 3, ⟨1, .own, 3, rowF (List.replicate i (fz 0))⟩)], 3⟩
end
end Go.Ab
end

section
namespace Go.Ab
class CGrid (T : Tbl) : Prop where
end Go.Ab
end

section
namespace Go.Ab
section
variable {T : Tbl} [CRef02 T] [CRef04 T] [CRef05 T] [CRef07 T] [CRef06 T] [CRef08 T] [CRef09 T] [CRef11 T] [CLaw09 T] [CLaw11 T]
theorem law09_to (x : Fz) : callF T 248 [efz x] = some (efz x) := by
 rw [f248 _ rfl, b248]
 simp -implicitDefEqProofs
def stTo11 (l : List Fz) (i : Nat) : St := ⟨[(0, .sl (rowF l) .an), (3, .bs (.loc 3) 1 3 0 i), (4, .i .i64 i)], [((.loc 3), ⟨1, .own, 3, rowF (l.take i)⟩)], 3⟩
def stOf11 (l : List Fz) (i : Nat) : St := ⟨[(0, .sl (rowF l) .an), (3, .bs (.loc 3) 1 3 0 i), (4, .i .i64 i)], [((.loc 3), ⟨1, .own, 3, rowF (l.take i)⟩)], 3⟩
end
end Go.Ab
end

section
namespace Go.Ab
def widthM : List (List Fz) → Nat
 | [] => 0
 | r :: _ => r.length
def rightM (m : List (List Fz)) : Bool := m.all fun r => decide (r.length = widthM m)
def colM (m : List (List Fz)) (j : Nat) : List Fz := m.map fun r => r.getD j (false, [], [])
def turnM (m : List (List Fz)) (k : Nat) : List (List Fz) := (List.range k).map fun j => nrm (colM m j)
def scM (r : List Fz) (m : List (List Fz)) : List (List Fz) := List.zipWith (fun x row => scl (fv x) row) r m
def sumM : List (List Fz) → List Rat
 | [] => []
 | r :: m => m.foldl addP (r.map fv)
def leftQ (r : List Fz) (m : List (List Fz)) : List Rat := sumM (scM r m)
def applyQ (m : List (List Fz)) (c : List Fz) : List Rat := m.map fun r => dotQ r c
section
variable {T : Tbl} [CNat T] [CProd T] [CTwos T] [CQuot T] [CQuotD T] [CText T] [CWhole T] [CCommon T] [CFrac T] [CJoin T] [CRow T] [CGrid T]
def stGrR (m : List (List Fz)) (i : Nat) : St := ⟨[(0, .sl (matF m) .an), (5, .sl (matF m) .an), (6, .i .i64 m.length), (7, .i .i64 i)], [], 2⟩
def stGrS (a b : List (List Fz)) (i : Nat) : St := ⟨[(1, .sl (matF b) .an), (12, .sl (matF a) .an), (13, .i .i64 a.length), (14, .i .i64 i)], [], 2⟩
def idQ (k : Nat) (i : Nat) : List (List Fz) := (List.range i).map fun j => fzs ((List.replicate k 0).set j 1)
def stGrI (k : Nat) (i : Nat) : St := ⟨[(0, .i .i64 k), (3, .bs (.loc 3) 1 1 0 i), (8, .i .i64 k), (9, .i .i64 i)], [((.loc 3), ⟨1, .own, 1, matF (idQ k i)⟩)], 3⟩
def stGrT (m R : List (List Fz)) (k j : Nat) (i : Nat) : St := ⟨[(0, .sl (matF m) .an), (3, .bs (.loc 3) 1 1 0 j), (4, .i .i64 j), (5, .bs (.loc 5) 2 3 0 i), (12, .i .i64 k), (13, .i .i64 j), (16, .sl (matF m) .an), (17, .i .i64 m.length), (18, .i .i64 i)], [(.loc 3, ⟨1, .own, 1, matF R⟩), ((.loc 5), ⟨2, .own, 3, rowF (nrm (colM (m.take i) j))⟩)], 4⟩
def stTo12t (m : List (List Fz)) (k : Nat) (i : Nat) : St := ⟨[(0, .sl (matF m) .an), (3, .bs (.loc 3) 1 1 0 i), (12, .i .i64 k), (13, .i .i64 i)], [((.loc 3), ⟨1, .own, 1, matF (turnM m i)⟩)], 3⟩
end
end Go.Ab
end

section
namespace Go.Ab
section
variable {T : Tbl} [CNat T] [CProd T] [CTwos T] [CQuot T] [CQuotD T] [CText T] [CWhole T] [CCommon T] [CFrac T] [CJoin T] [CRow T] [CGrid T]
def stGrL (r : List Fz) (m : List (List Fz)) (i : Nat) : St := ⟨[(0, .sl (rowF r) .an), (6, .bs (.loc 6) 1 1 0 i), (19, .sl (matF m) .an), (20, .i .i64 m.length), (21, .i .i64 i)], [((.loc 6), ⟨1, .own, 1, matF (scM (r.take i) (m.take i))⟩)], 3⟩
def stGrA (m : List (List Fz)) (c : List Fz) (i : Nat) : St := ⟨[(1, .sl (rowF c) .an), (6, .bs (.loc 6) 1 3 0 i), (21, .sl (matF m) .an), (22, .i .i64 m.length), (23, .i .i64 i)], [((.loc 6), ⟨1, .own, 3, rowF (fzs (applyQ (m.take i) c))⟩)], 3⟩
def mulM (a b : List (List Fz)) : List (List Fz) := a.map fun r => fzs (leftQ r b)
def stGrM (a m : List (List Fz)) (i : Nat) : St := ⟨[(1, .sl (matF m) .an), (6, .bs (.loc 6) 1 1 0 i), (26, .sl (matF a) .an), (27, .i .i64 a.length), (28, .i .i64 i)], [((.loc 6), ⟨1, .own, 1, matF (mulM (a.take i) m)⟩)], 3⟩
def addM (a b : List (List Fz)) : List (List Fz) := List.zipWith (fun r s => fzs (addP (r.map fv) s)) a b
def stGrP (a m : List (List Fz)) (i : Nat) : St := ⟨[(1, .sl (matF m) .an), (6, .bs (.loc 6) 1 1 0 i), (33, .sl (matF a) .an), (34, .i .i64 a.length), (35, .i .i64 i)], [((.loc 6), ⟨1, .own, 1, matF (addM (a.take i) (m.take i))⟩)], 3⟩
end
end Go.Ab
end

section
namespace Go.Ab
def dotR : List Rat → List Rat → Rat
 | x :: a, y :: b => x * y + dotR a b
 | _, _ => 0
def valM (m : List (List Fz)) : List (List Rat) := m.map fun r => r.map fv
def fzM (L : List (List Rat)) : List (List Fz) := L.map fzs
@[simp] theorem fzM_length (L : List (List Rat)) : (fzM L).length = L.length := by simp [fzM]
@[simp] theorem valM_length (m : List (List Fz)) : (valM m).length = m.length := by simp [valM]
@[simp] theorem valM_fzM (L : List (List Rat)) : valM (fzM L) = L := by
 unfold valM fzM
 rw [List.map_map]
 simp [Function.comp_def]
def widthQ : List (List Rat) → Nat
 | [] => 0
 | r :: _ => r.length
def rightQ (L : List (List Rat)) : Bool := L.all fun r => decide (r.length = widthQ L)
def colQ (L : List (List Rat)) (j : Nat) : List Rat := L.map fun p => p.getD j 0
def turnQ (L : List (List Rat)) : List (List Rat) := (List.range (widthQ L)).map (colQ L)
def applyR (L : List (List Rat)) (c : List Rat) : List Rat := L.map fun p => dotR p c
def leftR (r : List Rat) (L : List (List Rat)) : List Rat := applyR (turnQ L) r
end Go.Ab
end

section
namespace Go.Ab
def sclR (c : Rat) (l : List Rat) : List Rat := l.map fun x => c * x
def addR (a b : List Rat) : List Rat := List.zipWith (· + ·) a b
def maxStep (b x : Rat) : Rat := if b < absQ x then absQ x else b
def normR (l : List Rat) : Rat := l.foldl maxStep 0
def mixR : List (Rat × List Rat) → List Rat → List Rat
 | [], acc => acc
 | p :: l, acc => mixR l (addR acc (sclR p.1 p.2))
end Go.Ab
end

section
namespace Go.Ab
class CLaw12 (T : Tbl) : Prop where
end Go.Ab
end

section
namespace Go.Ab
class CRef12 (T : Tbl) : Prop where
end Go.Ab
end

section
namespace Go.Ab
section
variable {T : Tbl} [CRef02 T] [CRef04 T] [CRef05 T] [CRef07 T] [CRef06 T] [CRef08 T] [CRef09 T] [CRef11 T] [CRef12 T]
def stR12 (m : List (List Fz)) (i : Nat) : St := ⟨[(0, .sl (matF m) .an), (3, .i .i64 i)], [], 2⟩
def stN12 (m : List (List Fz)) (i : Nat) : St := ⟨[(0, .sl (matF m) .an), (3, .bs (.loc 3) 1 1 0 i), (4, .i .i64 i)], [((.loc 3), ⟨1, .own, 1, matF (fzM (valM (m.take i)))⟩)], 3⟩
def stS12 (a b : List (List Fz)) (i : Nat) : St := ⟨[(0, .sl (matF a) .an), (1, .sl (matF b) .an), (5, .i .i64 i)], [], 2⟩
def stI12 (n : Int) (k : Nat) (i : Nat) : St := ⟨[(0, .i .i64 n), (3, .bs (.loc 3) 1 1 0 i), (4, .i .i64 i)], [((.loc 3), ⟨1, .own, 1, matF (idQ k i)⟩)], 3⟩
def stT12i (L : List (List Rat)) (R : List (List Fz)) (j : Nat) (i : Nat) : St := ⟨[(0, .sl (matF (fzM L)) .an), (3, .bs (.loc 3) 1 1 0 j), (4, .i .i64 j), (5, .bs (.loc 5) 2 3 0 i), (6, .i .i64 i)], [(.loc 3, ⟨1, .own, 1, matF R⟩), ((.loc 5), ⟨2, .own, 3, rowF (fzs (colQ (L.take i) j))⟩)], 4⟩
def stT12o (L : List (List Rat)) (i : Nat) : St := ⟨[(0, .sl (matF (fzM L)) .an), (3, .bs (.loc 3) 1 1 0 i), (4, .i .i64 i)], [((.loc 3), ⟨1, .own, 1, matF (fzM ((List.range i).map (colQ L)))⟩)], 3⟩
def stA12 (L : List (List Rat)) (c : List Rat) (i : Nat) : St := ⟨[(0, .sl (matF (fzM L)) .an), (1, .sl (rowF (fzs c)) .an), (5, .bs (.loc 5) 1 3 0 i), (6, .i .i64 i)], [((.loc 5), ⟨1, .own, 3, rowF (fzs (applyR (L.take i) c))⟩)], 3⟩
def longM (m : List (List Fz)) (many words : Nat) : Bool := decide (many < m.length) || m.any fun r => longB r many words
def stL12 (m : List (List Fz)) (many words : Nat) (i : Nat) : St := ⟨[(0, .sl (matF m) .an), (1, .i .i64 many), (2, .i .i64 words), (7, .i .i64 i)], [], 2⟩
end
end Go.Ab
end

section
namespace Go.Ab
section
variable {T : Tbl} [CNat T] [CProd T] [CTwos T] [CQuot T] [CQuotD T] [CText T] [CWhole T] [CCommon T] [CFrac T] [CJoin T] [CRow T] [CGrid T] [CRef02 T] [CRef04 T] [CRef05 T] [CRef07 T] [CRef06 T] [CRef08 T] [CRef09 T] [CRef11 T] [CRef12 T] [CLaw09 T] [CLaw11 T] [CLaw12 T]
def stTo12 (m : List (List Fz)) (i : Nat) : St := ⟨[(0, .sl (matF m) .an), (3, .bs (.loc 3) 1 1 0 i), (4, .i .i64 i)], [((.loc 3), ⟨1, .own, 1, matF (m.take i)⟩)], 3⟩
def stI12s (a b : List (List Fz)) (i : Nat) : St := ⟨[(0, .sl (matF a) .an), (1, .sl (matF b) .an), (5, .i .i64 i)], [], 2⟩
theorem szle1 {q : Rat} (h1 : q.num.natAbs < 4294967296) (h2 : q.den < 4294967296) : sz q ≤ 1 := Nat.max_le.2 ⟨ofN_length_le' (by simpa using h1), ofN_length_le' (by simpa using h2)⟩
end
end Go.Ab
end

section
namespace Go.Ab
class CPoly (T : Tbl) : Prop where
end Go.Ab
end

section
namespace Go.Ab
def tlen (l : List Rat) : Nat → Nat
 | 0 => 0
 | n + 1 => if l.getD n 0 = 0 then tlen l n else n + 1
def trimR (l : List Rat) : List Rat := l.take (tlen l l.length)
section
variable {T : Tbl} [CNat T] [CProd T] [CTwos T] [CQuot T] [CQuotD T] [CText T] [CWhole T] [CCommon T] [CFrac T] [CJoin T] [CRow T] [CPoly T]
def evlR : List Rat → Rat → Rat
 | [], _ => 0
 | a :: l, x => evlR l x * x + a
def dif (l : List Rat) : List Rat := (List.range (l.length - 1)).map fun (i : Nat) => (((i : Int) + 1 : Int) : Rat) * l.getD (i + 1) 0
def stDf (l : List Fz) (i : Nat) : St := ⟨[(0, .sl (rowF l) .an), (3, .bs (.loc 3) 1 3 0 i), (4, .i .i64 ((i : Int) + 1))], [((.loc 3), ⟨1, .own, 3, rowF (fzs ((dif (l.map fv)).take i))⟩)], 3⟩
end
end Go.Ab
end

section
namespace Go.Ab
def sizF (x : Fz) : Nat := blen (val x.2.1) + blen (val x.2.2)
def sizL (l : List Fz) : Nat := l.foldl (fun n x => max n (sizF x)) 0
section
variable {T : Tbl} [CLimb T] [CNat T] [CProd T] [CTwos T] [CQuot T] [CQuotD T] [CText T] [CWhole T] [CCommon T] [CFrac T] [CFrac2 T] [CFrac5 T] [CPow T] [CJoin T] [CRow T] [CRow5 T]
def bestI (b c : Rat) (i : Nat) : Rat := if i = 0 then 0 else if i = 1 then b else (if b < c then c else b)
def stMx (b c : Rat) (i : Nat) : St := ⟨[(2, .ptr (.loc 2) 1 3 0 0), (3, .ptr (.loc 3) 2 3 0 0), (7, .sl [celF (fz b), celF (fz c)] .an), (8, .i .i64 2), (9, .i .i64 i)],
 [(.loc 2, ⟨1, .str, 3, [nocell]⟩), (.loc 3, ⟨2, .str, 3, [celF (fz (bestI b c i))]⟩)], 4⟩
def stRn (l : List Fz) (i : Nat) : St := ⟨[(2, .ptr (.loc 2) 1 3 0 0), (3, .ptr (.loc 3) 2 3 0 0), (7, .sl (rowF l) .an), (8, .i .i64 l.length), (9, .i .i64 i)],
 [(.loc 2, ⟨1, .str, 3, [nocell]⟩), (.loc 3, ⟨2, .str, 3, [celF (fz (normR ((l.map fv).take i)))]⟩)], 4⟩
def stRs (l : List Fz) (i : Nat) : St := ⟨[(3, .i .i64 (sizL (l.take i))), (6, .sl (rowF l) .an), (7, .i .i64 l.length), (8, .i .i64 i)], [], 2⟩
end
section
variable {T : Tbl} [CRef02 T] [CRef04 T] [CRef05 T] [CRef07 T] [CRef06 T] [CRef08 T] [CRef09 T] [CRef11 T] [CRef5 T]
def stSc (c : Rat) (p : List Rat) (i : Nat) : St := ⟨[(1, .sl (rowF (fzs p)) .an), (2, .ptr (.loc 2) 1 3 0 0), (5, .bs (.loc 5) 2 3 0 i), (6, .i .i64 i)],
 [(.loc 2, ⟨1, .str, 3, [celF (fz c)]⟩), (.loc 5, ⟨2, .own, 3, rowF (fzs ((sclR c p).take i))⟩)], 4⟩
def stRx (p : List Rat) (i : Nat) : St := ⟨[(0, .sl (rowF (fzs p)) .an), (2, .ptr (.loc 2) 1 3 0 0), (3, .ptr (.loc 3) 2 3 0 0), (4, .i .i64 i)],
 [(.loc 2, ⟨1, .str, 3, [nocell]⟩), (.loc 3, ⟨2, .str, 3, [celF (fz (normR (p.take i)))]⟩)], 4⟩
end
end Go.Ab
end

section
namespace Go.Ab
class CLaw11b (T : Tbl) : Prop where
end Go.Ab
end

section
namespace Go.Ab
end Go.Ab
end

section
namespace Go.Ab
section
variable {T : Tbl} [CLimb T] [CNat T] [CProd T] [CTwos T] [CQuot T] [CQuotD T] [CDigits T] [CText T] [CWhole T] [CCommon T] [CFrac T] [CFrac2 T] [CFrac5 T] [CStr T] [CSplit T] [CPow T] [CFig T] [CJoin T] [CRow T] [CRow2 T] [CRow5 T] [CRef02 T] [CRef04 T] [CRef05 T] [CRef07 T] [CRef06 T] [CRef08 T] [CRef09 T] [CRef11 T] [CRef5 T] [CLaw09 T] [CLaw11 T] [CLaw11b T] [CLaw11c T]
def stSz (l : List Fz) (i : Nat) : St := ⟨[(0, .sl (rowF l) .an), (3, .i .i64 (sizL (l.take i))), (4, .i .i64 i)], [], 2⟩
end
end Go.Ab
end

section
namespace Go.Ab
section
variable {T : Tbl} [CRef02 T] [CRef04 T] [CRef05 T] [CRef07 T] [CRef06 T] [CRef08 T] [CRef09 T] [CRef10 T] [CRef11 T] [CRef11b T]
def stR11 (s : List UInt8) (y : Nat × Nat × List Rat) : St :=
 ⟨[(0, .s s), (5, .bs (.loc 5) 1 3 0 y.2.2.length), (6, .i .i64 y.2.1), (7, .i .i64 y.1)], [(.loc 5, ⟨1, .own, 3, rowF (fzs y.2.2)⟩)], 3⟩
def resR11 (r : List Rat × Int × Int) : Option (Ex × St) :=
 if r.2.1 = 0 then some (.n, ⟨[(5, .bs (.loc 5) 1 3 0 r.1.length)], [(.loc 5, ⟨1, .own, 3, rowF (fzs r.1)⟩)], 3⟩)
 else some (.r, ⟨[(2, .sl [] .an), (3, .i .i64 r.2.1), (4, .i .i64 r.2.2)], [], 2⟩)
def restR11 (s : List UInt8) (y : Nat × Nat × List Rat) : List Rat × Int × Int :=
 if y.1 ≤ s.length then readL (splitC 44 (s.drop y.2.1)) y.2.1 y.2.2 else (y.2.2, 0, 0)
def piece (s : List UInt8) (i from_ : Nat) : List UInt8 := (s.drop from_).take (i - from_)
end
end Go.Ab
end

section
namespace Go.Ab
end Go.Ab
end

section
namespace Go.Ab
theorem textN_one {n : Nat} (h : n < 10) : textN n = [UInt8.ofNat (48 + n)] := textN_small h
section
variable {T : Tbl} [CLimb T] [CNat T] [CProd T] [CTwos T] [CQuot T] [CQuotD T] [CDigits T] [CText T] [CWhole T] [CCommon T] [CFrac T] [CFrac2 T] [CStr T] [CSplit T] [CPow T] [CFig T] [CJoin T] [CRow T] [CRow2 T] [CLaw10 T]
theorem law10_works : callF T 333 [] = some (.b true) := by
 have a1 := fig_readT (T := T) [45, 49, 46, 50, 53] (by decide)
 have a2 := fig_readT (T := T) [49, 47, 48] (by decide)
 have e1 : figR [45, 49, 46, 50, 53] = (-5/4, 0, 0) := by decide +kernel
 have e2 : figR [49, 47, 48] = (0, 2, 2) := by decide +kernel
 rw [e1] at a1
 rw [e2] at a2
 have s1 : sz (-5/4) ≤ 1 := szle1 (by decide +kernel) (by decide +kernel)
 have t1 := figure_text (T := T) (fz (-5/4)) (by rw [fsz_fz]; omega)
 have r1 := fig_round (T := T) (fz (-5/4)) (by rw [fsz_fz]; omega) 1
 rw [fv_fz] at t1 r1
 have w1 : textQ (-5/4) = [45, 53, 47, 52] := by
  unfold textQ textZ
  rw [if_neg (by decide +kernel), if_pos (by decide +kernel), show (-5/4 : Rat).num.natAbs = 5 by decide +kernel, show (-5/4 : Rat).den = 4 by decide +kernel, textN_one (by decide), textN_one (by decide)]
  rfl
 have w2 : roundQ (-5/4) (cap60 1) = [45, 49, 46, 51] := by
  have c : cap60 1 = 1 := by decide
  have rn : rndN (-5/4) 1 = 13 := by decide +kernel
  rw [c]
  unfold roundQ
  rw [rn, if_pos (by decide +kernel), if_pos (by decide), show 13 / 10 ^ 1 = 1 by decide, show 13 % 10 ^ 1 = 3 by decide, textN_one (by decide), textN_one (by decide)]
  rfl
 rw [w1] at t1
 rw [w2] at r1
 clear e1 e2 s1 w1 w2
 generalize fz (-5/4) = A at *
 generalize fz 0 = B at *
 rw [f333 _ rfl, b333]
 simp -implicitDefEqProofs [a1, a2, t1, r1]
end
end Go.Ab
end

section
namespace Go.Ab
theorem pad_len {p : Nat} {l : List UInt8} (h : l.length ≤ p) : (padZ p l).length = p := by
 unfold padZ
 simp
 omega
theorem pad_dig {p : Nat} {l : List UInt8} (h : Dig l) : Dig (padZ p l) := by
 intro c hc
 unfold padZ at hc
 rcases List.mem_append.1 hc with hc | hc
 ·rw [List.eq_of_mem_replicate hc]
  decide
 ·exact h c hc
theorem rd_zeros : ∀ k, rd (List.replicate k 48) = 0
 | 0 => rfl
 | k + 1 => by
  rw [List.replicate_succ', rd_snoc, rd_zeros k]
  rfl
theorem pad_rd (p : Nat) (l : List UInt8) : rd (padZ p l) = rd l := by
 unfold padZ
 rw [rd_append, rd_zeros, Nat.zero_mul, Nat.zero_add]
theorem sgn_read {neg : Bool} {k : Nat} (hl : (textN k).length ≤ 60) : wrongZ ((if neg = true then [45] else []) ++ textN k) = -1 ∧ readZ ((if neg = true then [45] else []) ++ textN k) = sg neg k := by
 unfold wrongZ readZ
 cases neg with
 | true =>
  simp only [if_true, List.singleton_append, List.head?_cons, List.tail_cons, decide_true]
  rw [rd_textN]
  exact ⟨wrongI_dig (textN_dig _) (textN_ne _) hl, rfl⟩
 | false =>
  have h1 := dig_head (textN_dig k)
  simp only [Bool.false_eq_true, if_false, List.nil_append, h1, decide_false]
  rw [rd_textN]
  exact ⟨wrongI_dig (textN_dig _) (textN_ne _) hl, rfl⟩
theorem sgn_nocut {neg : Bool} {k : Nat} : NoCut ((if neg = true then [45] else []) ++ textN k) := by
 intro c hc
 rcases List.mem_append.1 hc with hc | hc
 ·split at hc
  ·rw [List.mem_singleton] at hc
   rw [hc]
   rfl
  ·cases hc
 ·exact dig_nocut (textN_dig k) c hc
theorem figR_round (q : Rat) (p : Nat) (hp : p ≤ 60) (hl : (textN (rndN q p / 10 ^ p)).length ≤ 60) : figR (roundQ q p) = (mkRat (sg (decide (q < 0)) (rndN q p)) (10 ^ p), 0, 0) := by
 unfold roundQ
 generalize rndN q p = N at *
 obtain ⟨neg, hneg⟩ : ∃ neg : Bool, neg = decide (q < 0 ∧ N ≠ 0) := ⟨_, rfl⟩
 have e1 : (if q < 0 ∧ N ≠ 0 then ([45] : List UInt8) else []) = if neg = true then [45] else [] := by
  rw [hneg]
  by_cases h : q < 0 ∧ N ≠ 0
  ·rw [if_pos h, if_pos (decide_eq_true h)]
  ·rw [if_neg h, if_neg (by simpa using h)]
 have e2 : sg (decide (q < 0)) N = sg neg N := by
  rw [hneg]
  by_cases h : q < 0
  ·by_cases h2 : N = 0
   ·subst h2
    simp [sg]
   ·simp [h, h2]
  ·simp [h]
 rw [e1, e2]
 clear e1 e2 hneg
 obtain ⟨w1, w2⟩ := sgn_read (neg := neg) hl
 have hnc := sgn_nocut (neg := neg) (k := N / 10 ^ p)
 have hab : (sg neg (N / 10 ^ p)).natAbs = N / 10 ^ p := sg_abs _ _
 have hnh : ∀ l : List UInt8, (((if neg = true then [45] else []) ++ textN (N / 10 ^ p)) ++ l).head? = some 45 ↔ neg = true := by
  intro l
  cases neg with
  | true => simp
  | false =>
   have h1 := dig_head (textN_dig (N / 10 ^ p))
   have h2 := textN_ne (N / 10 ^ p)
   simp only [Bool.false_eq_true, if_false, List.nil_append, iff_false]
   cases ht : textN (N / 10 ^ p) with
   | nil => exact absurd ht h2
   | cons c r => rw [ht] at h1; simpa using h1
 by_cases hp0 : 0 < p
 ·rw [if_pos hp0]
  have tr : (textN (N % 10 ^ p)).length ≤ p := by
   obtain ⟨k, rfl⟩ : ∃ k, p = k + 1 := ⟨p - 1, by omega⟩
   exact textN_len (Nat.mod_lt _ (Nat.pow_pos (by decide)))
  have hpl := pad_len tr
  have hpd := pad_dig (p := p) (textN_dig (N % 10 ^ p))
  have hpr := pad_rd p (textN (N % 10 ^ p))
  rw [rd_textN] at hpr
  have hpn : padZ p (textN (N % 10 ^ p)) ≠ [] := by
   intro h
   rw [h] at hpl
   simp at hpl
   omega
  have hpw := wrongI_dig hpd hpn (by omega)
  have hh := hnh (46 :: padZ p (textN (N % 10 ^ p)))
  rw [← List.append_assoc]
  generalize padZ p (textN (N % 10 ^ p)) = R at *
  generalize (if neg = true then ([45] : List UInt8) else []) ++ textN (N / 10 ^ p) = F at *
  have hc := cutN_at (l := F) 46 R hnc rfl
  have ht : (F ++ 46 :: R).take (cutN (F ++ 46 :: R)) = F := by rw [hc]; exact List.take_left
  have hlt : cutN (F ++ 46 :: R) < (F ++ 46 :: R).length := by rw [hc]; simp
  have hg : (F ++ 46 :: R).getD (cutN (F ++ 46 :: R)) 0 = 46 := by rw [hc]; simp
  have hdr : (F ++ 46 :: R).drop (cutN (F ++ 46 :: R) + 1) = R := by
   rw [hc, List.drop_append]
   simp
  unfold figR
  simp only [ht, w1, w2, hg, if_pos hlt, show ¬ ((0 : Int) ≤ -1) by decide, if_false]
  unfold figB
  simp only [hdr, hpw, show ¬ ((0 : Int) ≤ -1) by decide, if_false, show ¬ ((46 : UInt8) = 47) by decide, hab, hpl, hpr]
  have e3 : N / 10 ^ p * 10 ^ p + N % 10 ^ p = N := Nat.div_add_mod' N (10 ^ p)
  rw [e3]
  have e4 : decide ((F ++ 46 :: R).head? = some 45) = neg := by
   rw [Bool.eq_iff_iff, decide_eq_true_eq]
   exact hh
  rw [e4]
 ·rw [if_neg hp0, List.append_nil]
  have hp1 : p = 0 := by omega
  subst hp1
  simp only [Nat.pow_zero, Nat.div_one] at *
  generalize (if neg = true then ([45] : List UInt8) else []) ++ textN N = F at *
  have hc := cutN_none hnc
  unfold figR
  simp only [hc, List.take_length, w1, w2, Nat.lt_irrefl, if_false, show ¬ ((0 : Int) ≤ -1) by decide]
theorem near_law (q : Rat) (p : Nat) : (absQ (mkRat (sg (decide (q < 0)) (rndN q p)) (10 ^ p) - q) + absQ (mkRat (sg (decide (q < 0)) (rndN q p)) (10 ^ p) - q)) * ((10 ^ p : Nat) : Rat) ≤ 1 := by
 have hP : (0 : Rat) < ((10 ^ p : Nat) : Rat) := by
  have : 0 < 10 ^ p := Nat.pow_pos (by decide)
  exact_mod_cast this
 have h0 := rnd_nonneg q p
 have h1 := Rat.floor_le (absQ q * mkRat (10 ^ p : Nat) 1 + 1 / 2)
 have h2 := Rat.lt_floor_add_one (absQ q * mkRat (10 ^ p : Nat) 1 + 1 / 2)
 have hN : (absQ q * mkRat (10 ^ p : Nat) 1 + 1 / 2).floor = (rndN q p : Int) := by unfold rndN; omega
 rw [hN] at h1 h2
 have hm : mkRat ((10 ^ p : Nat) : Int) 1 = ((10 ^ p : Nat) : Rat) := by
  rw [Rat.mkRat_eq_div]
  have : (((1 : Nat)) : Rat) = 1 := rfl
  rw [this]
  have e : (((10 ^ p : Nat) : Int) : Rat) = ((10 ^ p : Nat) : Rat) := rfl
  rw [e]
  grind
 rw [hm] at h1 h2
 have hs : mkRat (sg (decide (q < 0)) (rndN q p)) (10 ^ p) * ((10 ^ p : Nat) : Rat) = ((sg (decide (q < 0)) (rndN q p) : Int) : Rat) := by
  rw [Rat.mkRat_eq_div]
  grind
 generalize mkRat (sg (decide (q < 0)) (rndN q p)) (10 ^ p) = B at *
 generalize rndN q p = N at *
 clear h0 hN hm
 have e1 : (((N : Int) + 1 : Int) : Rat) = ((N : Int) : Rat) + 1 := by
  rw [Rat.intCast_add]
  rfl
 rw [e1] at h2
 have e2 : ((sg (decide (q < 0)) N : Int) : Rat) = if q < 0 then -((N : Int) : Rat) else ((N : Int) : Rat) := by
  unfold sg
  by_cases h : q < 0
  ·simp only [h, decide_true, if_true]
   rw [Rat.intCast_neg]
  ·simp [h]
 rw [e2] at hs
 clear e1 e2
 generalize ((N : Int) : Rat) = M at *
 generalize ((10 ^ p : Nat) : Rat) = P at *
 have ha : absQ (B - q) * P = absQ ((B - q) * P) := by
  unfold absQ
  by_cases h : B - q < 0
  ·have h3 : (B - q) * P < 0 := by
    have := Rat.mul_pos (a := -(B - q)) (b := P) (by grind) hP
    grind
   rw [if_pos h, if_pos h3]
   grind
  ·have h3 : ¬ (B - q) * P < 0 := by
    have := Rat.mul_nonneg (a := B - q) (b := P) (by grind) (Rat.le_of_lt hP)
    grind
   rw [if_neg h, if_neg h3]
 have hb : (B - q) * P = B * P - q * P := by grind
 have hhalf : absQ ((B - q) * P) ≤ 1 / 2 := by
  rw [hb, hs]
  unfold absQ at h1 h2 ⊢
  split at h1 <;> split <;> simp_all <;> grind
 have : (absQ (B - q) + absQ (B - q)) * P = absQ (B - q) * P + absQ (B - q) * P := by grind
 rw [this, ha]
 grind
end Go.Ab
end

section
namespace Go.Ab
theorem absQ_le_num (q : Rat) : absQ q ≤ ((q.num.natAbs : Nat) : Rat) := by
 have hd : (1 : Rat) ≤ ((q.den : Nat) : Rat) := by
  have : 1 ≤ q.den := q.den_pos
  exact_mod_cast this
 have hd0 : (0 : Rat) < ((q.den : Nat) : Rat) := by grind
 have h2 : q * ((q.den : Nat) : Rat) = (q.num : Rat) := by
  have hne : ((q.den : Nat) : Rat) ≠ 0 := by grind
  have hx : mkRat q.num q.den * ((q.den : Nat) : Rat) = (q.num : Rat) := by
   rw [Rat.mkRat_eq_div]
   grind
  rw [Rat.mkRat_self] at hx
  exact hx
 have h0 := absQ_nonneg q
 have h3 : absQ q * ((q.den : Nat) : Rat) = ((q.num.natAbs : Nat) : Rat) := by
  unfold absQ
  split
  ·next h =>
   have hn : q.num < 0 := sgI_neg.1 (sgQ_neg.2 h)
   have e : (((q.num.natAbs : Nat) : Int) : Rat) = ((-q.num : Int) : Rat) := by
    congr 1
    omega
   have e2 : ((-q.num : Int) : Rat) = -(q.num : Rat) := by simp
   have e3 : ((q.num.natAbs : Nat) : Rat) = (((q.num.natAbs : Nat) : Int) : Rat) := rfl
   rw [e3, e, e2]
   grind
  ·next h =>
   have hn : 0 ≤ q.num := by
    rcases Int.lt_or_le q.num 0 with h4 | h4
    ·exact absurd (sgQ_neg.1 (sgI_neg.2 h4)) h
    ·exact h4
   have e : (((q.num.natAbs : Nat) : Int) : Rat) = ((q.num : Int) : Rat) := by
    congr 1
    omega
   have e3 : ((q.num.natAbs : Nat) : Rat) = (((q.num.natAbs : Nat) : Int) : Rat) := rfl
   rw [e3, e]
   exact h2
 have h4 : absQ q * 1 ≤ absQ q * ((q.den : Nat) : Rat) := Rat.mul_le_mul_of_nonneg_left hd h0
 grind
theorem rndN_lt (q : Rat) (p : Nat) : rndN q p < (q.num.natAbs + 2) * 10 ^ p := by
 have h1 := absQ_le_num q
 have hP : (1 : Rat) ≤ ((10 ^ p : Nat) : Rat) := by
  have : 1 ≤ 10 ^ p := Nat.pow_pos (by decide)
  exact_mod_cast this
 have em : mkRat ((10 ^ p : Nat) : Int) 1 = ((10 ^ p : Nat) : Rat) := by
  rw [Rat.mkRat_one]
  rfl
 have h2 := Rat.floor_le (absQ q * mkRat ((10 ^ p : Nat) : Int) 1 + 1 / 2)
 have h0 := rnd_nonneg q p
 have h3 : ((rndN q p : Nat) : Rat) ≤ absQ q * ((10 ^ p : Nat) : Rat) + 1 / 2 := by
  have e : ((rndN q p : Nat) : Rat) = (((absQ q * mkRat ((10 ^ p : Nat) : Int) 1 + 1 / 2).floor : Int) : Rat) := by
   have e1 : ((rndN q p : Nat) : Int) = (absQ q * mkRat ((10 ^ p : Nat) : Int) 1 + 1 / 2).floor := by
    unfold rndN
    exact Int.toNat_of_nonneg h0
   have e3 : ((rndN q p : Nat) : Rat) = (((rndN q p : Nat) : Int) : Rat) := rfl
   rw [e3, e1]
  rw [e, ← em]
  exact h2
 have h4 : absQ q * ((10 ^ p : Nat) : Rat) ≤ ((q.num.natAbs : Nat) : Rat) * ((10 ^ p : Nat) : Rat) := Rat.mul_le_mul_of_nonneg_right h1 (by grind)
 have h5 : ((rndN q p : Nat) : Rat) < (((q.num.natAbs + 2) * 10 ^ p : Nat) : Rat) := by
  have e : (((q.num.natAbs + 2) * 10 ^ p : Nat) : Rat) = (((q.num.natAbs : Nat) : Rat) + 2) * ((10 ^ p : Nat) : Rat) := by
   rw [Rat.natCast_mul, Rat.natCast_add]
   rfl
  rw [e]
  grind
 exact_mod_cast h5
end Go.Ab
namespace Go.Ab
theorem roundQ_len (q : Rat) (p : Nat) (h : (textN (rndN q p / 10 ^ p)).length ≤ 60) : (roundQ q p).length ≤ 62 + p := by
 unfold roundQ
 generalize rndN q p = N at *
 have h1 : ∀ b : Prop, [Decidable b] → (if b then ([45] : List UInt8) else []).length ≤ 1 := by
  intro b _
  split <;> simp
 have h2 : (if 0 < p then 46 :: padZ p (textN (N % 10 ^ p)) else ([] : List UInt8)).length ≤ 1 + p := by
  split
  ·next hp =>
   obtain ⟨k, rfl⟩ : ∃ k, p = k + 1 := ⟨p - 1, by omega⟩
   have h3 := textN_len (n := N % 10 ^ (k + 1)) (k := k) (Nat.mod_lt _ (Nat.pow_pos (by decide)))
   have h4 := pad_len h3
   simp only [List.length_cons, h4]
   omega
  ·simp
 have h3 := h1 (q < 0 ∧ N ≠ 0)
 simp only [List.length_append]
 omega
section
variable {T : Tbl} [CLimb T] [CNat T] [CProd T] [CTwos T] [CQuot T] [CQuotD T] [CDigits T] [CText T] [CWhole T] [CCommon T] [CFrac T] [CFrac2 T] [CStr T] [CSplit T] [CPow T] [CFig T] [CJoin T] [CRow T] [CRow2 T] [CRef02 T] [CRef04 T] [CRef05 T] [CRef07 T] [CRef06 T] [CRef08 T] [CRef09 T] [CRef11 T] [CLaw09 T] [CLaw11 T] [CLaw10 T]
def twP (t : Rat) (i : Nat) : Rat := t * ((10 ^ i : Nat) : Rat)
theorem twP_succ (t : Rat) (i : Nat) : twP t (i + 1) = twP t i * ((10 : Int) : Rat) := by
 unfold twP
 rw [Nat.pow_succ, Rat.natCast_mul]
 have : ((10 : Nat) : Rat) = ((10 : Int) : Rat) := rfl
 grind
theorem twP_sz (t : Rat) {B : Nat} (h : sz t ≤ B) : ∀ i, sz (twP t i) ≤ B + i
 | 0 => by
  have : twP t 0 = t := by
   unfold twP
   have : ((10 ^ 0 : Nat) : Rat) = 1 := rfl
   rw [this]
   grind
  rw [this]
  omega
 | i + 1 => by
  rw [twP_succ]
  have h1 := twP_sz t h i
  have h2 := sz_mul (twP t i) ((10 : Int) : Rat)
  have h3 : sz ((10 : Int) : Rat) ≤ 1 := szle1 (by decide +kernel) (by decide +kernel)
  omega
def stNr (n : Int) (t : Rat) (i : Nat) : St := ⟨[(1, .i .i64 n), (7, .ptr (.loc 7) 1 4 0 0), (9, .ptr (.loc 9) 2 3 0 0), (10, .i .i64 i)],
 [(.loc 7, ⟨1, .str, 4, [[.i .i64 0, .i .i64 0, .i .i64 0, .i .i64 0]]⟩), (.loc 9, ⟨2, .str, 3, [celF (fz (twP t i))]⟩)], 4⟩
theorem nr_loop (t : Rat) (ht : sz t ≤ 100) (p : Nat) (hp : p ≤ 20) : loopN T 0 0 (.norm false [7, 9]) l320_0 (stNr p t 0) = some (.n, ⟨[(7, .ptr (.loc 7) 1 4 0 0), (9, .ptr (.loc 9) 2 3 0 0)],
  [(.loc 7, ⟨1, .str, 4, [[.i .i64 0, .i .i64 0, .i .i64 0, .i .i64 0]]⟩), (.loc 9, ⟨2, .str, 3, [celF (fz (twP t p))]⟩)], 4⟩) := by
 refine range_loop (stNr p t) p _ (fun i hi => ?_) ?_
 ·have hws := wrapS hi (by omega)
  have hi' : (i : Int) < p := by omega
  have k10 := frac_of (T := T) 10 (by decide) (by decide)
  have hz := twP_sz t ht i
  have z10 : sz ((10 : Int) : Rat) ≤ 1 := szle1 (by decide +kernel) (by decide +kernel)
  have m := frac_mul (T := T) (fz (twP t i)) (fz ((10 : Int) : Rat)) (by rw [fsz_fz]; omega) (by rw [fsz_fz]; omega)
  rw [fv_fz, fv_fz, ← twP_succ] at m
  unfold stNr
  clear hz z10
  generalize fz (twP t (i + 1)) = X at *
  generalize fz (twP t i) = Y at *
  generalize fz ((10 : Int) : Rat) = Z at *
  simp -implicitDefEqProofs [l320_0, hi, hi', hws, k10, m]
 ·unfold stNr
  generalize fz (twP t p) = X at *
  constructor <;> simp -implicitDefEqProofs [l320_0]
theorem law10_near (a : Fz) (n : Int) : callF T 320 [efz a, .i .i64 n] = some (.b true) := by
 have hw := law10_works (T := T)
 have cl := ref09_long (T := T) a 3
 simp only [Int.cast_ofNat_Int] at cl
 rw [f320 _ rfl, b320]
 by_cases hL : 3 < fsz a
 ·rw [decide_eq_true hL] at cl
  simp -implicitDefEqProofs [hw, cl]
 rw [decide_eq_false hL] at cl
 by_cases hn0 : n < 0
 ·simp -implicitDefEqProofs [hw, cl, hn0]
 by_cases hn1 : 20 < n
 ·simp -implicitDefEqProofs [hw, cl, hn0, hn1]
 obtain ⟨p, rfl⟩ : ∃ p : Nat, n = p := ⟨n.toNat, by omega⟩
 have hp : p ≤ 20 := by omega
 have t1 := law09_to (T := T) a
 have zq := sz_fv (x := a) (L := 3) (by omega) (by decide)
 have r1 := fig_round (T := T) a (by omega) (p : Int)
 have ec : cap60 (p : Int) = p := by unfold cap60; omega
 rw [ec] at r1
 obtain ⟨q, hq⟩ : ∃ q, q = fv a := ⟨_, rfl⟩
 rw [← hq] at r1 zq
 have zn := sz_num q
 have hA : q.num.natAbs < 4294967296 ^ 3 := by
  have h1 := val_lt (ofN q.num.natAbs)
  rw [val_ofN] at h1
  exact Nat.lt_of_lt_of_le h1 (Nat.pow_le_pow_right (by decide) (by omega))
 have hN := rndN_lt q p
 have hP : 0 < 10 ^ p := Nat.pow_pos (by decide)
 have hP2 : 10 ^ p ≤ 10 ^ 20 := Nat.pow_le_pow_right (by decide) hp
 have hq1 : rndN q p / 10 ^ p < 10 ^ 30 := by
  have h1 : rndN q p / 10 ^ p < q.num.natAbs + 2 := (Nat.div_lt_iff_lt_mul hP).2 hN
  have h2 : (4294967296 : Nat) ^ 3 + 2 ≤ 10 ^ 30 := by decide
  omega
 have hl1 : (textN (rndN q p / 10 ^ p)).length ≤ 60 := Nat.le_trans (textN_len (k := 29) hq1) (by decide)
 have r2 := fig_readT (T := T) (roundQ q p) (by have := roundQ_len q p hl1; omega)
 rw [figR_round q p (by omega) hl1] at r2
 have zr : sz (mkRat (sg (decide (q < 0)) (rndN q p)) (10 ^ p)) ≤ 6 := by
  refine sz_mk ?_ (ofN_length_le' ?_) (by decide)
  ·rw [sg_abs]
   refine ofN_length_le' ?_
   have h1 : (q.num.natAbs + 2) * 10 ^ p ≤ (4294967296 ^ 3 + 2) * 10 ^ 20 := Nat.mul_le_mul (by omega) hP2
   have h2 : ((4294967296 : Nat) ^ 3 + 2) * 10 ^ 20 ≤ 4294967296 ^ 6 := by decide
   omega
  ·have h2 : (10 : Nat) ^ 20 < 4294967296 ^ 6 := by decide
   omega
 have law := near_law q p
 simp only at r2
 generalize mkRat (sg (decide (q < 0)) (rndN q p)) (10 ^ p) = r at *
 have s1 := frac_sub (T := T) (fz r) a (by rw [fsz_fz]; omega) (by omega)
 rw [fv_fz, ← hq] at s1
 have z1 := sz_sub r q
 have s2 := frac_abs (T := T) (fz (r - q)) (by rw [fsz_fz]; omega)
 rw [fv_fz] at s2
 have z2 := sz_abs (r - q)
 have s3 := frac_add (T := T) (fz (absQ (r - q))) (fz (absQ (r - q))) (by rw [fsz_fz]; omega) (by rw [fsz_fz]; omega)
 rw [fv_fz] at s3
 have z3 := sz_add (absQ (r - q)) (absQ (r - q))
 have lp := nr_loop (T := T) (absQ (r - q) + absQ (r - q)) (by omega) p hp
 have z4 := twP_sz (absQ (r - q) + absQ (r - q)) (B := 21) (by omega) p
 have k1 := frac_of (T := T) 1 (by decide) (by decide)
 have zo : sz ((1 : Int) : Rat) ≤ 1 := szle1 (by decide +kernel) (by decide +kernel)
 have s4 := frac_cmp (T := T) (fz (twP (absQ (r - q) + absQ (r - q)) p)) (fz ((1 : Int) : Rat)) (by rw [fsz_fz]; omega) (by rw [fsz_fz]; omega)
 rw [fv_fz, fv_fz] at s4
 have hle : sgQ (twP (absQ (r - q) + absQ (r - q)) p - ((1 : Int) : Rat)) ≤ 0 := by
  rcases Int.lt_or_le 0 (sgQ (twP (absQ (r - q) + absQ (r - q)) p - ((1 : Int) : Rat))) with h | h
  ·have h1 := sgQ_pos.1 h
   have h2 : twP (absQ (r - q) + absQ (r - q)) p ≤ 1 := law
   have h3 : ((1 : Int) : Rat) = 1 := rfl
   rw [h3] at h1
   grind
  ·exact h
 unfold stNr at lp
 have e0 : twP (absQ (r - q) + absQ (r - q)) 0 = absQ (r - q) + absQ (r - q) := by
  unfold twP
  have : ((10 ^ 0 : Nat) : Rat) = 1 := rfl
  rw [this]
  grind
 rw [e0] at lp
 simp only [Int.natCast_zero] at lp
 clear e0 law zr z1 z2 z3 z4 zo hl1 hq1 hP2 hP hN hA zn zq ec
 generalize sgQ (twP (absQ (r - q) + absQ (r - q)) p - ((1 : Int) : Rat)) = SG at *
 generalize fz (twP (absQ (r - q) + absQ (r - q)) p) = X1 at *
 generalize fz (absQ (r - q) + absQ (r - q)) = X2 at *
 generalize fz (absQ (r - q)) = X3 at *
 generalize fz (r - q) = X4 at *
 generalize fz r = X5 at *
 generalize fz ((1 : Int) : Rat) = O at *
 generalize roundQ q p = S at *
 simp -implicitDefEqProofs [hw, cl, hn0, hn1, t1, r1, r2, s1, s2, s3, lp, k1, s4, hle]
end
end Go.Ab
end
