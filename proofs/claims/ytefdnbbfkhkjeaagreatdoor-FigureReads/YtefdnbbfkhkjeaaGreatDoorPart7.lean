/-
  A calculus of values, boxes and code, and what functions of the program compute, proved in it.
  Conditions: none beyond those that the theorems state. (Part 7: GpRnd, GpRef06, GpRef08, GpRef09, GpRef10, GcRef11b, GcLaw11c, GcRow5, GcFrac5, GcRef5x, GpRow3, GpRef11, GpRow4, GcGrid, GpLaw11, GpGrid, GpGrid2, NmGrid, NmRow, GcLaw12, GcRef12, GpRef12, GpLaw12, GcPoly, GpPoly, GpRow5, GcLaw11b, GpLaw11b, GpLaw11c, GpRef11b, GpLaw11e, GpLaw10.)
-/
import Derived.Test.YtefdnbbfkhkjeaaGreatDoorPart6

set_option linter.unusedSectionVars false
set_option linter.unusedVariables false
set_option linter.unusedSimpArgs false
set_option linter.unnecessarySimpa false

section
namespace Go.Ab
theorem floor_mk (z : Int) {d : Nat} (hd : d ≠ 0) : (mkRat z d).floor = z.fdiv (d : Int) := by
 have hx : mkRat z d * (d : Rat) = (z : Rat) := by
  rw [Rat.mkRat_eq_div]
  have : ((d : Nat) : Rat) ≠ 0 := by
   intro h
   exact hd (by exact_mod_cast h)
  grind
 have hdp : (0 : Rat) < (d : Rat) := by
  have : (0 : Int) < d := by omega
  exact_mod_cast this
 rw [Int.fdiv_eq_ediv_of_nonneg _ (by omega)]
 refine Int.le_antisymm ?_ ?_
 ·rw [Int.le_ediv_iff_mul_le (by omega)]
  have h1 := Rat.floor_le (mkRat z d)
  have h2 : (((mkRat z d).floor : Int) : Rat) * (d : Rat) ≤ mkRat z d * (d : Rat) := Rat.mul_le_mul_of_nonneg_right h1 (Rat.le_of_lt hdp)
  rw [hx] at h2
  exact_mod_cast h2
 ·rw [Rat.le_floor_iff]
  have h1 : z / (d : Int) * d ≤ z := Int.ediv_mul_le _ (by omega)
  have h2 : ((z / (d : Int) : Int) : Rat) * (d : Rat) ≤ mkRat z d * (d : Rat) := by
   rw [hx]
   exact_mod_cast h1
  exact Rat.le_of_mul_le_mul_right h2 hdp
def padZ (p : Nat) (s : List UInt8) : List UInt8 := List.replicate (p - s.length) 48 ++ s
def rndN (q : Rat) (p : Nat) : Nat := (absQ q * mkRat (10 ^ p : Nat) 1 + 1 / 2).floor.toNat
def roundQ (q : Rat) (p : Nat) : List UInt8 :=
 (if q < 0 ∧ rndN q p ≠ 0 then [45] else []) ++ (textN (rndN q p / 10 ^ p) ++ (if 0 < p then 46 :: padZ p (textN (rndN q p % 10 ^ p)) else []))
def cap60 (n : Int) : Nat := (min (max n 0) 60).toNat
theorem cap60_le (n : Int) : cap60 n ≤ 60 := by unfold cap60; omega
theorem rnd_nonneg (q : Rat) (p : Nat) : 0 ≤ (absQ q * mkRat (10 ^ p : Nat) 1 + 1 / 2).floor := by
 rw [Rat.le_floor_iff]
 have h1 := absQ_nonneg q
 have h2 : (0 : Rat) ≤ mkRat (10 ^ p : Nat) 1 := by
  rw [Rat.mkRat_eq_div]
  have : (0 : Int) ≤ ((10 ^ p : Nat) : Int) := Int.natCast_nonneg _
  have h3 : (0 : Rat) ≤ (((10 ^ p : Nat) : Int) : Rat) := by exact_mod_cast this
  grind
 have h3 := Rat.mul_nonneg h1 h2
 have h4 : (0 : Rat) ≤ 1 / 2 := by decide +kernel
 show ((0 : Int) : Rat) ≤ _
 have : ((0 : Int) : Rat) = 0 := rfl
 grind
section
variable {T : Tbl} [CLimb T] [CNat T] [CProd T] [CTwos T] [CQuot T] [CQuotD T] [CDigits T] [CText T] [CWhole T] [CCommon T] [CFrac T] [CFrac2 T] [CStr T] [CSplit T] [CPow T] [CFig T] [CJoin T] [CRow T] [CRow2 T]
theorem frac_floor (x : Fz) (hx : fsz x ≤ 900) : callF T 222 [efz x] = some (ez (fv x).floor) := by
 obtain ⟨y, h0, hv, hs, hp⟩ := frac_parts (T := T) x (by omega)
 have h1 := fsz_a y
 have h2 := fsz_d y
 have hf := whole_floor (T := T) y.1 false y.2.1 y.2.2 (by omega) (by omega)
 rw [if_neg h0] at hf
 have e : (wv y.1 y.2.1).fdiv (wv false y.2.2) = (fv x).floor := by
  rw [← hv]
  unfold fv
  rw [floor_mk _ h0]
  rfl
 rw [e] at hf
 rw [f222 _ rfl, b222]
 generalize (wv y.1 y.2.1).fmod (wv false y.2.2) = R at *
 generalize (fv x).floor = F at *
 simp -implicitDefEqProofs [hp, hf]
theorem frac_half : callF T 206 [.i .i64 1, .i .i64 2] = some (.tup [efz (fz (1 / 2)), .b true]) := by
 have c1 := frac_of (T := T) 1 (by decide) (by decide)
 have c2 := frac_of (T := T) 2 (by decide) (by decide)
 have q1 : ((1 : Int) : Rat) = 1 := rfl
 have q2 : ((2 : Int) : Rat) = 2 := rfl
 rw [q1] at c1
 rw [q2] at c2
 have s2 : sz 2 ≤ 1 := Nat.max_le.2 ⟨ofN_length_le' (by decide), ofN_length_le' (by decide)⟩
 have c3 := frac_quo (T := T) (fz 1) (fz 2) (by rw [fsz_fz, sz_one]; decide) (by rw [fsz_fz]; omega)
 rw [fv_fz, fv_fz, decide_eq_true (show (2 : Rat) ≠ 0 by decide +kernel)] at c3
 rw [f206 _ rfl, b206]
 clear s2 q1 q2
 generalize fz (1 / 2) = H at *
 generalize fz 1 = O at *
 generalize fz 2 = W at *
 simp -implicitDefEqProofs [c1, c2, c3]
theorem p343_eq (n : Nat) (hn : n ≤ 64) : callF T 343 [.s [48], .i .i64 n] = some (.s (List.replicate n 48)) := by
 rw [p343]
 simp only [prim343]
 rw [if_pos ⟨by omega, by omega⟩, Int.toNat_natCast]
theorem fig_round (x : Fz) (hx : fsz x ≤ 100) (n : Int) : callF T 257 [efz x, .i .i64 n] = some (.s (roundQ (fv x) (cap60 n))) := by
 have hp60 := cap60_le n
 have m2 : (if (60 : Int) < (if n < 0 then 0 else n) then (60 : Int) else (if n < 0 then 0 else n)) = (cap60 n : Int) := by unfold cap60; split <;> split at * <;> omega
 generalize cap60 n = p at *
 have c1 := fig_tens (T := T) p hp60
 have ht60 := ten_len hp60
 have c2 := nat_of (T := T) 1 (by decide)
 have c3 := frac_new (T := T) false (ofN (10 ^ p)) (ofN 1) (by omega) (by rw [ofN_one]; decide)
 have w1 : wv false (ofN (10 ^ p)) = ((10 ^ p : Nat) : Int) := by unfold wv sg; simp [val_ofN]
 rw [val_ofN, if_neg (by decide), w1] at c3
 have c4 := frac_half (T := T)
 have c5 := frac_abs (T := T) x (by omega)
 have zq := sz_fv (x := x) (L := 100) hx (by decide)
 have za : sz (absQ (fv x)) ≤ 100 := by rw [sz_abs]; exact zq
 have zm : sz (mkRat ((10 ^ p : Nat) : Int) 1) ≤ 60 := sz_mk (by rw [Int.natAbs_natCast]; exact ht60) (by rw [ofN_one]; decide) (by decide)
 have zh : sz (1 / 2) ≤ 1 := Nat.max_le.2 ⟨ofN_length_le' (by decide +kernel), ofN_length_le' (by decide +kernel)⟩
 have c6 := frac_mul (T := T) (fz (absQ (fv x))) (fz (mkRat ((10 ^ p : Nat) : Int) 1)) (by rw [fsz_fz]; omega) (by rw [fsz_fz]; omega)
 rw [fv_fz, fv_fz] at c6
 have z6 := sz_mul (absQ (fv x)) (mkRat ((10 ^ p : Nat) : Int) 1)
 have c7 := frac_add (T := T) (fz (absQ (fv x) * mkRat ((10 ^ p : Nat) : Int) 1)) (fz (1 / 2)) (by rw [fsz_fz]; omega) (by rw [fsz_fz]; omega)
 rw [fv_fz, fv_fz] at c7
 have z7 := sz_add (absQ (fv x) * mkRat ((10 ^ p : Nat) : Int) 1) (1 / 2)
 have c8 := frac_floor (T := T) (fz (absQ (fv x) * mkRat ((10 ^ p : Nat) : Int) 1 + 1 / 2)) (by rw [fsz_fz]; omega)
 rw [fv_fz] at c8
 obtain ⟨N, hN⟩ : ∃ N, N = rndN (fv x) p := ⟨_, rfl⟩
 have hF : (absQ (fv x) * mkRat ((10 ^ p : Nat) : Int) 1 + 1 / 2).floor = (N : Int) := by
  have := rnd_nonneg (fv x) p
  rw [hN]
  unfold rndN
  omega
 have hNl : (ofN N).length ≤ 200 := by
  have h1 : (N : Int) = (absQ (fv x) * mkRat ((10 ^ p : Nat) : Int) 1 + 1 / 2).num / ((absQ (fv x) * mkRat ((10 ^ p : Nat) : Int) 1 + 1 / 2).den : Int) := by rw [← hF, Rat.floor_def]
  have h2 := sz_num (absQ (fv x) * mkRat ((10 ^ p : Nat) : Int) 1 + 1 / 2)
  have h3 : N ≤ (absQ (fv x) * mkRat ((10 ^ p : Nat) : Int) 1 + 1 / 2).num.natAbs := by
   have h4 := Int.natAbs_ediv_le_natAbs (absQ (fv x) * mkRat ((10 ^ p : Nat) : Int) 1 + 1 / 2).num (absQ (fv x) * mkRat ((10 ^ p : Nat) : Int) 1 + 1 / 2).den
   rw [← h1, Int.natAbs_natCast] at h4
   exact h4
  have := ofN_len_le h3
  omega
 rw [hF] at c8
 have ezN : ez (N : Int) = wh false (ofN N) := by
  unfold ez
  rw [decide_eq_false (by omega), Int.natAbs_natCast]
 rw [ezN] at c8
 have c9 := whole_floor (T := T) false false (ofN N) (ofN (10 ^ p)) (by omega) (by omega)
 have hne : ¬ 10 ^ p = 0 := Nat.ne_of_gt (Nat.pow_pos (by decide))
 have wN : wv false (ofN N) = (N : Int) := by unfold wv sg; simp [val_ofN]
 rw [val_ofN, if_neg hne, wN, w1] at c9
 have hdv : (N : Int).fdiv ((10 ^ p : Nat) : Int) = ((N / 10 ^ p : Nat) : Int) := by
  rw [Int.fdiv_eq_ediv_of_nonneg _ (Int.natCast_nonneg _)]
  rfl
 have hmd : (N : Int).fmod ((10 ^ p : Nat) : Int) = ((N % 10 ^ p : Nat) : Int) := by
  rw [Int.fmod_eq_emod_of_nonneg _ (Int.natCast_nonneg _)]
  rfl
 have ez1 : ∀ k : Nat, ez (k : Int) = wh false (ofN k) := fun k => by
  unfold ez
  rw [decide_eq_false (by omega), Int.natAbs_natCast]
 rw [hdv, hmd, ez1, ez1] at c9
 have lq : (ofN (N / 10 ^ p)).length ≤ 200 := Nat.le_trans (ofN_len_le (Nat.div_le_self _ _)) hNl
 have lr : (ofN (N % 10 ^ p)).length ≤ 200 := Nat.le_trans (ofN_len_le (Nat.mod_le _ _)) hNl
 have c10 := whole_text (T := T) false (ofN (N / 10 ^ p)) (by omega)
 have c11 := whole_text (T := T) false (ofN (N % 10 ^ p)) (by omega)
 have tz : ∀ k : Nat, textZ (wv false (ofN k)) = textN k := fun k => by
  have : wv false (ofN k) = (k : Int) := by unfold wv sg; simp [val_ofN]
  rw [this]
  unfold textZ
  rw [if_neg (by omega), Int.natAbs_natCast]
 rw [tz] at c10 c11
 have tq : (textN (N / 10 ^ p)).length ≤ 10000 := by
  have := textN_words (a := ofN (N / 10 ^ p)) (by omega)
  rwa [val_ofN] at this
 have c12 := frac_sign (T := T) x (by omega)
 have c13 := whole_sign (T := T) false (ofN N) (by omega)
 rw [wN] at c13
 have hsg : sgI (N : Int) = if N = 0 then 0 else 1 := by
  unfold sgI
  split <;> split <;> (try split) <;> omega
 unfold roundQ
 rw [← hN]
 rw [f257 _ rfl, b257]
 clear hF hN hNl ezN zq za zm zh z6 z7 ht60 w1 wN lq lr hdv hmd ez1 tz hne
 generalize fz (absQ (fv x) * mkRat ((10 ^ p : Nat) : Int) 1 + 1 / 2) = X1 at *
 generalize fz (absQ (fv x) * mkRat ((10 ^ p : Nat) : Int) 1) = X2 at *
 generalize fz (mkRat ((10 ^ p : Nat) : Int) 1) = X3 at *
 generalize fz (absQ (fv x)) = X4 at *
 generalize fz (1 / 2) = X5 at *
 have hs1 : (fv x < 0 ∧ N ≠ 0) = (sgQ (fv x) < 0 ∧ sgI (N : Int) ≠ 0) := by
  rw [sgQ_neg, hsg]
  split <;> simp [*]
 simp only [hs1]
 clear hs1 hsg
 by_cases hp0 : 0 < p
 ·have tr : (textN (N % 10 ^ p)).length ≤ p := by
   obtain ⟨k, rfl⟩ : ∃ k, p = k + 1 := ⟨p - 1, by omega⟩
   exact textN_len (Nat.mod_lt _ (Nat.pow_pos (by decide)))
  have c14 := p343_eq (T := T) (p - (textN (N % 10 ^ p)).length) (by omega)
  have w2 : IntKind.wrap .i64 ((p : Int) - ((textN (N % 10 ^ p)).length : Int)) = ((p - (textN (N % 10 ^ p)).length : Nat) : Int) := by
   have : ((p - (textN (N % 10 ^ p)).length : Nat) : Int) = (p : Int) - ((textN (N % 10 ^ p)).length : Int) := by omega
   rw [this]
   exact wrap_i64 _ (by omega)
  have hp0' : (0 : Int) < p := by omega
  rw [if_pos hp0]
  unfold padZ
  generalize ofN (N / 10 ^ p) = A1 at *
  generalize ofN (N % 10 ^ p) = A2 at *
  generalize textN (N / 10 ^ p) = TQ at *
  generalize textN (N % 10 ^ p) = TR at *
  generalize ofN (10 ^ p) = A3 at *
  generalize ofN N = A4 at *
  generalize sgI (N : Int) = SN at *
  generalize sgQ (fv x) = SQ at *
  obtain ⟨K, hK⟩ : ∃ K, K = p - TR.length := ⟨_, rfl⟩
  rw [← hK] at c14 w2 ⊢
  have l0 : K + TR.length = p := by omega
  have l1 : 1 + K ≤ 9223372036854775807 := by omega
  have l2 : K + 1 + TR.length ≤ 9223372036854775807 := by omega
  have l3 : TQ.length + (K + TR.length + 1) ≤ 9223372036854775807 := by omega
  have l4 : 1 + (TQ.length + (K + TR.length + 1)) ≤ 9223372036854775807 := by omega
  have l5 : K + 1 + TR.length = K + TR.length + 1 := by omega
  clear hK
  by_cases hA : SQ < 0
  ·by_cases hB : SN = 0
   ·simp -implicitDefEqProofs [mm2, m2, c1, c2, c3, c4, c5, c6, c7, c8, c9, c10, c11, c12, c13, c14, w2, l1, l2, l3, l4, hp0, hp0', hA, hB]
   ·simp -implicitDefEqProofs [mm2, m2, c1, c2, c3, c4, c5, c6, c7, c8, c9, c10, c11, c12, c13, c14, w2, l1, l2, l3, l4, hp0, hp0', hA, hB]
  ·simp -implicitDefEqProofs [mm2, m2, c1, c2, c3, c4, c5, c6, c7, c8, c9, c10, c11, c12, c13, c14, w2, l1, l2, l3, l4, hp0, hp0', hA]
 ·have hp0' : ¬ (0 : Int) < p := by omega
  rw [if_neg hp0]
  generalize ofN (N / 10 ^ p) = A1 at *
  generalize ofN (N % 10 ^ p) = A2 at *
  generalize textN (N / 10 ^ p) = TQ at *
  generalize textN (N % 10 ^ p) = TR at *
  generalize ofN (10 ^ p) = A3 at *
  generalize ofN N = A4 at *
  generalize sgI (N : Int) = SN at *
  generalize sgQ (fv x) = SQ at *
  have l6 : 1 + TQ.length ≤ 9223372036854775807 := by omega
  by_cases hA : SQ < 0
  ·by_cases hB : SN = 0
   ·simp -implicitDefEqProofs [mm2, m2, c1, c2, c3, c4, c5, c6, c7, c8, c9, c10, c12, c13, l6, hp0, hp0', hA, hB]
   ·simp -implicitDefEqProofs [mm2, m2, c1, c2, c3, c4, c5, c6, c7, c8, c9, c10, c12, c13, l6, hp0, hp0', hA, hB]
  ·simp -implicitDefEqProofs [mm2, m2, c1, c2, c3, c4, c5, c6, c7, c8, c9, c10, c12, c13, l6, hp0, hp0', hA]
end
end Go.Ab
end

section
namespace Go.Ab
section
variable {T : Tbl}
theorem zeros_loop (m : Nat) (hm : m % 2 = 1) (K : Nat) (hK : 2 ^ K * m < 4294967296) (hK2 : K ≤ 32) : ∀ v : Nat, v ≤ K →
  loopN T 0 0 (.norm false [3]) l224_0 ⟨[(0, u32 (2 ^ v * m)), (3, .i .i64 (K - v : Nat))], [], 2⟩ = some (.n, ⟨[(3, .i .i64 K)], [], 2⟩) := by
 refine loopN_eq (fun v : Nat => ⟨[(0, u32 (2 ^ v * m)), (3, .i .i64 (K - v : Nat))], [], 2⟩) _ (fun v => v) _ ?_
 intro v hv
 cases v with
 | zero =>
  right
  rw [Nat.pow_zero, Nat.one_mul, Nat.sub_zero]
  constructor <;> simp -implicitDefEqProofs [l224_0, hm]
 | succ v =>
  left
  have hle : 2 ^ (v + 1) * m ≤ 2 ^ K * m := Nat.mul_le_mul_right _ (Nat.pow_le_pow_right (by decide) hv)
  have e : 2 ^ (v + 1) * m = 2 ^ v * m * 2 := by rw [Nat.pow_succ, Nat.mul_assoc, Nat.mul_comm 2 m, Nat.mul_assoc]
  have hw : IntKind.wrap .i64 (((K - (v + 1) : Nat) : Int) + 1) = ((K - v : Nat) : Int) := by rw [wrap_i64 _ (by omega)]; omega
  refine ⟨v, by omega, Nat.lt_succ_self v, ?_, rfl⟩
  rw [e] at hle ⊢
  generalize 2 ^ v * m = x at *
  have e1 : x * 2 % 2 = 0 := by omega
  have e2 : x * 2 / 2 % 4294967296 = x := by omega
  have e3 : x < 4294967296 := by omega
  simp -implicitDefEqProofs [l224_0, e1, e2, e3, hw]
end
section
variable {T : Tbl} [CRef06 T]
theorem ref01_zeros (m K : Nat) (hm : m % 2 = 1) (hK : 2 ^ K * m < 4294967296) : callF T 224 [u32 (2 ^ K * m)] = some (.i .i64 K) := by
 have hK2 : K ≤ 32 := by
  rcases Nat.lt_or_ge 32 K with h | h
  ·have h1 : 2 ^ 32 ≤ 2 ^ K := Nat.pow_le_pow_right (by decide) (by omega)
   have h2 : 2 ^ K ≤ 2 ^ K * m := Nat.le_mul_of_pos_right _ (by omega)
   have h3 : (2 : Nat) ^ 32 = 4294967296 := rfl
   omega
  ·exact h
 have h := zeros_loop (T := T) m hm K hK hK2 K (Nat.le_refl _)
 rw [Nat.sub_self] at h
 simp only [Int.natCast_zero] at h
 have h0 : 2 ^ K * m ≠ 0 := Nat.mul_ne_zero (by have := Nat.pow_pos (n := K) (show 0 < 2 by decide); omega) (by omega)
 rw [f224 _ rfl, b224]
 generalize 2 ^ K * m = x at *
 simp -implicitDefEqProofs [h, h0]
end
theorem get_win {P m a S : List UInt32} {i : Nat} (hm : m.length = i) (hi : i < a.length) : (P ++ (m ++ (a.drop i ++ S)))[P.length + i]? = some (a[i]'hi) := by
 rw [List.getElem?_append_right (by omega), Nat.add_sub_cancel_left, List.getElem?_append_right (by omega), hm, Nat.sub_self, List.drop_eq_getElem_cons hi]
 rfl
theorem get_win1 {P m a S : List UInt32} {i : Nat} (hm : m.length = i) (hi : i + 1 < a.length) : (P ++ (m ++ (a.drop i ++ S)))[P.length + (i + 1)]? = some (a[i + 1]'hi) := by
 rw [List.getElem?_append_right (by omega), Nat.add_sub_cancel_left, List.getElem?_append_right (by omega), hm, Nat.add_sub_cancel_left, List.drop_eq_getElem_cons (show i < a.length by omega), List.drop_eq_getElem_cons hi]
 rfl
theorem set_win {P m a S : List UInt32} {i : Nat} (hm : m.length = i) (hi : i < a.length) (w : UInt32) : (P ++ (m ++ (a.drop i ++ S))).set (P.length + i) w = P ++ ((m ++ [w]) ++ (a.drop (i + 1) ++ S)) := by
 rw [List.set_append_right _ _ (by omega), Nat.add_sub_cancel_left, List.set_append_right _ _ (by omega), hm, Nat.sub_self, List.drop_eq_getElem_cons hi, List.cons_append, List.set_cons_zero]
 simp
section
variable {T : Tbl}
def stDw (Q : List UInt32) (o n s i : Nat) : St := ⟨[(0, .bs (.bor 0) 0 1 o n), (1, .i .i64 s), (5, .i .i64 i)], [(.bor 0, ⟨0, .own, 1, u32s Q⟩)], 4⟩
theorem dw_step1 (Q : List UInt32) (o n s i : Nat) (x y : UInt32) (hi : i + 1 < n) (hn : n ≤ 1000000) (hs : s < 32) (hx : Q[o + i]? = some x) (hy : Q[o + (i + 1)]? = some y) :
  evX (orc T) T 1 l225_0 (stDw Q o n s i) = some (.n, stDw (Q.set (o + i) (w32 ((x.toNat + y.toNat * 4294967296) / 2 ^ s % 4294967296))) o n s (i + 1)) := by
 have h1 : (i : Int) < n := by omega
 have h2 : (i : Int) + 1 < n := by omega
 have hw : IntKind.wrap .i64 ((i : Int) + 1) = ((i + 1 : Nat) : Int) := wrap_i64 _ (by omega)
 have lx := u32_lt x
 have ly := u32_lt y
 have m2 : y.toNat * 4294967296 % 18446744073709551616 = y.toNat * 4294967296 := Nat.mod_eq_of_lt (by omega)
 have m3 : (y.toNat * 4294967296 + x.toNat) % 18446744073709551616 = x.toNat + y.toNat * 4294967296 := by rw [Nat.add_comm]; exact Nat.mod_eq_of_lt (by omega)
 have hmin : min s 64 = s := by omega
 obtain ⟨b1, hgx⟩ := List.getElem?_eq_some_iff.1 hx
 have i1 : i < n := by omega
 unfold stDw
 simp -implicitDefEqProofs [l225_0, h1, h2, i1, hi, hw, hx, hy, m2, m3, hmin, b1, hgx, w32_modw]
theorem dw_step2 (Q : List UInt32) (o n s i : Nat) (x : UInt32) (hi : i + 1 = n) (hn : n ≤ 1000000) (hs : s < 32) (hx : Q[o + i]? = some x) :
  evX (orc T) T 1 l225_0 (stDw Q o n s i) = some (.n, stDw (Q.set (o + i) (w32 (x.toNat / 2 ^ s % 4294967296))) o n s (i + 1)) := by
 have h1 : (i : Int) < n := by omega
 have h2 : ¬ (i : Int) + 1 < n := by omega
 have hw : IntKind.wrap .i64 ((i : Int) + 1) = ((i + 1 : Nat) : Int) := wrap_i64 _ (by omega)
 have hmin : min s 64 = s := by omega
 obtain ⟨b1, hgx⟩ := List.getElem?_eq_some_iff.1 hx
 have i1 : i < n := by omega
 have i2 : ¬ i + 1 < n := by omega
 unfold stDw
 simp -implicitDefEqProofs [l225_0, h1, h2, i1, i2, hw, hx, hmin, b1, hgx, w32_modw]
theorem dw_loop (P a S : List UInt32) (s : Nat) (hs : s < 32) (hl : a.length ≤ 1000000) : ∀ y : Nat × List UInt32,
  (y.1 ≤ a.length ∧ y.2.length = y.1 ∧ val y.2 + 4294967296 ^ y.1 * (val (a.drop y.1) / 2 ^ s) = val a / 2 ^ s) →
  ∃ r, (∃ m : List UInt32, r = (Ex.n, (⟨[(0, .bs (.bor 0) 0 1 P.length a.length)], [(.bor 0, ⟨0, .own, 1, u32s (P ++ (m ++ S))⟩)], 4⟩ : St)) ∧ m.length = a.length ∧ val m = val a / 2 ^ s) ∧
   loopN T 1 0 (.norm false [0]) l225_0 (stDw (P ++ (y.2 ++ (a.drop y.1 ++ S))) P.length a.length s y.1) = some r := by
 refine loopN_ex (fun y : Nat × List UInt32 => stDw (P ++ (y.2 ++ (a.drop y.1 ++ S))) P.length a.length s y.1) _ (fun y => a.length - y.1) _ ?_
 rintro ⟨i, m⟩ ⟨hi, hm, hv⟩
 simp only at hi hm hv
 by_cases h0 : i < a.length
 ·left
  have hx := u32_lt (a[i]'h0)
  have hd := List.drop_eq_getElem_cons h0
  have fin : ∀ y R : Nat, val (a.drop (i + 1)) = y + 4294967296 * R → val (m ++ [w32 (((a[i]'h0).toNat + y * 4294967296) / 2 ^ s % 4294967296)]) + 4294967296 ^ (i + 1) * (val (a.drop (i + 1)) / 2 ^ s) = val a / 2 ^ s := by
   intro y R hR
   have hmod : ((a[i]'h0).toNat + y * 4294967296) / 2 ^ s % 4294967296 < 4294967296 := Nat.mod_lt _ (by decide)
   have hdw := down_word (x := (a[i]'h0).toNat) (y := y) (R := R) hs hx
   rw [hd, val_cons, hR, hdw, ← hR] at hv
   rw [val_append, hm, Nat.pow_succ]
   rw [val_cons, val_nil, Nat.mul_zero, Nat.add_zero, w32_of_lt hmod]
   rw [Nat.mul_add] at hv
   rw [← hv, Nat.mul_assoc, Nat.add_assoc]
  by_cases h1 : i + 1 < a.length
  ·have hd1 := List.drop_eq_getElem_cons h1
   refine ⟨(i + 1, m ++ [w32 (((a[i]'h0).toNat + (a[i + 1]'h1).toNat * 4294967296) / 2 ^ s % 4294967296)]), ⟨h0, by simp [hm], fin _ (val (a.drop (i + 1 + 1))) (by rw [hd1, val_cons])⟩, by simp only; omega, ?_⟩
   simp only
   rw [dw_step1 _ _ _ _ _ _ _ h1 hl hs (get_win hm h0) (get_win1 hm h1), set_win hm h0]
  ·have f0 := fin 0 0 (by rw [List.drop_of_length_le (by omega), val_nil, Nat.mul_zero])
   rw [Nat.zero_mul, Nat.add_zero] at f0
   refine ⟨(i + 1, m ++ [w32 ((a[i]'h0).toNat / 2 ^ s % 4294967296)]), ⟨h0, by simp [hm], f0⟩, by simp only; omega, ?_⟩
   simp only
   rw [dw_step2 _ _ _ _ _ _ (by omega) hl hs (get_win hm h0), set_win hm h0]
 ·right
  have : i = a.length := by omega
  subst this
  rw [List.drop_length, val_nil, Nat.zero_div, Nat.mul_zero, Nat.add_zero] at hv
  refine ⟨_, ⟨m, rfl, hm, hv⟩, ?_, ?_⟩ <;> simp -implicitDefEqProofs [l225_0, stDw]
theorem trimw_loop (P a S : List UInt32) (hl : a.length ≤ 1000000) {n : Nat} (hn : n ≤ a.length) (h0 : ∀ (i : Nat) (x : UInt32), n ≤ i → a[i]? = some x → x.toNat = 0) (h1 : ∀ x : UInt32, 0 < n → a[n - 1]? = some x → x.toNat ≠ 0) :
  ∀ k : Nat, (n ≤ k ∧ k ≤ a.length) → loopN T 1 2 (.norm false [0]) l225_1 ⟨[(0, .bs (.bor 0) 0 1 P.length k)], [(.bor 0, ⟨0, .own, 1, u32s (P ++ (a ++ S))⟩)], 4⟩ =
   some (.n, ⟨[(0, .bs (.bor 0) 0 1 P.length n)], [(.bor 0, ⟨0, .own, 1, u32s (P ++ (a ++ S))⟩)], 4⟩) := by
 refine loopN_eq (fun k : Nat => ⟨[(0, .bs (.bor 0) 0 1 P.length k)], [(.bor 0, ⟨0, .own, 1, u32s (P ++ (a ++ S))⟩)], 4⟩) _ (fun k => k) _ ?_
 rintro k ⟨hk, hka⟩
 have hget : ∀ j, j < a.length → (P ++ (a ++ S))[P.length + j]? = a[j]? := by
  intro j hj
  rw [List.getElem?_append_right (by omega), Nat.add_sub_cancel_left, List.getElem?_append_left hj]
 by_cases h2 : k = 0
 ·right
  have : n = 0 := by omega
  subst this; subst h2
  generalize P ++ (a ++ S) = Q at *
  constructor <;> simp -implicitDefEqProofs [l225_1]
 ·have hw : IntKind.wrap .i64 ((k : Int) - 1) = ((k - 1 : Nat) : Int) := by rw [wrap_i64 _ (by omega)]; omega
  have hg : a[k - 1]? = some (a[k - 1]'(by omega)) := List.getElem?_eq_getElem _
  have hq := hget (k - 1) (by omega)
  rw [hg] at hq
  have hpos : 0 < k := by omega
  have hlt : k - 1 < k := by omega
  generalize P ++ (a ++ S) = Q at *
  by_cases h3 : k = n
  ·right
   subst h3
   have hx := h1 _ hpos hg
   constructor <;> simp -implicitDefEqProofs [l225_1, hpos, hw, hq, hx, hlt]
  ·left
   have hx := h0 (k - 1) _ (by omega) hg
   refine ⟨k - 1, ⟨by omega, by omega⟩, hlt, ?_, rfl⟩
   simp -implicitDefEqProofs [l225_1, hpos, hw, hq, hx, hlt]
end
section
variable {T : Tbl} [CRef06 T]
theorem ref06_down (P a S : List UInt32) (s : Nat) (hs : s < 32) (hl : a.length ≤ 1000000) :
  ∃ S', S'.length + (ofN (val a / 2 ^ s)).length = a.length + S.length ∧
   callH T 225 [.bs (.bor 0) 0 1 P.length a.length, .i .i64 s] [(.bor 0, ⟨0, .own, 1, u32s (P ++ (a ++ S))⟩)] =
    some (.bs (.bor 0) 0 1 P.length (ofN (val a / 2 ^ s)).length, [(.bor 0, ⟨0, .own, 1, u32s (P ++ (ofN (val a / 2 ^ s) ++ S'))⟩)]) := by
 obtain ⟨_, ⟨m, rfl, hm, hv⟩, hr⟩ := dw_loop (T := T) P a S s hs hl (0, []) ⟨Nat.zero_le _, rfl, by simp⟩
 obtain ⟨n, h1, h2, h3, h4⟩ := ofN_take m
 have ht := trimw_loop (T := T) P m S (by omega) h1 h3 h4 m.length ⟨h1, Nat.le_refl _⟩
 rw [hv] at h2
 have hlen : (ofN (val a / 2 ^ s)).length = n := by rw [← h2]; simp; omega
 have e : P ++ (m ++ S) = P ++ (ofN (val a / 2 ^ s) ++ (m.drop n ++ S)) := by rw [← h2, ← List.append_assoc (m.take n), List.take_append_drop]
 refine ⟨m.drop n ++ S, by simp; omega, ?_⟩
 rw [hlen, ← e]
 rw [hm] at ht
 unfold stDw at hr
 simp only [List.nil_append, List.drop_zero, Int.natCast_zero] at hr
 rw [f225 _ _ rfl, b225]
 clear e h3 h4 h2
 generalize P ++ (m ++ S) = Q at *
 generalize P ++ (a ++ S) = R at *
 simp -implicitDefEqProofs [hr, ht]
theorem win_bound {P a S : List UInt32} {j : Nat} (hj : j < a.length) : (P ++ (a ++ S))[P.length + j]? = a[j]? := by
 rw [List.getElem?_append_right (by omega), Nat.add_sub_cancel_left, List.getElem?_append_left hj]
theorem strip_loop (Q : List UInt32) (o n j0 : Nat) (hn : n ≤ 1000000) (hj : j0 < n) (hz : ∀ j, j < j0 → ∃ x : UInt32, Q[o + j]? = some x ∧ x.toNat = 0) (h1 : ∃ x : UInt32, Q[o + j0]? = some x ∧ x.toNat ≠ 0) :
  ∀ j : Nat, j ≤ j0 → loopN T 1 0 (.norm false [0, 4]) l226_0 ⟨[(0, .bs (.bor 0) 0 1 (o + j) (n - j)), (4, .i .i64 (32 * j : Nat))], [(.bor 0, ⟨0, .own, 1, u32s Q⟩)], 4⟩ =
   some (.n, ⟨[(0, .bs (.bor 0) 0 1 (o + j0) (n - j0)), (4, .i .i64 (32 * j0 : Nat))], [(.bor 0, ⟨0, .own, 1, u32s Q⟩)], 4⟩) := by
 refine loopN_eq (fun j : Nat => ⟨[(0, .bs (.bor 0) 0 1 (o + j) (n - j)), (4, .i .i64 (32 * j : Nat))], [(.bor 0, ⟨0, .own, 1, u32s Q⟩)], 4⟩) _ (fun j => j0 - j) _ ?_
 intro j hj2
 have hpos : 0 < n - j := by omega
 by_cases h : j = j0
 ·right
  subst h
  obtain ⟨x, hx, hx0⟩ := h1
  constructor <;> simp -implicitDefEqProofs [l226_0, hpos, hx, hx0]
 ·left
  obtain ⟨x, hx, hx0⟩ := hz j (by omega)
  have hw : IntKind.wrap .i64 (((32 * j : Nat) : Int) + 32) = ((32 * (j + 1) : Nat) : Int) := by rw [wrap_i64 _ (by omega)]; omega
  have e1 : 1 < n - j := by omega
  have e2 : n - j - 1 = n - (j + 1) := by omega
  have e3 : (1 : Int) ≤ ((n - j : Nat) : Int) := by omega
  refine ⟨j + 1, by omega, by show j0 - (j + 1) < j0 - j; omega, ?_, rfl⟩
  generalize 32 * j = c at *
  generalize 32 * (j + 1) = c' at *
  rw [← Nat.add_assoc, ← e2]
  generalize n - j = k at *
  have e4 : 1 ≤ k := by omega
  simp -implicitDefEqProofs [l226_0, hpos, hx, hx0, hw, e1, e3, e4]
theorem low_words : ∀ (a : List UInt32), val a ≠ 0 → ∃ j, ∃ h : j < a.length, (∀ i (hi : i < j), (a[i]'(by omega)).toNat = 0) ∧ (a[j]'h).toNat ≠ 0 ∧ val a = 4294967296 ^ j * val (a.drop j)
 | [], h => by simp at h
 | x :: a, h => by
  by_cases hx : x.toNat = 0
  ·have h2 : val a ≠ 0 := by
    intro e
    apply h
    rw [val_cons, hx, e]
   obtain ⟨j, hj, h3, h4, h5⟩ := low_words a h2
   refine ⟨j + 1, by simpa using hj, ?_, by simpa using h4, ?_⟩
   ·intro i hi
    cases i with
    | zero => simpa using hx
    | succ i => simpa using h3 i (by omega)
   ·rw [val_cons, hx, h5, List.drop_succ_cons, Nat.pow_succ, Nat.zero_add, Nat.mul_comm (4294967296 ^ j) 4294967296, Nat.mul_assoc]
  ·exact ⟨0, by simp, fun i hi => by omega, by simpa using hx, by simp⟩
theorem ref06_odd (P a S : List UInt32) (hl : a.length ≤ 100000) (h : val a ≠ 0) : ∃ (P' S' : List UInt32) (m k : Nat), val a = 2 ^ k * m ∧ m % 2 = 1 ∧ k ≤ 32 * a.length ∧ (ofN m).length ≤ a.length ∧ P'.length + (ofN m).length + S'.length = P.length + a.length + S.length ∧
  callH T 226 [.bs (.bor 0) 0 1 P.length a.length] [(.bor 0, ⟨0, .own, 1, u32s (P ++ (a ++ S))⟩)] =
   some (.tup [.bs (.bor 0) 0 1 P'.length (ofN m).length, .i .i64 k], [(.bor 0, ⟨0, .own, 1, u32s (P' ++ (ofN m ++ S'))⟩)]) := by
 obtain ⟨j, hj, hz, hne, hv⟩ := low_words a h
 obtain ⟨s, c, hsc, hc⟩ := odd_part hne
 have hx := u32_lt (a[j]'hj)
 have hs : s < 32 := by
  rcases Nat.lt_or_ge s 32 with h1 | h1
  ·exact h1
  ·have h2 : 2 ^ 32 ≤ 2 ^ s := Nat.pow_le_pow_right (by decide) h1
   have h3 : 2 ^ s ≤ 2 ^ s * c := Nat.le_mul_of_pos_right _ (by omega)
   have h4 : (2 : Nat) ^ 32 = 4294967296 := rfl
   omega
 have hd := List.drop_eq_getElem_cons hj
 -- the rest is odd
 have hm : ∃ m, val (a.drop j) = 2 ^ s * m ∧ m % 2 = 1 := by
  refine ⟨c + 2 ^ (32 - s) * val (a.drop (j + 1)), ?_, ?_⟩
  ·rw [hd, val_cons, hsc, Nat.mul_add, ← Nat.mul_assoc, ← Nat.pow_add, show s + (32 - s) = 32 by omega]
  ·have : 2 ^ (32 - s) = 2 * 2 ^ (31 - s) := by rw [← Nat.pow_succ']; congr 1; omega
   rw [this, Nat.mul_assoc]
   omega
 obtain ⟨m, hm1, hm2⟩ := hm
 have hdiv : val (a.drop j) / 2 ^ s = m := by rw [hm1, Nat.mul_div_cancel_left _ (Nat.pow_pos (by decide))]
 have hlen : (a.drop j).length = a.length - j := by simp
 obtain ⟨S', hS', hdown⟩ := ref06_down (T := T) (P ++ a.take j) (a.drop j) S s hs (by omega)
 rw [hdiv] at hS' hdown
 have hPl : (P ++ a.take j).length = P.length + j := by simp; omega
 have hbox : (P ++ a.take j) ++ (a.drop j ++ S) = P ++ (a ++ S) := by
  rw [List.append_assoc, ← List.append_assoc (a.take j), List.take_append_drop]
 rw [hPl, hlen, hbox] at hdown
 have hml : (ofN m).length ≤ a.length := by
  have h1 : m ≤ val (a.drop j) := by rw [hm1]; exact Nat.le_mul_of_pos_left _ (Nat.pow_pos (by decide))
  have h2 := ofN_len_le h1
  have h3 := ofN_length_le (a.drop j)
  omega
 refine ⟨P ++ a.take j, S', m, 32 * j + s, ?_, hm2, by omega, hml, by simp at hS' ⊢; omega, ?_⟩
 ·rw [hv, hm1, pow32, Nat.pow_add, Nat.mul_assoc]
 ·have hst := strip_loop (T := T) (P ++ (a ++ S)) P.length a.length j (by omega) hj (fun i hi => ⟨_, by rw [win_bound (by omega)]; exact List.getElem?_eq_getElem (by omega), hz i hi⟩) ⟨_, by rw [win_bound hj]; exact List.getElem?_eq_getElem hj, hne⟩ 0 (Nat.zero_le _)
  have hzr := ref01_zeros (T := T) c s hc (by rw [← hsc]; exact hx)
  rw [← hsc] at hzr
  have hg : (P ++ (a ++ S))[P.length + j]? = some (a[j]'hj) := by rw [win_bound hj]; exact List.getElem?_eq_getElem hj
  have hpos : 0 < a.length - j := by omega
  have hw : IntKind.wrap .i64 (((32 * j : Nat) : Int) + s) = ((32 * j + s : Nat) : Int) := by rw [wrap_i64 _ (by omega)]; omega
  simp only [Nat.mul_zero, Nat.add_zero, Nat.sub_zero, Int.natCast_zero] at hst
  rw [hPl, f226 _ _ rfl, b226]
  generalize a[j]'hj = x at *
  clear hsc hv hm1 hd hz hne hbox hS' h hdiv hx
  generalize 32 * j = c1 at *
  generalize c1 + s = c2 at *
  generalize P ++ (a ++ S) = Q at *
  generalize P ++ a.take j ++ (ofN m ++ S') = Q' at *
  simp -implicitDefEqProofs [hst, hzr, hg, hpos, hw, hdown]
end
theorem ls_law {P m a S b : List UInt32} {i c s d : Nat} (hm : m.length = i) (h0 : i < a.length) (hv : val m + val (b.take i) = val (a.take i) + 4294967296 ^ i * c) (hs : s < 4294967296) (h : s + (atW b i + c) = (a[i]'h0).toNat + 4294967296 * d) :
  val (m ++ [w32 s]) + val (b.take (i + 1)) = val (a.take (i + 1)) + 4294967296 ^ (i + 1) * d := by
 have e1 := val_take_succ (List.getElem?_eq_getElem h0)
 have e2 := val_take_atW b i
 rw [val_append, hm, e1, e2, Nat.pow_succ]
 simp only [val_cons, val_nil, Nat.mul_zero, Nat.add_zero, w32_of_lt hs]
 generalize 4294967296 ^ i = p at *
 have e3 : p * s + p * (atW b i + c) = p * (a[i]'h0).toNat + p * 4294967296 * d := by rw [← Nat.mul_add, h, Nat.mul_add, Nat.mul_assoc]
 rw [Nat.mul_add] at e3
 omega
section
variable {T : Tbl} [CRef02 T] [CRef04 T] [CRef05 T] [CRef07 T] [CRef06 T]
def stLw (Q R : List UInt32) (o n o2 n2 c i : Nat) : St := ⟨[(0, .bs (.bor 0) 0 1 o n), (1, .bs (.bor 1) 1 1 o2 n2), (4, u64 c), (5, .i .i64 i)], [(.bor 0, ⟨0, .own, 1, u32s Q⟩), (.bor 1, ⟨1, .own, 1, u32s R⟩)], 6⟩
theorem lw_step (Q R b : List UInt32) (o n o2 n2 c i : Nat) (x : UInt32) (hi : i < n) (hn : n ≤ 1000000) (hb : b.length ≤ 1000000) (hc : c ≤ 1) (hx : Q[o + i]? = some x) (hR : List.take n2 (List.drop o2 R) = b) (hR2 : o2 + n2 ≤ R.length) :
  evX (orc T) T 2 l2097_0 (stLw Q R o n o2 n2 c i) = some (.n, stLw (Q.set (o + i) (w32 (if x.toNat < atW b i + c then x.toNat + 4294967296 - (atW b i + c) else x.toNat - (atW b i + c)))) R o n o2 n2 (if x.toNat < atW b i + c then 1 else 0) (i + 1)) := by
 have h1 : (i : Int) < n := by omega
 have hw : IntKind.wrap .i64 ((i : Int) + 1) = ((i + 1 : Nat) : Int) := wrap_i64 _ (by omega)
 have cb := ref02_at (T := T) b i hb
 have lx := u32_lt x
 have lb := atW_lt b i
 generalize atW b i = y at *
 have m2 : y % 18446744073709551616 = y := Nat.mod_eq_of_lt (by omega)
 have m3 : (y + c) % 18446744073709551616 = y + c := Nat.mod_eq_of_lt (by omega)
 have m4 : (x.toNat + 4294967296) % 18446744073709551616 = x.toNat + 4294967296 := Nat.mod_eq_of_lt (by omega)
 obtain ⟨b1, hgx⟩ := List.getElem?_eq_some_iff.1 hx
 unfold stLw
 by_cases hlt : x.toNat < y + c
 ·have hs : sub64 (x.toNat + 4294967296) (y + c) = x.toNat + 4294967296 - (y + c) := sub64_le (by omega) (by omega)
  simp -implicitDefEqProofs [l2097_0, h1, hi, hw, cb, m2, m3, m4, hx, b1, hgx, hR, hR2, hlt, hs]
 ·have hs : sub64 x.toNat (y + c) = x.toNat - (y + c) := sub64_le (by omega) (by omega)
  simp -implicitDefEqProofs [l2097_0, h1, hi, hw, cb, m2, m3, m4, hx, b1, hgx, hR, hR2, hlt, hs]
theorem lw_loop (P a S R b : List UInt32) (o2 n2 : Nat) (hl : a.length ≤ 1000000) (hb : b.length ≤ 1000000) (hR : List.take n2 (List.drop o2 R) = b) (hR2 : o2 + n2 ≤ R.length) : ∀ y : Nat × Nat × List UInt32,
  (y.1 ≤ a.length ∧ y.2.1 ≤ 1 ∧ y.2.2.length = y.1 ∧ val y.2.2 + val (b.take y.1) = val (a.take y.1) + 4294967296 ^ y.1 * y.2.1) →
  ∃ r, (∃ (c : Nat) (m : List UInt32), r = (Ex.n, (⟨[], [(.bor 0, ⟨0, .own, 1, u32s (P ++ (m ++ S))⟩), (.bor 1, ⟨1, .own, 1, u32s R⟩)], 6⟩ : St)) ∧
   m.length = a.length ∧ c ≤ 1 ∧ val m + val (b.take a.length) = val a + 4294967296 ^ a.length * c) ∧
   loopN T 2 0 (.norm false []) l2097_0 (stLw (P ++ (y.2.2 ++ (a.drop y.1 ++ S))) R P.length a.length o2 n2 y.2.1 y.1) = some r := by
 refine loopN_ex (fun y : Nat × Nat × List UInt32 => stLw (P ++ (y.2.2 ++ (a.drop y.1 ++ S))) R P.length a.length o2 n2 y.2.1 y.1) _ (fun y => a.length - y.1) _ ?_
 rintro ⟨i, c, m⟩ ⟨hi, hc, hm, hv⟩
 simp only at hi hc hm hv
 by_cases h0 : i < a.length
 ·left
  have lx := u32_lt (a[i]'h0)
  have lb := atW_lt b i
  have hstep := lw_step (T := T) (P ++ (m ++ (a.drop i ++ S))) R b P.length a.length o2 n2 c i (a[i]'h0) h0 hl hb hc (get_win hm h0) hR hR2
  rw [set_win hm h0] at hstep
  by_cases hlt : (a[i]'h0).toNat < atW b i + c
  ·rw [if_pos hlt, if_pos hlt] at hstep
   exact ⟨(i + 1, 1, m ++ [w32 ((a[i]'h0).toNat + 4294967296 - (atW b i + c))]), ⟨h0, Nat.le_refl _, by simp [hm], by simp only; exact ls_law (P := P) (S := S) hm h0 hv (by omega) (by omega)⟩, by simp only; omega, hstep⟩
  ·rw [if_neg hlt, if_neg hlt] at hstep
   exact ⟨(i + 1, 0, m ++ [w32 ((a[i]'h0).toNat - (atW b i + c))]), ⟨h0, Nat.zero_le _, by simp [hm], by simp only; exact ls_law (P := P) (S := S) hm h0 hv (by omega) (by omega)⟩, by simp only; omega, hstep⟩
 ·right
  have : i = a.length := by omega
  subst this
  rw [List.take_of_length_le (Nat.le_refl a.length)] at hv
  refine ⟨_, ⟨c, m, rfl, hm, hc, hv⟩, ?_, ?_⟩ <;> simp -implicitDefEqProofs [l2097_0, stLw]
theorem ref05_less2 (P a S P2 b S2 : List UInt32) (hl : a.length ≤ 1000000) (hb : b.length ≤ a.length) (hab : val b ≤ val a) :
  ∃ m : List UInt32, m.length = a.length ∧ val m = val a - val b ∧
   callH T 2097 [.bs (.bor 0) 0 1 P.length a.length, .bs (.bor 1) 1 1 P2.length b.length] [(.bor 0, ⟨0, .own, 1, u32s (P ++ (a ++ S))⟩), (.bor 1, ⟨1, .own, 1, u32s (P2 ++ (b ++ S2))⟩)] =
    some (.tup [], [(.bor 0, ⟨0, .own, 1, u32s (P ++ (m ++ S))⟩), (.bor 1, ⟨1, .own, 1, u32s (P2 ++ (b ++ S2))⟩)]) := by
 obtain ⟨_, ⟨c, m, rfl, hm, hc, hv⟩, hr⟩ := lw_loop (T := T) P a S (P2 ++ (b ++ S2)) b P2.length b.length hl (by omega) (by simp) (by simp) (0, 0, []) ⟨Nat.zero_le _, Nat.zero_le _, rfl, by simp⟩
 rw [List.take_of_length_le hb] at hv
 have hlo := val_lt m
 rw [hm] at hlo
 have hval : val m = val a - val b := by
  rcases Nat.eq_zero_or_pos c with h1 | h1
  ·subst h1; omega
  ·have : c = 1 := by omega
   subst this
   omega
 refine ⟨m, hm, hval, ?_⟩
 unfold stLw at hr
 simp only [List.nil_append, List.drop_zero, Int.natCast_zero] at hr
 rw [f2097 _ _ rfl, b2097]
 generalize P ++ (a ++ S) = Q at *
 generalize P ++ (m ++ S) = Q2 at *
 generalize P2 ++ (b ++ S2) = R at *
 clear hv hlo hval
 simp -implicitDefEqProofs [hr]
theorem ref06_one (a : List UInt32) : callF T 229 [.sl (u32s (ofN (val a))) .an] = some (.b (decide (val a = 1))) := by
 rw [f229 _ rfl, b229]
 generalize val a = n
 by_cases h0 : n = 0
 ·subst h0
  simp -implicitDefEqProofs
 ·rw [ofN_pos h0]
  by_cases h1 : n / 4294967296 = 0
  ·have e : ofN (n / 4294967296) = [] := ofN_eq_nil.2 h1
   have e2 : n % 4294967296 = n := Nat.mod_eq_of_lt (by omega)
   simp -implicitDefEqProofs [e, u32s, w32_mod, e2]
  ·have h2 : ¬ ofN (n / 4294967296) = [] := fun e => h1 (ofN_eq_nil.1 e)
   have h3 : ¬ n = 1 := by rintro rfl; simp at h1
   have h4 : ¬ ((ofN (n / 4294967296)).length : Int) + 1 = 1 := by
    have := List.length_pos_iff.2 h2
    omega
   simp -implicitDefEqProofs [u32s, h3, h4]
theorem ref06_over (a g : List UInt32) (ha : a.length ≤ 10000) (hg : g.length ≤ 10000) (h0 : val g ≠ 0) : callF T 230 [.sl (u32s a) .an, .sl (u32s (ofN (val g))) .an] = some (.sl (u32s (ofN (val a / val g))) .an) := by
 have ho := ref06_one (T := T) g
 have hn := ref02_norm (T := T) a (by omega)
 have hd := ref05_div (T := T) a (ofN (val g)) (by omega) (by have := ofN_length_le g; omega) (by rw [val_ofN]; omega)
 rw [val_ofN] at hd
 rw [f230 _ rfl, b230]
 by_cases h1 : val g = 1
 ·rw [h1] at ho hd ⊢
  simp -implicitDefEqProofs [ho, hn]
 ·simp -implicitDefEqProofs [ho, h1, hd]
theorem ref06_double (a : List UInt32) (k : Nat) (ha : a.length ≤ 10000) (hk : k ≤ 1000000) : callF T 227 [.sl (u32s a) .an, .i .i64 k] = some (.sl (u32s (ofN (2 ^ k * val a))) .an) := by
 have hq : (k : Int).tdiv 32 = (k : Int) / 32 := Int.tdiv_eq_ediv_of_nonneg (by omega)
 have hm2 : (k : Int).tmod 32 = (k : Int) % 32 := Int.tmod_eq_emod_of_nonneg (by omega)
 have s0 : ¬ (k : Int) % 32 < 0 := by omega
 have s1 : ((k : Int) % 32).toNat = k % 32 := by omega
 have s2 : min (k % 32) 32 = k % 32 := by omega
 have w1 : IntKind.wrap .i64 ((k : Int) / 32) = ((k / 32 : Nat) : Int) := by rw [wrap_i64 (k / 32) (by omega)]; omega
 have h2 : 2 ^ (k % 32) < 4294967296 := by
  have := Nat.pow_lt_pow_right (show 1 < 2 by decide) (Nat.mod_lt k (show 0 < 32 by decide))
  have h4 : (2 : Nat) ^ 32 = 4294967296 := rfl
  omega
 have s3 : 2 ^ (k % 32) % 4294967296 = 2 ^ (k % 32) := Nat.mod_eq_of_lt h2
 have hmul := ref04_mul (T := T) (List.replicate (k / 32) 0 ++ a) [w32 (2 ^ (k % 32))] (by simp; omega) (by simp)
 have hv : val (List.replicate (k / 32) 0 ++ a) * val [w32 (2 ^ (k % 32))] = 2 ^ k * val a := by
  rw [val_append, val_replicate, List.length_replicate, val_cons, val_nil, w32_of_lt h2, Nat.mul_zero, Nat.add_zero, Nat.zero_add, pow32, Nat.mul_comm, ← Nat.mul_assoc, ← Nat.pow_add, show k % 32 + 32 * (k / 32) = k by omega]
 rw [hv] at hmul
 have b2 : k / 32 + a.length ≤ 4294967296 := by omega
 have b3 : ((k / 32 : Nat) : Int) ≤ 4294967296 := by omega
 have hu : u32s [w32 (2 ^ (k % 32))] = [[u32 (2 ^ (k % 32))]] := by simp [u32s, w32_of_lt h2]
 rw [hu] at hmul
 have ht : List.take (k / 32 + a.length) (List.replicate (k / 32) 0 ++ a) = List.replicate (k / 32) 0 ++ a := List.take_of_length_le (by simp)
 rw [f227 _ rfl, b227]
 generalize 2 ^ k * val a = V at *
 clear hv hu
 generalize k / 32 = q at *
 simp -implicitDefEqProofs [hq, hm2, w1, s0, s1, s2, s3, hmul, b2, b3, ht]
def nmX : BId := .fld (.loc 12) 22
def nmY : BId := .fld (.loc 14) 22
def nm2 (f : Bool) : BId × BId := if f then (nmX, nmY) else (nmY, nmX)
def stGc (f : Bool) (P a S P2 b S2 : List UInt32) (m n : Nat) : St :=
 ⟨[(5, .bs (nm2 f).1 1 1 P.length a.length), (6, .bs (nm2 f).2 2 1 P2.length b.length), (7, .i .i64 m), (8, .i .i64 n)], [((nm2 f).1, ⟨1, .own, 1, u32s (P ++ (a ++ S))⟩), ((nm2 f).2, ⟨2, .own, 1, u32s (P2 ++ (b ++ S2))⟩)], 4⟩
theorem gc_gt (f : Bool) (P S P2 S2 : List UInt32) (X Y m n : Nat) (hX : (ofN X).length ≤ 10000) (hY : (ofN Y).length ≤ 10000) (h : Y < X) :
  ∃ (P' S' : List UInt32) (k x : Nat), X - Y = 2 ^ k * x ∧ x % 2 = 1 ∧
   evX (orc T) T 0 l228_0 (stGc f P (ofN X) S P2 (ofN Y) S2 m n) = some (.n, stGc f P' (ofN x) S' P2 (ofN Y) S2 m n) := by
 have hc := ref02_cmp (T := T) (ofN X) (ofN Y) (by omega) (by omega)
 rw [val_ofN, val_ofN, show cmpN X Y = 1 by unfold cmpN; rw [if_neg (by omega), if_pos h]] at hc
 obtain ⟨d, hd, hv, hless⟩ := ref05_less2 (T := T) P (ofN X) S P2 (ofN Y) S2 (by omega) (ofN_len_le (Nat.le_of_lt h)) (by rw [val_ofN, val_ofN]; omega)
 rw [val_ofN, val_ofN] at hv
 obtain ⟨P', S', x, k, e1, e2, e3, e4, e5, hodd⟩ := ref06_odd (T := T) P d S (by omega) (by omega)
 refine ⟨P', S', k, x, by omega, e2, ?_⟩
 have t1 : List.take (ofN X).length (List.drop P.length (P ++ (ofN X ++ S))) = ofN X := by simp
 have t2 : List.take (ofN Y).length (List.drop P2.length (P2 ++ (ofN Y ++ S2))) = ofN Y := by simp
 have b1 : P.length + (ofN X).length ≤ (P ++ (ofN X ++ S)).length := by simp
 have b2 : P2.length + (ofN Y).length ≤ (P2 ++ (ofN Y ++ S2)).length := by simp
 rw [hd] at hodd
 unfold stGc
 clear hv e1 e3 e4 e5 hd hX hY
 generalize P ++ (ofN X ++ S) = Q at *
 generalize P2 ++ (ofN Y ++ S2) = R at *
 generalize P' ++ (ofN x ++ S') = Q' at *
 generalize P ++ (d ++ S) = Q2 at *
 generalize ofN X = A at *
 generalize ofN Y = B at *
 cases f <;> simp -implicitDefEqProofs [l228_0, nm2, nmX, nmY, hc, t1, t2, b1, b2, hless, hodd]
theorem gc_lt (f : Bool) (P S P2 S2 : List UInt32) (X Y m n : Nat) (hX : (ofN X).length ≤ 10000) (hY : (ofN Y).length ≤ 10000) (h : X < Y) :
  ∃ (P' S' : List UInt32) (k x : Nat), Y - X = 2 ^ k * x ∧ x % 2 = 1 ∧
   evX (orc T) T 0 l228_0 (stGc f P (ofN X) S P2 (ofN Y) S2 m n) = some (.n, stGc (!f) P' (ofN x) S' P (ofN X) S m n) := by
 have hc := ref02_cmp (T := T) (ofN X) (ofN Y) (by omega) (by omega)
 rw [val_ofN, val_ofN, show cmpN X Y = -1 by unfold cmpN; rw [if_pos h]] at hc
 obtain ⟨d, hd, hv, hless⟩ := ref05_less2 (T := T) P2 (ofN Y) S2 P (ofN X) S (by omega) (ofN_len_le (Nat.le_of_lt h)) (by rw [val_ofN, val_ofN]; omega)
 rw [val_ofN, val_ofN] at hv
 obtain ⟨P', S', x, k, e1, e2, e3, e4, e5, hodd⟩ := ref06_odd (T := T) P2 d S2 (by omega) (by omega)
 refine ⟨P', S', k, x, by omega, e2, ?_⟩
 have t1 : List.take (ofN X).length (List.drop P.length (P ++ (ofN X ++ S))) = ofN X := by simp
 have t2 : List.take (ofN Y).length (List.drop P2.length (P2 ++ (ofN Y ++ S2))) = ofN Y := by simp
 have b1 : P.length + (ofN X).length ≤ (P ++ (ofN X ++ S)).length := by simp
 have b2 : P2.length + (ofN Y).length ≤ (P2 ++ (ofN Y ++ S2)).length := by simp
 rw [hd] at hodd
 unfold stGc
 clear hv e1 e3 e4 e5 hd hX hY
 generalize P ++ (ofN X ++ S) = Q at *
 generalize P2 ++ (ofN Y ++ S2) = R at *
 generalize P' ++ (ofN x ++ S') = Q' at *
 generalize P2 ++ (d ++ S2) = Q2 at *
 generalize ofN X = A at *
 generalize ofN Y = B at *
 cases f <;> simp -implicitDefEqProofs [l228_0, nm2, nmX, nmY, hc, t1, t2, b1, b2, hless, hodd]
theorem gc_eq (f : Bool) (P S P2 S2 : List UInt32) (X m n : Nat) (hX : (ofN X).length ≤ 10000) {G : Option (Ex × St)}
  (hG : G = some (.n, ⟨[(5, .bs (nm2 f).1 1 1 P.length (ofN X).length), (7, .i .i64 m), (8, .i .i64 n)], [((nm2 f).1, ⟨1, .own, 1, u32s (P ++ (ofN X ++ S))⟩)], 3⟩)) :
  isEx (evX (orc T) T 0 l228_0 (stGc f P (ofN X) S P2 (ofN X) S2 m n)) = true ∧ finX 0 0 (Gh.norm false [5, 7, 8]) (evX (orc T) T 0 l228_0 (stGc f P (ofN X) S P2 (ofN X) S2 m n)) = G := by
 subst hG
 have hc := ref02_cmp (T := T) (ofN X) (ofN X) (by omega) (by omega)
 rw [val_ofN, show cmpN X X = 0 by unfold cmpN; rw [if_neg (by omega), if_neg (by omega)]] at hc
 have t1 : List.take (ofN X).length (List.drop P.length (P ++ (ofN X ++ S))) = ofN X := by simp
 have t2 : List.take (ofN X).length (List.drop P2.length (P2 ++ (ofN X ++ S2))) = ofN X := by simp
 have b1 : P.length + (ofN X).length ≤ (P ++ (ofN X ++ S)).length := by simp
 have b2 : P2.length + (ofN X).length ≤ (P2 ++ (ofN X ++ S2)).length := by simp
 unfold stGc
 generalize P ++ (ofN X ++ S) = Q at *
 generalize P2 ++ (ofN X ++ S2) = R at *
 generalize ofN X = A at *
 cases f <;> constructor <;> simp -implicitDefEqProofs [l228_0, nm2, nmX, nmY, hc, t1, t2, b1, b2]
structure Gc where
 f : Bool
 P : List UInt32
 S : List UInt32
 P2 : List UInt32
 S2 : List UInt32
 X : Nat
 Y : Nat
theorem gc_loop (G m n : Nat) : ∀ y : Gc, ((ofN y.X).length ≤ 10000 ∧ (ofN y.Y).length ≤ 10000 ∧ y.X % 2 = 1 ∧ y.Y % 2 = 1 ∧ Nat.gcd y.X y.Y = G) →
  ∃ r, (∃ (f : Bool) (P S : List UInt32), r = (Ex.n, (⟨[(5, .bs (nm2 f).1 1 1 P.length (ofN G).length), (7, .i .i64 m), (8, .i .i64 n)], [((nm2 f).1, ⟨1, .own, 1, u32s (P ++ (ofN G ++ S))⟩)], 3⟩ : St))) ∧
   loopN T 0 0 (.norm false [5, 7, 8]) l228_0 (stGc y.f y.P (ofN y.X) y.S y.P2 (ofN y.Y) y.S2 m n) = some r := by
 refine loopN_ex (fun y : Gc => stGc y.f y.P (ofN y.X) y.S y.P2 (ofN y.Y) y.S2 m n) _ (fun y => y.X + y.Y) _ ?_
 rintro ⟨f, P, S, P2, S2, X, Y⟩ ⟨hX, hY, oX, oY, hG⟩
 simp only at hX hY oX oY hG ⊢
 rcases Nat.lt_trichotomy X Y with h | h | h
 ·left
  obtain ⟨P', S', k, x, e1, e2, he⟩ := gc_lt (T := T) f P S P2 S2 X Y m n hX hY h
  have hle : x ≤ Y - X := by rw [e1]; exact Nat.le_mul_of_pos_left _ (Nat.pow_pos (by decide))
  refine ⟨⟨!f, P', S', P, S, x, X⟩, ⟨?_, hX, e2, oX, ?_⟩, by simp only; omega, he⟩
  ·have := ofN_len_le (show x ≤ Y by omega)
   simp only; omega
  ·simp only
   rw [gcd_less oX (Nat.le_of_lt h) e1, ← hG, Nat.gcd_comm]
 ·right
  subst h
  rw [Nat.gcd_self] at hG
  subst hG
  obtain ⟨h1, h2⟩ := gc_eq (T := T) f P S P2 S2 X m n hX rfl
  exact ⟨_, ⟨f, P, S, rfl⟩, h1, h2⟩
 ·left
  obtain ⟨P', S', k, x, e1, e2, he⟩ := gc_gt (T := T) f P S P2 S2 X Y m n hX hY h
  have hle : x ≤ X - Y := by rw [e1]; exact Nat.le_mul_of_pos_left _ (Nat.pow_pos (by decide))
  refine ⟨⟨f, P', S', P2, S2, x, Y⟩, ⟨?_, hY, e2, oY, ?_⟩, by simp only; omega, he⟩
  ·have := ofN_len_le (show x ≤ X by omega)
   simp only; omega
  ·simp only
   rw [gcd_less oY (Nat.le_of_lt h) e1, ← hG]
theorem ref06_gcd (a b : List UInt32) (ha : a.length ≤ 10000) (hb : b.length ≤ 10000) : callF T 228 [.sl (u32s a) .an, .sl (u32s b) .an] = some (.sl (u32s (ofN (Nat.gcd (val a) (val b)))) .an) := by
 have n1 := ref02_norm_own (T := T) a (by omega)
 have n2 := ref02_norm_own (T := T) b (by omega)
 have la := ofN_length_le a
 have lb := ofN_length_le b
 rw [f228 _ rfl, b228]
 generalize val a = X at *
 generalize val b = Y at *
 have tX : List.take (ofN X).length (ofN X) = ofN X := List.take_of_length_le (Nat.le_refl _)
 have tY : List.take (ofN Y).length (ofN Y) = ofN Y := List.take_of_length_le (Nat.le_refl _)
 by_cases hX : X = 0
 ·subst hX
  rw [Nat.gcd_zero_left]
  simp only [ofN_zero] at n1
  generalize ofN Y = B at *
  simp -implicitDefEqProofs [n1, n2, tY]
 ·have eX : ¬ ofN X = [] := fun e => hX (ofN_eq_nil.1 e)
  by_cases hY : Y = 0
  ·subst hY
   rw [Nat.gcd_zero_right]
   simp only [ofN_zero] at n2
   generalize ofN X = A at *
   simp -implicitDefEqProofs [n1, n2, eX, tX]
  ·have eY : ¬ ofN Y = [] := fun e => hY (ofN_eq_nil.1 e)
   obtain ⟨P1, S1, x, m, e1, e2, e3, e4, e5, o1⟩ := ref06_odd (T := T) [] (ofN X) [] (by omega) (by rw [val_ofN]; exact hX)
   obtain ⟨P2, S2, y, n, g1, g2, g3, g4, g5, o2⟩ := ref06_odd (T := T) [] (ofN Y) [] (by omega) (by rw [val_ofN]; exact hY)
   rw [val_ofN] at e1 g1
   obtain ⟨_, ⟨f, P, S, rfl⟩, hl⟩ := gc_loop (T := T) (Nat.gcd x y) m n ⟨true, P1, S1, P2, S2, x, y⟩ ⟨by simp only; omega, by simp only; omega, e2, g2, rfl⟩
   have hG : Nat.gcd X Y = 2 ^ (min m n) * Nat.gcd x y := by rw [e1, g1]; exact gcd_two e2 g2
   have hgl : (ofN (Nat.gcd x y)).length ≤ 10000 := by
    have := ofN_len_le (Nat.gcd_le_left y (show 0 < x by omega))
    omega
   have hdb := ref06_double (T := T) (ofN (Nat.gcd x y)) (min m n) hgl (by omega)
   rw [val_ofN, ← hG] at hdb
   simp only [List.nil_append, List.append_nil, List.length_nil] at o1 o2
   unfold stGc at hl
   have t1 : List.take (ofN (Nat.gcd x y)).length (List.drop P.length (P ++ (ofN (Nat.gcd x y) ++ S))) = ofN (Nat.gcd x y) := by simp
   have b1 : P.length + (ofN (Nat.gcd x y)).length ≤ (P ++ (ofN (Nat.gcd x y) ++ S)).length := by simp
   have hmin : (if n < m then (n : Int) else (m : Int)) = ((min m n : Nat) : Int) := by split <;> omega
   clear e1 e2 e3 e4 e5 g1 g2 g3 g4 g5 hG hgl
   generalize min m n = K at *
   generalize P ++ (ofN (Nat.gcd x y) ++ S) = Q at *
   generalize P1 ++ (ofN x ++ S1) = Q1 at *
   generalize P2 ++ (ofN y ++ S2) = Q2 at *
   generalize ofN (Nat.gcd x y) = g at *
   generalize ofN (Nat.gcd X Y) = g' at *
   simp only [nm2, nmX, nmY, if_true] at hl
   generalize ofN X = A at *
   generalize ofN Y = B at *
   cases f <;> simp only [Bool.false_eq_true, if_false, if_true] at hl <;> simp -implicitDefEqProofs [n1, n2, eX, eY, o1, o2, hl, hdb, t1, b1, hmin, mm2]
end
end Go.Ab
end

section
namespace Go.Ab
section
variable {T : Tbl} [CRef08 T]
theorem ref08_norm (n : Bool) (a : List UInt32) (ha : a.length ≤ 1000000) : callF T 39 [wh n a] = some (ez (wv n a)) := by
 have h := ref02_norm (T := T) a ha
 have hl : (0 < (ofN (val a)).length) = (val a ≠ 0) := by
  rw [eq_iff_iff, List.length_pos_iff]
  exact not_congr ofN_eq_nil
 rw [f39 _ rfl, b39]
 unfold wv
 rw [ez_sg]
 cases n <;> simp -implicitDefEqProofs [h, hl]
theorem ref08_read (l : List UInt8) (hl : l.length ≤ 1000000) : callF T 33 [.s l] = some (.tup (if 0 ≤ wrongZ l then [wh false [], .i .i64 (wrongZ l + minus l)] else [ez (readZ l), .i .i64 (-1)])) := by
 obtain ⟨l', hl'⟩ : ∃ l', l' = if l.head? = some 45 then l.tail else l := ⟨_, rfl⟩
 have hl2 : l'.length ≤ 1000000 := by
  rw [hl']
  split
  ·simp; omega
  ·exact hl
 have h1 := ref07_wrong (T := T) l' hl2
 have hwb : wrongI l' ≤ 60 := by
  unfold wrongI
  split
  ·omega
  ·exact wrAt_le 0 l' (by omega)
 have hdr : ∀ c r, l = c :: r → c = 45 → l' = r := by rintro c r rfl rfl; rw [hl']; rfl
 have hdn : l.head? ≠ some 45 → l' = l := by intro h; rw [hl', if_neg h]
 unfold wrongZ readZ
 rw [← hl', f33 _ rfl, b33]
 have hrd : ¬ 0 ≤ wrongI l' → callF T 67 [.s l'] = some (.sl (u32s (ofN (rd l'))) .an) := by
  intro h0
  have h1 : wrAt 0 l' < 0 := by
   unfold wrongI at h0
   split at h0
   ·omega
   ·omega
  obtain ⟨h2, h3⟩ := wrAt_neg 0 l' (Nat.zero_le _) h1
  exact ref07_read (T := T) l' (by omega) h3
 have hrl : ¬ 0 ≤ wrongI l' → (ofN (rd l')).length ≤ 1000000 := by
  intro h0
  have h1 : wrAt 0 l' < 0 := by
   unfold wrongI at h0
   split at h0
   ·omega
   ·omega
  obtain ⟨h2, h3⟩ := wrAt_neg 0 l' (Nat.zero_le _) h1
  refine Nat.le_trans (ofN_length_le' (k := 60) ?_) (by decide)
  have h4 := rd_lt h3
  have h5 : 10 ^ l'.length ≤ 10 ^ 60 := Nat.pow_le_pow_right (by decide) (by omega)
  exact Nat.lt_of_lt_of_le h4 (Nat.le_trans h5 (by decide))
 have hno : ∀ n, ¬ 0 ≤ wrongI l' → callF T 39 [wh n (ofN (rd l'))] = some (ez (sg n (rd l'))) := by
  intro n h0
  rw [ref08_norm (T := T) n _ (hrl h0)]
  unfold wv
  rw [val_ofN]
 by_cases h45 : l.head? = some 45
 ·cases l with
  | nil => cases h45
  | cons c r =>
   have hc : c = 45 := by simpa using h45
   have hr := hdr c r rfl hc
   subst hc
   subst hr
   have b1 : (1 : Int) ≤ (l'.length : Int) + 1 := by omega
   have b2 : (0 : Int) < (l'.length : Int) + 1 := by omega
   by_cases h0 : 0 ≤ wrongI l'
   ·have hw : IntKind.wrap .i64 (1 + wrongI l') = wrongI l' + 1 := by rw [wrap_i64 _ (by omega)]; omega
    simp -implicitDefEqProofs [h1, h0, hw, b1, b2, minus]
   ·have h5 := hrd h0
    have h6 := hno true h0
    obtain ⟨z, hz⟩ : ∃ z, z = sg true (rd l') := ⟨_, rfl⟩
    rw [← hz] at h6
    simp -implicitDefEqProofs [h1, h0, b1, b2, h5, h6, ← hz]
 ·have hr := hdn h45
  rw [hr] at h1 hwb hrd hno ⊢
  clear hdr hdn hl' hr hrl hl2
  have hw : 0 ≤ wrongI l → IntKind.wrap .i64 (wrongI l) = wrongI l := fun _ => wrap_i64 _ (by omega)
  cases l with
  | nil =>
   have e : wrongI [] = 0 := rfl
   rw [e] at h1
   simp -implicitDefEqProofs [h1, e, minus]
  | cons c r =>
   have hc : c ≠ 45 := by simpa using h45
   have hc2 : ¬ c.toNat = 45 := fun h => hc (by rw [← UInt8.toNat_inj]; exact h)
   by_cases h0 : 0 ≤ wrongI (c :: r)
   ·have hw1 := hw h0
    simp -implicitDefEqProofs [h1, h0, hw1, hc, hc2, minus]
   ·have h5 := hrd h0
    have h6 := hno false h0
    obtain ⟨z, hz⟩ : ∃ z, z = sg false (rd (c :: r)) := ⟨_, rfl⟩
    rw [← hz] at h6
    simp -implicitDefEqProofs [h1, h0, hc, hc2, h5, h6, ← hz]
end
end Go.Ab
end

section
namespace Go.Ab
section
variable {T : Tbl} [CRef02 T] [CRef04 T] [CRef05 T] [CRef07 T] [CRef06 T] [CRef08 T] [CRef09 T]
theorem ref09_norm (x : Fz) (hx : fsz x ≤ 10000) : callF T 231 [efz x] = some (efz (fz (fv x))) := by
 obtain ⟨n, a, d⟩ := x
 have la := fsz_a (n, a, d)
 have ld := fsz_d (n, a, d)
 simp only at la ld
 have n1 := ref02_norm (T := T) a (by omega)
 have n2 := ref02_norm (T := T) d (by omega)
 have la2 := ofN_length_le a
 have ld2 := ofN_length_le d
 have ho := ref06_one (T := T) d
 have hg := ref06_gcd (T := T) (ofN (val a)) (ofN (val d)) (by omega) (by omega)
 rw [val_ofN, val_ofN] at hg
 show _ = some (efz (fz (mkRat (sg n (val a)) (val d))))
 by_cases hd : val d = 0
 ·rw [hd, Rat.mkRat_zero, fz_zero, f231 _ rfl, b231]
  rw [hd] at n2
  simp only [ofN_zero] at n2
  simp -implicitDefEqProofs [n1, n2, show u32s [1] = [[u32 1]] from rfl]
 ·by_cases ha : val a = 0
  ·have e0 : mkRat (sg n (val a)) (val d) = 0 := by rw [Rat.mkRat_eq_zero hd, ha]; cases n <;> rfl
   have ed : ¬ ofN (val d) = [] := fun e => hd (ofN_eq_nil.1 e)
   rw [e0, fz_zero, f231 _ rfl, b231]
   rw [ha] at n1
   simp only [ofN_zero] at n1
   simp -implicitDefEqProofs [n1, n2, ed, show u32s [1] = [[u32 1]] from rfl]
  ·have ea : ¬ ofN (val a) = [] := fun e => ha (ofN_eq_nil.1 e)
   have ed : ¬ ofN (val d) = [] := fun e => hd (ofN_eq_nil.1 e)
   rw [fz_mk n (val a) hd, show decide (val a ≠ 0) = true by simpa using ha, Bool.and_true]
   have gpos : Nat.gcd (val a) (val d) ≠ 0 := by
    have := Nat.gcd_pos_of_pos_right (val a) (Nat.pos_of_ne_zero hd)
    omega
   have glen : (ofN (Nat.gcd (val a) (val d))).length ≤ 10000 := by
    have := ofN_len_le (Nat.gcd_le_right (val a) (Nat.pos_of_ne_zero hd))
    omega
   have o1 := ref06_over (T := T) (ofN (val a)) (ofN (Nat.gcd (val a) (val d))) (by omega) glen (by rw [val_ofN]; exact gpos)
   have o2 := ref06_over (T := T) (ofN (val d)) (ofN (Nat.gcd (val a) (val d))) (by omega) glen (by rw [val_ofN]; exact gpos)
   rw [val_ofN, val_ofN] at o1 o2
   rw [f231 _ rfl, b231]
   by_cases h1 : val d = 1
   ·rw [h1] at n2 ho ed ⊢
    rw [Nat.gcd_one_right, Nat.div_one, Nat.div_one]
    generalize ofN (val a) = A at *
    generalize ofN 1 = O at *
    simp -implicitDefEqProofs [n1, n2, ho, ea, ed]
   ·generalize ofN (val a / Nat.gcd (val a) (val d)) = A' at *
    generalize ofN (val d / Nat.gcd (val a) (val d)) = D' at *
    generalize ofN (Nat.gcd (val a) (val d)) = G at *
    generalize ofN (val a) = A at *
    generalize ofN (val d) = D at *
    simp -implicitDefEqProofs [n1, n2, ho, ea, ed, h1, hg, o1, o2]
theorem ref02_of (n : Nat) (h : n < 18446744073709551616) : callF T 353 [u64 n] = some (.sl (u32s (ofN n)) .an) := by
 have e2 : val [w32 n, w32 (n / 4294967296)] = n := by simp [w32_mod]; omega
 have h2 := ref02_norm (T := T) [w32 n, w32 (n / 4294967296)] (by simp)
 rw [e2] at h2
 have h3 : n / 4294967296 % 4294967296 = n / 4294967296 := Nat.mod_eq_of_lt (by omega)
 have h4 : n / 4294967296 % 18446744073709551616 = n / 4294967296 := Nat.mod_eq_of_lt (by omega)
 rw [f353 _ rfl, b353]
 simp -implicitDefEqProofs [h3, h4, u32s_set _ _ _ (show n / 4294967296 < 4294967296 by omega), h2]
theorem ref09_int (k : Int) (h1 : -9223372036854775808 ≤ k) (h2 : k < 9223372036854775808) : callF T 232 [.i .i64 k] = some (efz (fz (k : Rat))) := by
 have hu : u32s [1] = [[u32 1]] := rfl
 rw [f232 _ rfl, b232]
 by_cases hk : k < 0
 ·have w1 : IntKind.wrap .i64 (k + 1) = k + 1 := wrap_i64 _ (by omega)
  have w2 : IntKind.wrap .i64 (-(k + 1)) = -(k + 1) := wrap_i64 _ (by omega)
  have w3 : (-(k + 1) % 18446744073709551616).toNat = k.natAbs - 1 := by omega
  have c1 := ref02_of (T := T) (k.natAbs - 1) (by omega)
  have c2 := ref02_add (T := T) (ofN (k.natAbs - 1)) [1] (by have := ofN_length_le' (n := k.natAbs - 1) (k := 2) (by show _ < 18446744073709551616; omega); omega) (by decide)
  have e1 : val (ofN (k.natAbs - 1)) + val [1] = k.natAbs := by rw [val_ofN]; show _ + (1 + 4294967296 * 0) = _; omega
  rw [e1, hu] at c2
  have c3 := ref09_norm (T := T) (true, ofN k.natAbs, [1]) (by
   have := ofN_length_le' (n := k.natAbs) (k := 2) (by show _ < 18446744073709551616; omega)
   unfold fsz; simp only [List.length_singleton]; omega)
  have e2 : fv (true, ofN k.natAbs, [1]) = (k : Rat) := by
   unfold fv wv
   simp only [val_ofN]
   rw [show val [1] = 1 from rfl, show sg true k.natAbs = k by unfold sg; rw [if_pos rfl]; omega]
   rw [← Rat.divInt_ofNat]
   exact Rat.num_divInt_den (k : Rat)
  rw [e2] at c3
  change callF T 231 [.agg [.b true, .sl (u32s (ofN k.natAbs)) .an, .sl (u32s [1]) .an]] = _ at c3
  rw [hu] at c3
  generalize fz (k : Rat) = z at *
  simp -implicitDefEqProofs [hk, w1, w2, w3, c1, c2, c3]
 ·have w3 : (k % 18446744073709551616).toNat = k.natAbs := by omega
  have c1 := ref02_of (T := T) k.natAbs (by omega)
  have c3 := ref09_norm (T := T) (false, ofN k.natAbs, [1]) (by
   have := ofN_length_le' (n := k.natAbs) (k := 2) (by show _ < 18446744073709551616; omega)
   unfold fsz; simp only [List.length_singleton]; omega)
  have e2 : fv (false, ofN k.natAbs, [1]) = (k : Rat) := by
   unfold fv wv
   simp only [val_ofN]
   rw [show val [1] = 1 from rfl, show sg false k.natAbs = k by unfold sg; simp; omega]
   rw [← Rat.divInt_ofNat]
   exact Rat.num_divInt_den (k : Rat)
  rw [e2] at c3
  change callF T 231 [.agg [.b false, .sl (u32s (ofN k.natAbs)) .an, .sl (u32s [1]) .an]] = _ at c3
  rw [hu] at c3
  generalize fz (k : Rat) = z at *
  simp -implicitDefEqProofs [hk, w3, c1, c3]
theorem ref09_int0 : callF T 232 [.i .i64 0] = some (efz (fz 0)) := ref09_int 0 (by decide) (by decide)
theorem ref09_same (x y : Fz) (hx : fsz x ≤ 10000) : callF T 233 [efz x, efz y] = some (.b (decide (x = y))) := by
 obtain ⟨n, a, d⟩ := x
 obtain ⟨m, b, e⟩ := y
 have la := fsz_a (n, a, d)
 have ld := fsz_d (n, a, d)
 simp only at la ld
 have c1 := ref02_same (T := T) a b (by omega)
 have c2 := ref02_same (T := T) d e (by omega)
 rw [f233 _ rfl, b233]
 by_cases h1 : n = m
 ·subst h1
  by_cases h2 : a = b
  ·subst h2
   by_cases h3 : d = e
   ·subst h3
    simp -implicitDefEqProofs [c1, c2]
   ·simp -implicitDefEqProofs [c1, c2, h3]
  ·simp -implicitDefEqProofs [c1, h2]
 ·simp -implicitDefEqProofs [c1, c2, h1]
end
end Go.Ab
end

section
namespace Go.Ab
theorem cutN_step {s : List UInt8} {i : Nat} (h : i < s.length) (hc : cutN s = i + cutN (s.drop i)) :
  (isCut (s[i]'h) = true ∧ cutN s = i) ∨ (isCut (s[i]'h) = false ∧ cutN s = (i + 1) + cutN (s.drop (i + 1))) := by
 have hd : s.drop i = s[i]'h :: s.drop (i + 1) := List.drop_eq_getElem_cons h
 rw [hd] at hc
 simp only [cutN] at hc
 cases hC : isCut (s[i]'h) with
 | true =>
  rw [hC] at hc
  simp only [if_true] at hc
  exact .inl ⟨rfl, by omega⟩
 | false =>
  rw [hC] at hc
  simp only [Bool.false_eq_true, if_false] at hc
  exact .inr ⟨rfl, by omega⟩
theorem isCut_or {c : UInt8} (h : isCut c = true) : c = 47 ∨ c = 46 := by simpa [isCut] using h
theorem isCut_no {c : UInt8} (h : isCut c = false) : c ≠ 47 ∧ c ≠ 46 := by simpa [isCut] using h
theorem u8_ne {c : UInt8} {n : Nat} (hn : n < 256) (h : c ≠ UInt8.ofNat n) : ¬ c.toNat = n := fun e => h (by
 rw [← UInt8.toNat_inj, e]
 rw [UInt8.toNat_ofNat']
 omega)
section
variable {T : Tbl} [CRef02 T] [CRef04 T] [CRef05 T] [CRef07 T] [CRef06 T] [CRef08 T] [CRef09 T] [CRef10 T]
theorem ref10_tens (n : Nat) (hn : n ≤ 60) : callF T 260 [.i .i64 n] = some (.sl (u32s (ofN (10 ^ n))) .an) := by
 have hl : ∀ i : Nat, i ≤ n → loopN T 0 0 (.norm false [3]) l260_0 ⟨[(0, .i .i64 n), (3, .sl (u32s (ofN (10 ^ i))) .an), (4, .i .i64 i)], [], 2⟩ = some (.n, ⟨[(3, .sl (u32s (ofN (10 ^ n))) .an)], [], 2⟩) := by
  refine loopN_eq (fun i : Nat => ⟨[(0, .i .i64 n), (3, .sl (u32s (ofN (10 ^ i))) .an), (4, .i .i64 i)], [], 2⟩) _ (fun i => n - i) _ ?_
  intro i hi
  by_cases h0 : i < n
  ·left
   have hw : IntKind.wrap .i64 ((i : Int) + 1) = ((i + 1 : Nat) : Int) := wrap_i64 _ (by omega)
   have hil : (i : Int) < n := by omega
   have hol := ten_len (n := i) (by omega)
   have hml := ref04_mul (T := T) (ofN (10 ^ i)) [w32 10] (by omega) (by simp)
   have hv10 : val [w32 10] = 10 := by decide
   rw [val_ofN, hv10, ← Nat.pow_succ] at hml
   have e10 : u32s [w32 10] = [[u32 10]] := rfl
   rw [e10] at hml
   refine ⟨i + 1, h0, by show n - (i + 1) < n - i; omega, ?_, rfl⟩
   clear hol hv10
   generalize ofN (10 ^ (i + 1)) = R at *
   generalize ofN (10 ^ i) = S at *
   simp -implicitDefEqProofs [l260_0, h0, hil, hml, hw]
  ·right
   have : i = n := by omega
   subst this
   generalize ofN (10 ^ i) = S at *
   constructor <;> simp -implicitDefEqProofs [l260_0]
 have h := hl 0 (Nat.zero_le _)
 have e1 : u32s (ofN (10 ^ 0)) = [[u32 1]] := by rw [Nat.pow_zero, ofN_one]; rfl
 rw [e1] at h
 simp only [Int.natCast_zero] at h
 rw [f260 _ rfl, b260]
 generalize ofN (10 ^ n) = R at *
 simp -implicitDefEqProofs [h]
theorem ct_loop (s : List UInt8) (hs : s.length ≤ 1000000) : ∀ i : Nat, (i ≤ s.length ∧ cutN s = i + cutN (s.drop i)) →
  loopN T 0 0 (.norm false [0, 2, 5]) l261_0 ⟨[(0, .s s), (2, .ptr (.loc 2) 1 3 0 0), (5, .i .i64 i)], [(.loc 2, ⟨1, .str, 3, [[.b false, .sl [] .an, .sl [] .an]]⟩)], 3⟩ = some (.n, ⟨[(0, .s s), (2, .ptr (.loc 2) 1 3 0 0), (5, .i .i64 (cutN s))], [(.loc 2, ⟨1, .str, 3, [[.b false, .sl [] .an, .sl [] .an]]⟩)], 3⟩) := by
 refine loopN_eq (fun i : Nat => ⟨[(0, .s s), (2, .ptr (.loc 2) 1 3 0 0), (5, .i .i64 i)], [(.loc 2, ⟨1, .str, 3, [[.b false, .sl [] .an, .sl [] .an]]⟩)], 3⟩) _ (fun i => s.length - i) _ ?_
 rintro i ⟨hi, hcut⟩
 by_cases h0 : i < s.length
 ·have hil : (i : Int) < s.length := by omega
  have hw : IntKind.wrap .i64 ((i : Int) + 1) = ((i + 1 : Nat) : Int) := wrap_i64 _ (by omega)
  have hg : s[i]? = some (s[i]'h0) := List.getElem?_eq_getElem h0
  rcases cutN_step h0 hcut with ⟨h1, h2⟩ | ⟨h1, h2⟩
  ·right
   rw [h2]
   clear hcut
   generalize s[i]'h0 = c at *
   obtain ⟨_, hgE⟩ := List.getElem?_eq_some_iff.1 hg
   rcases isCut_or h1 with rfl | rfl <;> (constructor <;> simp -implicitDefEqProofs [l261_0, h0, hil, hg, hgE])
  ·left
   refine ⟨i + 1, ⟨h0, h2⟩, by show s.length - (i + 1) < s.length - i; omega, ?_, rfl⟩
   clear hcut h2
   generalize s[i]'h0 = c at *
   obtain ⟨_, hgE⟩ := List.getElem?_eq_some_iff.1 hg
   obtain ⟨n1, n2⟩ := isCut_no h1
   have n3 := u8_ne (n := 47) (by decide) n1
   have n4 := u8_ne (n := 46) (by decide) n2
   simp -implicitDefEqProofs [l261_0, h0, hil, hg, hgE, hw, n1, n2, n3, n4]
 ·right
  have : i = s.length := by omega
  subst this
  rw [List.drop_length] at hcut
  have : cutN s = s.length := by simpa [cutN] using hcut
  rw [this]
  constructor <;> simp -implicitDefEqProofs [l261_0]
theorem ref10_read (s : List UInt8) (hs : s.length ≤ 100000) :
  callF T 261 [.s s] = some (.tup [efz (fz (figR s).1), .i .i64 (figR s).2.1, .i .i64 (figR s).2.2]) := by
 have hl := ct_loop (T := T) s (by omega) 0 ⟨Nat.zero_le _, by simp⟩
 simp only [Int.natCast_zero] at hl
 have hr := ref08_read (T := T) (s.take (cutN s)) (by rw [List.length_take]; omega)
 have hle := cutN_le s
 have c0 := ref09_int0 (T := T)
 have q1 : (0 : Int) ≤ (cutN s : Int) := by omega
 have q2 : (cutN s : Int) ≤ s.length := by omega
 rw [f261 _ rfl, b261]
 by_cases h0 : 0 ≤ wrongZ (s.take (cutN s))
 ·have eR : figR s = (0, 1, wrongZ (s.take (cutN s)) + minus (s.take (cutN s))) := by simp only [figR, if_pos h0]
  rw [eR]
  rw [if_pos h0] at hr
  have hnn := wrongZ_ge (s.take (cutN s))
  have q3 : 0 ≤ wrongZ (s.take (cutN s)) + minus (s.take (cutN s)) := by omega
  clear eR hnn h0
  simp only
  generalize fz 0 = Z at *
  generalize wrongZ (s.take (cutN s)) + minus (s.take (cutN s)) = W at *
  simp -implicitDefEqProofs [hl, hr, c0, q1, q2, q3, hle]
 ·rw [if_neg h0] at hr
  have hrl := read_len h0
  by_cases hc : cutN s < s.length
  ·obtain ⟨c, hg, hcc⟩ := cutN_get s hc
   obtain ⟨_, hgE⟩ := List.getElem?_eq_some_iff.1 hg
   have hd : s.getD (cutN s) 0 = c := by rw [List.getD_eq_getElem?_getD, hg]; rfl
   have eR : figR s = figB (readZ (s.take (cutN s))) (decide (s.head? = some 45)) s c (cutN s + 1) := by simp only [figR, if_neg h0, if_pos hc, hd]
   rw [eR]
   have q4 : (cutN s : Int) < s.length := by omega
   have q5 : ¬ (cutN s : Int) = s.length := by omega
   have q6 : ¬ cutN s = s.length := by omega
   have w1 : IntKind.wrap .i64 ((cutN s : Int) + 1) = ((cutN s + 1 : Nat) : Int) := wrap_i64 _ (by omega)
   have ec : ((cutN s + 1 : Nat) : Int) = (cutN s : Int) + 1 := by omega
   have q7 : (cutN s : Int) + 1 ≤ s.length := by omega
   have q8 : cutN s + 1 ≤ s.length := by omega
   have q9 : (0 : Int) ≤ (cutN s : Int) + 1 := by omega
   have hwr := ref07_wrong (T := T) (s.drop (cutN s + 1)) (by rw [List.length_drop]; omega)
   by_cases h1 : 0 ≤ wrongI (s.drop (cutN s + 1))
   ·have eB : figB (readZ (s.take (cutN s))) (decide (s.head? = some 45)) s c (cutN s + 1) = (0, 1, wrongI (s.drop (cutN s + 1)) + ((cutN s + 1 : Nat) : Int)) := by simp only [figB, if_pos h1]
    rw [eB]
    have hwb : wrongI (s.drop (cutN s + 1)) ≤ 60 := by
     unfold wrongI
     split
     ·omega
     ·exact wrAt_le 0 _ (by decide)
    have w2 : IntKind.wrap .i64 ((cutN s : Int) + 1 + wrongI (s.drop (cutN s + 1))) = wrongI (s.drop (cutN s + 1)) + ((cutN s : Int) + 1) := by
     rw [wrap_i64 _ (by omega)]; omega
    rw [ec] at w1 ⊢
    clear eR eB hrl h0 hd
    simp only
    generalize fz 0 = Z at *
    generalize readZ (s.take (cutN s)) = RZ at *
    generalize wrongI (s.drop (cutN s + 1)) = W at *
    simp -implicitDefEqProofs [hl, hr, c0, q1, q2, q4, q5, q6, q7, q8, q9, hle, hwr, h1, w1, w2]
   ·obtain ⟨hl60, hrdl⟩ := rd_len h1
    have hdg : ∀ b ∈ s.drop (cutN s + 1), 48 ≤ b.toNat ∧ b.toNat ≤ 57 := by
     have h2 : wrAt 0 (s.drop (cutN s + 1)) < 0 := by
      unfold wrongI at h1
      split at h1
      ·omega
      ·omega
     exact (wrAt_neg 0 _ (Nat.zero_le _) h2).2
    have hrr := ref07_read (T := T) (s.drop (cutN s + 1)) hl60 hdg
    rw [ec] at w1
    rcases hcc with rfl | rfl
    ·by_cases hz : rd (s.drop (cutN s + 1)) = 0
     ·have eB : figB (readZ (s.take (cutN s))) (decide (s.head? = some 45)) s 47 (cutN s + 1) = (0, 2, ((cutN s + 1 : Nat) : Int)) := by simp only [figB, if_neg h1, if_true, if_pos hz]
      rw [eB]
      rw [hz, ofN_zero] at hrr
      rw [ec]
      clear eR eB hrl h0 hd hrdl
      simp only
      generalize fz 0 = Z at *
      generalize readZ (s.take (cutN s)) = RZ at *
      generalize wrongI (s.drop (cutN s + 1)) = W at *
      simp -implicitDefEqProofs [hl, hr, c0, q1, q2, q4, q5, q6, q7, q8, q9, hle, hwr, h1, w1, hg, hgE, hrr]
     ·have eB : figB (readZ (s.take (cutN s))) (decide (s.head? = some 45)) s 47 (cutN s + 1) = (mkRat (readZ (s.take (cutN s))) (rd (s.drop (cutN s + 1))), 0, 0) := by simp only [figB, if_neg h1, if_true, if_neg hz]
      rw [eB]
      have hn := ref09_norm (T := T) (decide (readZ (s.take (cutN s)) < 0), ofN (readZ (s.take (cutN s))).natAbs, ofN (rd (s.drop (cutN s + 1)))) (by
       refine Nat.max_le.2 ⟨?_, ?_⟩ <;> simp only <;> omega)
      have ev : fv (decide (readZ (s.take (cutN s)) < 0), ofN (readZ (s.take (cutN s))).natAbs, ofN (rd (s.drop (cutN s + 1)))) = mkRat (readZ (s.take (cutN s))) (rd (s.drop (cutN s + 1))) := by
       show mkRat (wv _ _) (val _) = _
       rw [wv_ez, val_ofN]
      rw [ev] at hn
      have hz2 : ¬ (ofN (rd (s.drop (cutN s + 1)))).length = 0 := by
       intro h
       have := congrArg val (List.eq_nil_of_length_eq_zero h)
       rw [val_ofN] at this
       exact hz this
      clear eR eB hrl h0 hd hrdl ev hz
      simp only
      generalize fz (mkRat (readZ (s.take (cutN s))) (rd (s.drop (cutN s + 1)))) = Z at *
      generalize readZ (s.take (cutN s)) = RZ at *
      generalize ofN (rd (s.drop (cutN s + 1))) = RR at *
      generalize wrongI (s.drop (cutN s + 1)) = W at *
      have hz3 : ¬ RR = [] := fun h => hz2 (by rw [h]; rfl)
      simp -implicitDefEqProofs [hl, hr, q1, q2, q4, q5, q6, q7, q8, q9, hle, hwr, h1, w1, hg, hgE, hrr, hn, hz2, hz3]
    ·have eB : figB (readZ (s.take (cutN s))) (decide (s.head? = some 45)) s 46 (cutN s + 1) = (mkRat (sg (decide (s.head? = some 45)) ((readZ (s.take (cutN s))).natAbs * 10 ^ (s.drop (cutN s + 1)).length + rd (s.drop (cutN s + 1)))) (10 ^ (s.drop (cutN s + 1)).length), 0, 0) := by
      simp only [figB, if_neg h1, show ¬ ((46 : UInt8) = 47) by decide, if_false]
     rw [eB]
     have ht := ref10_tens (T := T) (s.drop (cutN s + 1)).length hl60
     have ht60 := ten_len hl60
     have hm := ref04_mul (T := T) (ofN (readZ (s.take (cutN s))).natAbs) (ofN (10 ^ (s.drop (cutN s + 1)).length)) (by omega) (by omega)
     rw [val_ofN, val_ofN] at hm
     have hml : (ofN ((readZ (s.take (cutN s))).natAbs * 10 ^ (s.drop (cutN s + 1)).length)).length ≤ 1060 := by
      have e2 := nat_mul_len (x := (readZ (s.take (cutN s))).natAbs) (y := 10 ^ (s.drop (cutN s + 1)).length) (L := 1000) (M := 60) (by omega) ht60
      omega
     have ha := ref02_add (T := T) (ofN ((readZ (s.take (cutN s))).natAbs * 10 ^ (s.drop (cutN s + 1)).length)) (ofN (rd (s.drop (cutN s + 1)))) (by omega) (by omega)
     rw [val_ofN, val_ofN] at ha
     have hal : (ofN ((readZ (s.take (cutN s))).natAbs * 10 ^ (s.drop (cutN s + 1)).length + rd (s.drop (cutN s + 1)))).length ≤ 10000 := by
      have e3 := abs_add_len (x := (((readZ (s.take (cutN s))).natAbs * 10 ^ (s.drop (cutN s + 1)).length : Nat) : Int)) (y := ((rd (s.drop (cutN s + 1)) : Nat) : Int)) (L := 1060) (by rw [Int.natAbs_natCast]; exact hml) (by rw [Int.natAbs_natCast]; omega)
      rw [← Int.natCast_add, Int.natAbs_natCast] at e3
      omega
     have hn := ref09_norm (T := T) (decide (s.head? = some 45), ofN ((readZ (s.take (cutN s))).natAbs * 10 ^ (s.drop (cutN s + 1)).length + rd (s.drop (cutN s + 1))), ofN (10 ^ (s.drop (cutN s + 1)).length)) (by
      refine Nat.max_le.2 ⟨?_, ?_⟩ <;> simp only <;> omega)
     have ev : fv (decide (s.head? = some 45), ofN ((readZ (s.take (cutN s))).natAbs * 10 ^ (s.drop (cutN s + 1)).length + rd (s.drop (cutN s + 1))), ofN (10 ^ (s.drop (cutN s + 1)).length)) = mkRat (sg (decide (s.head? = some 45)) ((readZ (s.take (cutN s))).natAbs * 10 ^ (s.drop (cutN s + 1)).length + rd (s.drop (cutN s + 1)))) (10 ^ (s.drop (cutN s + 1)).length) := by
      show mkRat (sg _ (val _)) (val _) = _
      rw [val_ofN, val_ofN]
     rw [ev] at hn
     obtain ⟨x, hx⟩ : ∃ x, s[0]? = some x := ⟨s[0]'(by omega), List.getElem?_eq_getElem (by omega)⟩
     obtain ⟨_, hxE⟩ := List.getElem?_eq_some_iff.1 hx
     have hh : decide (s.head? = some 45) = decide (x.toNat = 45) := by
      have : (s.head? = some 45) ↔ x.toNat = 45 := by
       rw [List.head?_eq_getElem?, hx, Option.some.injEq, ← UInt8.toNat_inj]
       exact Iff.rfl
      exact decide_eq_decide.2 this
     have hp1 : (0 : Int) < s.length := by omega
     have hp2 : 0 < s.length := by omega
     have hdl : (s.drop (cutN s + 1)).length = s.length - (cutN s + 1) := List.length_drop
     have hdi : ((s.length - (cutN s + 1) : Nat) : Int) = (s.length : Int) - ((cutN s : Int) + 1) := by omega
     rw [hh] at hn ev ⊢
     rw [hdl] at ht
     clear eR eB hrl h0 hd hrdl ev hml hal ht60 hh
     simp only
     generalize fz (mkRat (sg (decide (x.toNat = 45)) ((readZ (s.take (cutN s))).natAbs * 10 ^ (s.drop (cutN s + 1)).length + rd (s.drop (cutN s + 1)))) (10 ^ (s.drop (cutN s + 1)).length)) = Z at *
     generalize ofN ((readZ (s.take (cutN s))).natAbs * 10 ^ (s.drop (cutN s + 1)).length + rd (s.drop (cutN s + 1))) = R1 at *
     generalize ofN ((readZ (s.take (cutN s))).natAbs * 10 ^ (s.drop (cutN s + 1)).length) = R2 at *
     rw [← hdl] at ht
     generalize ofN (10 ^ (s.drop (cutN s + 1)).length) = R4 at *
     rw [hdl] at ht
     generalize readZ (s.take (cutN s)) = RZ at *
     generalize ofN (rd (s.drop (cutN s + 1))) = RR at *
     generalize wrongI (s.drop (cutN s + 1)) = W at *
     generalize cutN s = k at *
     simp -implicitDefEqProofs [hl, hr, q1, q2, q4, q5, q6, q7, q8, q9, hle, hwr, h1, w1, hg, hgE, hrr, hn, ht, hm, ha, hx, hxE, hp1, hp2]
  ·have hcl : cutN s = s.length := by omega
   have htk : s.take (cutN s) = s := by rw [hcl]; exact List.take_length
   have eR : figR s = (mkRat (readZ s) 1, 0, 0) := by simp only [figR, htk, if_neg (htk ▸ h0), if_neg hc]
   rw [eR]
   rw [htk] at hr h0 hrl
   have hn := ref09_norm (T := T) (decide (readZ s < 0), ofN (readZ s).natAbs, [w32 1]) (by
    refine Nat.max_le.2 ⟨?_, ?_⟩
    ·simp only; omega
    ·show (1 : Nat) ≤ 10000
     decide)
   have ev : fv (decide (readZ s < 0), ofN (readZ s).natAbs, [w32 1]) = mkRat (readZ s) 1 := by
    show mkRat (wv _ _) (val _) = _
    rw [wv_ez]
    rfl
   rw [ev] at hn
   change callF T 231 [.agg [.b (decide (readZ s < 0)), .sl (u32s (ofN (readZ s).natAbs)) .an, .sl [[u32 1]] .an]] = _ at hn
   rw [hcl] at hl
   clear eR hrl h0 ev
   simp only
   generalize fz (mkRat (readZ s) 1) = Z at *
   generalize readZ s = RZ at *
   simp -implicitDefEqProofs [hl, hr, hn]
end
end Go.Ab
end

section
namespace Go.Ab
class CRef11b (T : Tbl) : Prop where
end Go.Ab
end

section
namespace Go.Ab
class CLaw11c (T : Tbl) : Prop where
end Go.Ab
end

section
namespace Go.Ab
class CRow5 (T : Tbl) : Prop where
end Go.Ab
end

section
namespace Go.Ab
class CFrac5 (T : Tbl) : Prop where
end Go.Ab
end

section
namespace Go.Ab
class CRef5 (T : Tbl) : Prop where
end Go.Ab
end

section
namespace Go.Ab
end Go.Ab
end

section
namespace Go.Ab
section
variable {T : Tbl} [CRef02 T] [CRef04 T] [CRef05 T] [CRef07 T] [CRef06 T] [CRef08 T] [CRef09 T] [CRef11 T]
def stZ1 (n i : Nat) : St := ⟨[(0, .i .i64 n), (3, .bs (.loc 3) 1 3 0 i), (4, .i .i64 i)], [(.loc 3, ⟨1, .own, 3, rowF (List.replicate i (fz 0))⟩)], 3⟩
def stN1 (l : List Fz) (i : Nat) : St := ⟨[(0, .sl (rowF l) .an), (3, .bs (.loc 3) 1 3 0 i), (4, .i .i64 i)], [(.loc 3, ⟨1, .own, 3, rowF (nrm (l.take i))⟩)], 3⟩
def stS1 (a b : List Fz) (i : Nat) : St := ⟨[(0, .sl (rowF a) .an), (1, .sl (rowF b) .an), (5, .i .i64 i)], [], 2⟩
def stA1 (p q : List Rat) (i : Nat) : St := ⟨[(0, .sl (rowF (fzs p)) .an), (1, .sl (rowF (fzs q)) .an), (5, .bs (.loc 5) 1 3 0 i), (6, .i .i64 i)], [(.loc 5, ⟨1, .own, 3, rowF (fzs ((addP p (fzs q)).take i))⟩)], 3⟩
def stD1 (p q : List Rat) (i : Nat) : St := ⟨[(0, .sl (rowF (fzs p)) .an), (1, .sl (rowF (fzs q)) .an), (4, .ptr (.loc 4) 1 3 0 0), (5, .ptr (.loc 5) 2 3 0 0), (6, .i .i64 i)],
 [(.loc 4, ⟨1, .str, 3, [nocell]⟩), (.loc 5, ⟨2, .str, 3, [celF (fz (dotK (fzs p) (fzs q) i))]⟩)], 4⟩
def longB (l : List Fz) (many words : Nat) : Bool := decide (many < l.length) || l.any fun x => decide (words < fsz x)
def stL1 (l : List Fz) (many words : Nat) (i : Nat) : St := ⟨[(0, .sl (rowF l) .an), (1, .i .i64 many), (2, .i .i64 words), (7, .i .i64 i)], [], 2⟩
end
end Go.Ab
end

section
namespace Go.Ab
def cap300 (n : Int) : Nat := (min (max n 0) 300).toNat
section
variable {T : Tbl} [CNat T] [CProd T] [CTwos T] [CQuot T] [CQuotD T] [CText T] [CWhole T] [CCommon T] [CFrac T] [CJoin T] [CRow T]
def unitR (n i : Int) : List Rat := if 0 ≤ i ∧ i < cap300 n then (List.replicate (cap300 n) 0).set i.toNat 1 else List.replicate (cap300 n) 0
end
section
variable {T : Tbl} [CRef02 T] [CRef04 T] [CRef05 T] [CRef07 T] [CRef06 T] [CRef08 T] [CRef09 T] [CRef11 T]
def stZ1x (n : Int) (i : Nat) : St := ⟨[(0, .i .i64 n), (3, .bs (.loc 3) 1 3 0 i), (4, .i .i64 i)], [(.loc 3, ⟨1, .own, 3, rowF (List.replicate i (fz 0))⟩)], 3⟩
end
end Go.Ab
end

section
namespace Go.Ab
class CGrid (T : Tbl) : Prop where
end Go.Ab
end

section
namespace Go.Ab
section
variable {T : Tbl} [CRef02 T] [CRef04 T] [CRef05 T] [CRef07 T] [CRef06 T] [CRef08 T] [CRef09 T] [CRef11 T] [CLaw09 T] [CLaw11 T]
theorem law09_of (x : Fz) : callF T 249 [efz x] = some (efz x) := by
 rw [f249 _ rfl, b249]
 simp -implicitDefEqProofs
theorem law09_is (x y : Fz) (hx : fsz x ≤ 10000) : callF T 250 [efz x, efz y] = some (.b (decide (x = y))) := by
 have h1 := law09_of (T := T) x
 have h2 := ref09_same (T := T) x y hx
 rw [f250 _ rfl, b250]
 simp -implicitDefEqProofs [h1, h2]
def stTo11 (l : List Fz) (i : Nat) : St := ⟨[(0, .sl (rowF l) .an), (3, .bs (.loc 3) 1 3 0 i), (4, .i .i64 i)], [((.loc 3), ⟨1, .own, 3, rowF (l.take i)⟩)], 3⟩
def stOf11 (l : List Fz) (i : Nat) : St := ⟨[(0, .sl (rowF l) .an), (3, .bs (.loc 3) 1 3 0 i), (4, .i .i64 i)], [((.loc 3), ⟨1, .own, 3, rowF (l.take i)⟩)], 3⟩
end
end Go.Ab
end

section
namespace Go.Ab
def widthM : List (List Fz) → Nat
 | [] => 0
 | r :: _ => r.length
def rightM (m : List (List Fz)) : Bool := m.all fun r => decide (r.length = widthM m)
def colM (m : List (List Fz)) (j : Nat) : List Fz := m.map fun r => r.getD j (false, [], [])
def turnM (m : List (List Fz)) (k : Nat) : List (List Fz) := (List.range k).map fun j => nrm (colM m j)
def scM (r : List Fz) (m : List (List Fz)) : List (List Fz) := List.zipWith (fun x row => scl (fv x) row) r m
def sumM : List (List Fz) → List Rat
 | [] => []
 | r :: m => m.foldl addP (r.map fv)
def leftQ (r : List Fz) (m : List (List Fz)) : List Rat := sumM (scM r m)
def applyQ (m : List (List Fz)) (c : List Fz) : List Rat := m.map fun r => dotQ r c
section
variable {T : Tbl} [CNat T] [CProd T] [CTwos T] [CQuot T] [CQuotD T] [CText T] [CWhole T] [CCommon T] [CFrac T] [CJoin T] [CRow T] [CGrid T]
def stGrR (m : List (List Fz)) (i : Nat) : St := ⟨[(0, .sl (matF m) .an), (5, .sl (matF m) .an), (6, .i .i64 m.length), (7, .i .i64 i)], [], 2⟩
def stGrS (a b : List (List Fz)) (i : Nat) : St := ⟨[(1, .sl (matF b) .an), (12, .sl (matF a) .an), (13, .i .i64 a.length), (14, .i .i64 i)], [], 2⟩
def idQ (k : Nat) (i : Nat) : List (List Fz) := (List.range i).map fun j => fzs ((List.replicate k 0).set j 1)
def stGrI (k : Nat) (i : Nat) : St := ⟨[(0, .i .i64 k), (3, .bs (.loc 3) 1 1 0 i), (8, .i .i64 k), (9, .i .i64 i)], [((.loc 3), ⟨1, .own, 1, matF (idQ k i)⟩)], 3⟩
def stGrT (m R : List (List Fz)) (k j : Nat) (i : Nat) : St := ⟨[(0, .sl (matF m) .an), (3, .bs (.loc 3) 1 1 0 j), (4, .i .i64 j), (5, .bs (.loc 5) 2 3 0 i), (12, .i .i64 k), (13, .i .i64 j), (16, .sl (matF m) .an), (17, .i .i64 m.length), (18, .i .i64 i)], [(.loc 3, ⟨1, .own, 1, matF R⟩), ((.loc 5), ⟨2, .own, 3, rowF (nrm (colM (m.take i) j))⟩)], 4⟩
def stTo12t (m : List (List Fz)) (k : Nat) (i : Nat) : St := ⟨[(0, .sl (matF m) .an), (3, .bs (.loc 3) 1 1 0 i), (12, .i .i64 k), (13, .i .i64 i)], [((.loc 3), ⟨1, .own, 1, matF (turnM m i)⟩)], 3⟩
end
end Go.Ab
end

section
namespace Go.Ab
section
variable {T : Tbl} [CNat T] [CProd T] [CTwos T] [CQuot T] [CQuotD T] [CText T] [CWhole T] [CCommon T] [CFrac T] [CJoin T] [CRow T] [CGrid T]
def stGrL (r : List Fz) (m : List (List Fz)) (i : Nat) : St := ⟨[(0, .sl (rowF r) .an), (6, .bs (.loc 6) 1 1 0 i), (19, .sl (matF m) .an), (20, .i .i64 m.length), (21, .i .i64 i)], [((.loc 6), ⟨1, .own, 1, matF (scM (r.take i) (m.take i))⟩)], 3⟩
def stGrA (m : List (List Fz)) (c : List Fz) (i : Nat) : St := ⟨[(1, .sl (rowF c) .an), (6, .bs (.loc 6) 1 3 0 i), (21, .sl (matF m) .an), (22, .i .i64 m.length), (23, .i .i64 i)], [((.loc 6), ⟨1, .own, 3, rowF (fzs (applyQ (m.take i) c))⟩)], 3⟩
def mulM (a b : List (List Fz)) : List (List Fz) := a.map fun r => fzs (leftQ r b)
def stGrM (a m : List (List Fz)) (i : Nat) : St := ⟨[(1, .sl (matF m) .an), (6, .bs (.loc 6) 1 1 0 i), (26, .sl (matF a) .an), (27, .i .i64 a.length), (28, .i .i64 i)], [((.loc 6), ⟨1, .own, 1, matF (mulM (a.take i) m)⟩)], 3⟩
def addM (a b : List (List Fz)) : List (List Fz) := List.zipWith (fun r s => fzs (addP (r.map fv) s)) a b
def stGrP (a m : List (List Fz)) (i : Nat) : St := ⟨[(1, .sl (matF m) .an), (6, .bs (.loc 6) 1 1 0 i), (33, .sl (matF a) .an), (34, .i .i64 a.length), (35, .i .i64 i)], [((.loc 6), ⟨1, .own, 1, matF (addM (a.take i) (m.take i))⟩)], 3⟩
end
end Go.Ab
end

section
namespace Go.Ab
def dotR : List Rat → List Rat → Rat
 | x :: a, y :: b => x * y + dotR a b
 | _, _ => 0
def valM (m : List (List Fz)) : List (List Rat) := m.map fun r => r.map fv
def fzM (L : List (List Rat)) : List (List Fz) := L.map fzs
@[simp] theorem fzM_length (L : List (List Rat)) : (fzM L).length = L.length := by simp [fzM]
@[simp] theorem valM_length (m : List (List Fz)) : (valM m).length = m.length := by simp [valM]
@[simp] theorem valM_fzM (L : List (List Rat)) : valM (fzM L) = L := by
 unfold valM fzM
 rw [List.map_map]
 simp [Function.comp_def]
def widthQ : List (List Rat) → Nat
 | [] => 0
 | r :: _ => r.length
def rightQ (L : List (List Rat)) : Bool := L.all fun r => decide (r.length = widthQ L)
def colQ (L : List (List Rat)) (j : Nat) : List Rat := L.map fun p => p.getD j 0
def turnQ (L : List (List Rat)) : List (List Rat) := (List.range (widthQ L)).map (colQ L)
def applyR (L : List (List Rat)) (c : List Rat) : List Rat := L.map fun p => dotR p c
def leftR (r : List Rat) (L : List (List Rat)) : List Rat := applyR (turnQ L) r
end Go.Ab
end

section
namespace Go.Ab
def sclR (c : Rat) (l : List Rat) : List Rat := l.map fun x => c * x
def addR (a b : List Rat) : List Rat := List.zipWith (· + ·) a b
def maxStep (b x : Rat) : Rat := if b < absQ x then absQ x else b
def normR (l : List Rat) : Rat := l.foldl maxStep 0
def mixR : List (Rat × List Rat) → List Rat → List Rat
 | [], acc => acc
 | p :: l, acc => mixR l (addR acc (sclR p.1 p.2))
end Go.Ab
end

section
namespace Go.Ab
class CLaw12 (T : Tbl) : Prop where
end Go.Ab
end

section
namespace Go.Ab
class CRef12 (T : Tbl) : Prop where
end Go.Ab
end

section
namespace Go.Ab
section
variable {T : Tbl} [CRef02 T] [CRef04 T] [CRef05 T] [CRef07 T] [CRef06 T] [CRef08 T] [CRef09 T] [CRef11 T] [CRef12 T]
def stR12 (m : List (List Fz)) (i : Nat) : St := ⟨[(0, .sl (matF m) .an), (3, .i .i64 i)], [], 2⟩
def stN12 (m : List (List Fz)) (i : Nat) : St := ⟨[(0, .sl (matF m) .an), (3, .bs (.loc 3) 1 1 0 i), (4, .i .i64 i)], [((.loc 3), ⟨1, .own, 1, matF (fzM (valM (m.take i)))⟩)], 3⟩
def stS12 (a b : List (List Fz)) (i : Nat) : St := ⟨[(0, .sl (matF a) .an), (1, .sl (matF b) .an), (5, .i .i64 i)], [], 2⟩
def stI12 (n : Int) (k : Nat) (i : Nat) : St := ⟨[(0, .i .i64 n), (3, .bs (.loc 3) 1 1 0 i), (4, .i .i64 i)], [((.loc 3), ⟨1, .own, 1, matF (idQ k i)⟩)], 3⟩
def stT12i (L : List (List Rat)) (R : List (List Fz)) (j : Nat) (i : Nat) : St := ⟨[(0, .sl (matF (fzM L)) .an), (3, .bs (.loc 3) 1 1 0 j), (4, .i .i64 j), (5, .bs (.loc 5) 2 3 0 i), (6, .i .i64 i)], [(.loc 3, ⟨1, .own, 1, matF R⟩), ((.loc 5), ⟨2, .own, 3, rowF (fzs (colQ (L.take i) j))⟩)], 4⟩
def stT12o (L : List (List Rat)) (i : Nat) : St := ⟨[(0, .sl (matF (fzM L)) .an), (3, .bs (.loc 3) 1 1 0 i), (4, .i .i64 i)], [((.loc 3), ⟨1, .own, 1, matF (fzM ((List.range i).map (colQ L)))⟩)], 3⟩
def stA12 (L : List (List Rat)) (c : List Rat) (i : Nat) : St := ⟨[(0, .sl (matF (fzM L)) .an), (1, .sl (rowF (fzs c)) .an), (5, .bs (.loc 5) 1 3 0 i), (6, .i .i64 i)], [((.loc 5), ⟨1, .own, 3, rowF (fzs (applyR (L.take i) c))⟩)], 3⟩
def longM (m : List (List Fz)) (many words : Nat) : Bool := decide (many < m.length) || m.any fun r => longB r many words
def stL12 (m : List (List Fz)) (many words : Nat) (i : Nat) : St := ⟨[(0, .sl (matF m) .an), (1, .i .i64 many), (2, .i .i64 words), (7, .i .i64 i)], [], 2⟩
end
end Go.Ab
end

section
namespace Go.Ab
section
variable {T : Tbl} [CNat T] [CProd T] [CTwos T] [CQuot T] [CQuotD T] [CText T] [CWhole T] [CCommon T] [CFrac T] [CJoin T] [CRow T] [CGrid T] [CRef02 T] [CRef04 T] [CRef05 T] [CRef07 T] [CRef06 T] [CRef08 T] [CRef09 T] [CRef11 T] [CRef12 T] [CLaw09 T] [CLaw11 T] [CLaw12 T]
def stTo12 (m : List (List Fz)) (i : Nat) : St := ⟨[(0, .sl (matF m) .an), (3, .bs (.loc 3) 1 1 0 i), (4, .i .i64 i)], [((.loc 3), ⟨1, .own, 1, matF (m.take i)⟩)], 3⟩
def stI12s (a b : List (List Fz)) (i : Nat) : St := ⟨[(0, .sl (matF a) .an), (1, .sl (matF b) .an), (5, .i .i64 i)], [], 2⟩
theorem szle1 {q : Rat} (h1 : q.num.natAbs < 4294967296) (h2 : q.den < 4294967296) : sz q ≤ 1 := Nat.max_le.2 ⟨ofN_length_le' (by simpa using h1), ofN_length_le' (by simpa using h2)⟩
end
end Go.Ab
end

section
namespace Go.Ab
class CPoly (T : Tbl) : Prop where
end Go.Ab
end

section
namespace Go.Ab
def tlen (l : List Rat) : Nat → Nat
 | 0 => 0
 | n + 1 => if l.getD n 0 = 0 then tlen l n else n + 1
def trimR (l : List Rat) : List Rat := l.take (tlen l l.length)
section
variable {T : Tbl} [CNat T] [CProd T] [CTwos T] [CQuot T] [CQuotD T] [CText T] [CWhole T] [CCommon T] [CFrac T] [CJoin T] [CRow T] [CPoly T]
def evlR : List Rat → Rat → Rat
 | [], _ => 0
 | a :: l, x => evlR l x * x + a
def dif (l : List Rat) : List Rat := (List.range (l.length - 1)).map fun (i : Nat) => (((i : Int) + 1 : Int) : Rat) * l.getD (i + 1) 0
def stDf (l : List Fz) (i : Nat) : St := ⟨[(0, .sl (rowF l) .an), (3, .bs (.loc 3) 1 3 0 i), (4, .i .i64 ((i : Int) + 1))], [((.loc 3), ⟨1, .own, 3, rowF (fzs ((dif (l.map fv)).take i))⟩)], 3⟩
end
end Go.Ab
end

section
namespace Go.Ab
def sizF (x : Fz) : Nat := blen (val x.2.1) + blen (val x.2.2)
def sizL (l : List Fz) : Nat := l.foldl (fun n x => max n (sizF x)) 0
section
variable {T : Tbl} [CLimb T] [CNat T] [CProd T] [CTwos T] [CQuot T] [CQuotD T] [CText T] [CWhole T] [CCommon T] [CFrac T] [CFrac2 T] [CFrac5 T] [CPow T] [CJoin T] [CRow T] [CRow5 T]
def bestI (b c : Rat) (i : Nat) : Rat := if i = 0 then 0 else if i = 1 then b else (if b < c then c else b)
def stMx (b c : Rat) (i : Nat) : St := ⟨[(2, .ptr (.loc 2) 1 3 0 0), (3, .ptr (.loc 3) 2 3 0 0), (7, .sl [celF (fz b), celF (fz c)] .an), (8, .i .i64 2), (9, .i .i64 i)],
 [(.loc 2, ⟨1, .str, 3, [nocell]⟩), (.loc 3, ⟨2, .str, 3, [celF (fz (bestI b c i))]⟩)], 4⟩
def stRn (l : List Fz) (i : Nat) : St := ⟨[(2, .ptr (.loc 2) 1 3 0 0), (3, .ptr (.loc 3) 2 3 0 0), (7, .sl (rowF l) .an), (8, .i .i64 l.length), (9, .i .i64 i)],
 [(.loc 2, ⟨1, .str, 3, [nocell]⟩), (.loc 3, ⟨2, .str, 3, [celF (fz (normR ((l.map fv).take i)))]⟩)], 4⟩
def stRs (l : List Fz) (i : Nat) : St := ⟨[(3, .i .i64 (sizL (l.take i))), (6, .sl (rowF l) .an), (7, .i .i64 l.length), (8, .i .i64 i)], [], 2⟩
end
section
variable {T : Tbl} [CRef02 T] [CRef04 T] [CRef05 T] [CRef07 T] [CRef06 T] [CRef08 T] [CRef09 T] [CRef11 T] [CRef5 T]
def stSc (c : Rat) (p : List Rat) (i : Nat) : St := ⟨[(1, .sl (rowF (fzs p)) .an), (2, .ptr (.loc 2) 1 3 0 0), (5, .bs (.loc 5) 2 3 0 i), (6, .i .i64 i)],
 [(.loc 2, ⟨1, .str, 3, [celF (fz c)]⟩), (.loc 5, ⟨2, .own, 3, rowF (fzs ((sclR c p).take i))⟩)], 4⟩
def stRx (p : List Rat) (i : Nat) : St := ⟨[(0, .sl (rowF (fzs p)) .an), (2, .ptr (.loc 2) 1 3 0 0), (3, .ptr (.loc 3) 2 3 0 0), (4, .i .i64 i)],
 [(.loc 2, ⟨1, .str, 3, [nocell]⟩), (.loc 3, ⟨2, .str, 3, [celF (fz (normR (p.take i)))]⟩)], 4⟩
end
end Go.Ab
end

section
namespace Go.Ab
class CLaw11b (T : Tbl) : Prop where
end Go.Ab
end

section
namespace Go.Ab
end Go.Ab
end

section
namespace Go.Ab
section
variable {T : Tbl} [CLimb T] [CNat T] [CProd T] [CTwos T] [CQuot T] [CQuotD T] [CDigits T] [CText T] [CWhole T] [CCommon T] [CFrac T] [CFrac2 T] [CFrac5 T] [CStr T] [CSplit T] [CPow T] [CFig T] [CJoin T] [CRow T] [CRow2 T] [CRow5 T] [CRef02 T] [CRef04 T] [CRef05 T] [CRef07 T] [CRef06 T] [CRef08 T] [CRef09 T] [CRef11 T] [CRef5 T] [CLaw09 T] [CLaw11 T] [CLaw11b T] [CLaw11c T]
def stSz (l : List Fz) (i : Nat) : St := ⟨[(0, .sl (rowF l) .an), (3, .i .i64 (sizL (l.take i))), (4, .i .i64 i)], [], 2⟩
end
end Go.Ab
end

section
namespace Go.Ab
section
variable {T : Tbl} [CRef02 T] [CRef04 T] [CRef05 T] [CRef07 T] [CRef06 T] [CRef08 T] [CRef09 T] [CRef10 T] [CRef11 T] [CRef11b T]
def stR11 (s : List UInt8) (y : Nat × Nat × List Rat) : St :=
 ⟨[(0, .s s), (5, .bs (.loc 5) 1 3 0 y.2.2.length), (6, .i .i64 y.2.1), (7, .i .i64 y.1)], [(.loc 5, ⟨1, .own, 3, rowF (fzs y.2.2)⟩)], 3⟩
def resR11 (r : List Rat × Int × Int) : Option (Ex × St) :=
 if r.2.1 = 0 then some (.n, ⟨[(5, .bs (.loc 5) 1 3 0 r.1.length)], [(.loc 5, ⟨1, .own, 3, rowF (fzs r.1)⟩)], 3⟩)
 else some (.r, ⟨[(2, .sl [] .an), (3, .i .i64 r.2.1), (4, .i .i64 r.2.2)], [], 2⟩)
def restR11 (s : List UInt8) (y : Nat × Nat × List Rat) : List Rat × Int × Int :=
 if y.1 ≤ s.length then readL (splitC 44 (s.drop y.2.1)) y.2.1 y.2.2 else (y.2.2, 0, 0)
def piece (s : List UInt8) (i from_ : Nat) : List UInt8 := (s.drop from_).take (i - from_)
end
end Go.Ab
end

section
namespace Go.Ab
theorem figR_sz (w : List UInt8) : sz (figR w).1 ≤ 200 := by
 have z0 : sz 0 ≤ 200 := by rw [sz_zero]; decide
 unfold figR
 simp only
 split
 ·exact z0
 ·next h0 =>
  have hl := read_len h0
  split
  ·unfold figB
   simp only
   split
   ·exact z0
   ·next h1 =>
    obtain ⟨h60, hr⟩ := rd_len h1
    have ht := ten_len h60
    split
    ·split
     ·exact z0
     ·exact sz_mk (by omega) (by omega) (by decide)
    ·refine sz_mk ?_ (by omega) (by decide)
     rw [sg_abs]
     have e2 := nat_mul_len (x := (readZ (w.take (cutN w))).natAbs) (y := 10 ^ (w.drop (cutN w + 1)).length) (L := 60) (M := 60) hl ht
     have e3 := abs_add_len (x := (((readZ (w.take (cutN w))).natAbs * 10 ^ (w.drop (cutN w + 1)).length : Nat) : Int)) (y := ((rd (w.drop (cutN w + 1)) : Nat) : Int)) (L := 120) (by rw [Int.natAbs_natCast]; exact e2) (by rw [Int.natAbs_natCast]; omega)
     rw [← Int.natCast_add, Int.natAbs_natCast] at e3
     omega
  ·exact sz_mk (by omega) (by rw [ofN_one]; decide) (by decide)
end Go.Ab
end

section
namespace Go.Ab
theorem textN_one {n : Nat} (h : n < 10) : textN n = [UInt8.ofNat (48 + n)] := textN_small h
section
variable {T : Tbl} [CLimb T] [CNat T] [CProd T] [CTwos T] [CQuot T] [CQuotD T] [CDigits T] [CText T] [CWhole T] [CCommon T] [CFrac T] [CFrac2 T] [CStr T] [CSplit T] [CPow T] [CFig T] [CJoin T] [CRow T] [CRow2 T] [CLaw10 T]
theorem law10_works : callF T 333 [] = some (.b true) := by
 have a1 := fig_readT (T := T) [45, 49, 46, 50, 53] (by decide)
 have a2 := fig_readT (T := T) [49, 47, 48] (by decide)
 have e1 : figR [45, 49, 46, 50, 53] = (-5/4, 0, 0) := by decide +kernel
 have e2 : figR [49, 47, 48] = (0, 2, 2) := by decide +kernel
 rw [e1] at a1
 rw [e2] at a2
 have s1 : sz (-5/4) ≤ 1 := szle1 (by decide +kernel) (by decide +kernel)
 have t1 := figure_text (T := T) (fz (-5/4)) (by rw [fsz_fz]; omega)
 have r1 := fig_round (T := T) (fz (-5/4)) (by rw [fsz_fz]; omega) 1
 rw [fv_fz] at t1 r1
 have w1 : textQ (-5/4) = [45, 53, 47, 52] := by
  unfold textQ textZ
  rw [if_neg (by decide +kernel), if_pos (by decide +kernel), show (-5/4 : Rat).num.natAbs = 5 by decide +kernel, show (-5/4 : Rat).den = 4 by decide +kernel, textN_one (by decide), textN_one (by decide)]
  rfl
 have w2 : roundQ (-5/4) (cap60 1) = [45, 49, 46, 51] := by
  have c : cap60 1 = 1 := by decide
  have rn : rndN (-5/4) 1 = 13 := by decide +kernel
  rw [c]
  unfold roundQ
  rw [rn, if_pos (by decide +kernel), if_pos (by decide), show 13 / 10 ^ 1 = 1 by decide, show 13 % 10 ^ 1 = 3 by decide, textN_one (by decide), textN_one (by decide)]
  rfl
 rw [w1] at t1
 rw [w2] at r1
 clear e1 e2 s1 w1 w2
 generalize fz (-5/4) = A at *
 generalize fz 0 = B at *
 rw [f333 _ rfl, b333]
 simp -implicitDefEqProofs [a1, a2, t1, r1]
end
section
variable {T : Tbl} [CLimb T] [CNat T] [CProd T] [CTwos T] [CQuot T] [CQuotD T] [CDigits T] [CText T] [CWhole T] [CCommon T] [CFrac T] [CFrac2 T] [CStr T] [CSplit T] [CPow T] [CFig T] [CJoin T] [CRow T] [CRow2 T] [CRef02 T] [CRef04 T] [CRef05 T] [CRef07 T] [CRef06 T] [CRef08 T] [CRef09 T] [CRef10 T] [CRef11 T] [CLaw09 T] [CLaw11 T] [CLaw10 T]
theorem law10_reads (s : List UInt8) : callF T 318 [.s s] = some (.b true) := by
 have hw := law10_works (T := T)
 rw [f318 _ rfl, b318]
 by_cases hs : 300 < s.length
 ·have hs' : (300 : Int) < s.length := by omega
  simp -implicitDefEqProofs [hw, hs, hs']
 ·have hs' : ¬ (300 : Int) < s.length := by omega
  have r1 := fig_readT (T := T) s (by omega)
  have r2 := ref10_read (T := T) s (by omega)
  have hz := figR_sz s
  have is := law09_is (T := T) (fz (figR s).1) (fz (figR s).1) (by rw [fsz_fz]; omega)
  rw [decide_eq_true rfl] at is
  clear hz
  generalize fz (figR s).1 = R at *
  generalize (figR s).2.1 = K at *
  generalize (figR s).2.2 = A at *
  simp -implicitDefEqProofs [hw, hs, hs', r1, r2, is]
end
end Go.Ab
end
