/-
  A calculus of values, boxes and code, and what functions of the program compute, proved in it.
  Conditions: none beyond those that the theorems state. (Part 6: GpLaw08.)
-/
import Derived.Test.YtlohcgjleoibpaaDoorPart5

set_option linter.unusedSectionVars false
set_option linter.unusedVariables false
set_option linter.unusedSimpArgs false
set_option linter.unnecessarySimpa false

section
/-
  The statements of layer 8, as what their code comes to.
-/
namespace Go.Ab
section
variable {T : Tbl} [CNat T] [CProd T] [CTwos T] [CQuot T] [CQuotD T] [CDigits T] [CText T] [CWhole T] [CRef08 T] [CLaw08 T]

end
section
variable {T : Tbl} [CLaw08 T]
theorem law08_to (n : Bool) (a : List UInt32) : callF T 20 [wh n a] = some (wh n a) := by
  rw [f20 _ rfl, b20]
  simp -implicitDefEqProofs
end
section
variable {T : Tbl} [CNat T] [CProd T] [CTwos T] [CQuot T] [CQuotD T] [CDigits T] [CText T] [CWhole T] [CRef08 T] [CLaw08 T]
end
section
variable {T : Tbl} [CLaw08 T]
theorem law08_of (n : Bool) (a : List UInt32) : callF T 22 [wh n a] = some (wh n a) := by
  rw [f22 _ rfl, b22]
  simp -implicitDefEqProofs

end
section
variable {T : Tbl} [CNat T] [CProd T] [CTwos T] [CQuot T] [CQuotD T] [CDigits T] [CText T] [CWhole T] [CRef08 T] [CLaw08 T]
theorem ez_len {z : Int} {L : Nat} (h : z.natAbs < 4294967296 ^ L) : (ofN z.natAbs).length ≤ L := ofN_length_le' h

end
section
variable {T : Tbl} [CNat T] [CProd T] [CTwos T] [CQuot T] [CQuotD T] [CDigits T] [CText T] [CWhole T] [CLaw08 T]
theorem law08_works : callF T 19 [] = some (.b true) := by
  have h1 := whole_of (T := T) (-7) (by decide) (by decide)
  have h2 := whole_of (T := T) 2 (by decide) (by decide)
  have h3 := whole_floor (T := T) (decide ((-7 : Int) < 0)) (decide ((2 : Int) < 0)) (ofN (-7 : Int).natAbs) (ofN (2 : Int).natAbs) (Nat.le_trans (ez_len (L := 1) (by decide)) (by decide)) (Nat.le_trans (ez_len (L := 1) (by decide)) (by decide))
  have e0 : ¬ val (ofN (2 : Int).natAbs) = 0 := by rw [val_ofN]; decide
  rw [wv_ez, wv_ez, if_neg e0, show (-7 : Int).fdiv 2 = -4 from rfl, show (-7 : Int).fmod 2 = 1 from rfl] at h3
  have h4 := whole_text (T := T) (decide ((-4 : Int) < 0)) (ofN (-4 : Int).natAbs) (Nat.le_trans (ez_len (L := 1) (by decide)) (by decide))
  have h5 := whole_text (T := T) (decide ((1 : Int) < 0)) (ofN (1 : Int).natAbs) (Nat.le_trans (ez_len (L := 1) (by decide)) (by decide))
  rw [wv_ez] at h4 h5
  have t4 : textZ (-4) = [45, 52] := by
    unfold textZ
    rw [if_pos (by decide), show (-4 : Int).natAbs = 4 from rfl, textN_small (by decide)]
    rfl
  have t5 : textZ 1 = [49] := by
    unfold textZ
    rw [if_neg (by decide), show (1 : Int).natAbs = 1 from rfl, textN_small (by decide)]
    rfl
  rw [t4] at h4
  rw [t5] at h5
  have h6 := whole_read (T := T) [45] (by decide)
  have e6 : wrongZ [45] = 0 := rfl
  have e7 : minus [45] = 1 := rfl
  rw [e6, e7, if_pos (by decide)] at h6
  obtain ⟨x7, e8⟩ : ∃ x, x = ez (-7) := ⟨_, rfl⟩
  rw [f19 _ rfl, b19]
  simp at h1 h2 h3 h4 h5 h6
  simp -implicitDefEqProofs [h1, h2, h3, h4, h5, h6]

end
section
variable {T : Tbl} [CNat T] [CProd T] [CTwos T] [CQuot T] [CQuotD T] [CDigits T] [CText T] [CWhole T] [CRef08 T] [CLaw08 T]
theorem tdiv2_bd {x : Int} (h1 : -9223372036854775808 ≤ x) (h2 : x < 9223372036854775808) : -4611686018427387904 ≤ x.tdiv 2 ∧ x.tdiv 2 < 4611686018427387904 := by
  rcases Int.le_total 0 x with h | h
  · rw [Int.tdiv_eq_ediv_of_nonneg h]
    omega
  · have : x.tdiv 2 = -((-x).tdiv 2) := by rw [Int.neg_tdiv]; omega
    rw [this, Int.tdiv_eq_ediv_of_nonneg (by omega)]
    omega

theorem fmod_sign {a b : Int} (hb : b ≠ 0) : 0 ≤ sgI (a.fmod b) * sgI b ∧ 0 < b * b - a.fmod b * a.fmod b := by
  have key : ∀ x y : Int, 0 ≤ x → x < y → 0 < y * y - x * x := by
    intro x y h1 h2
    have h3 : x * x ≤ x * y := Int.mul_le_mul_of_nonneg_left (Int.le_of_lt h2) h1
    have h4 : x * y < y * y := Int.mul_lt_mul_of_pos_right h2 (by omega)
    omega
  rcases Int.lt_or_gt_of_ne hb with h | h
  · have h1 : a.fmod b ≤ 0 ∧ b < a.fmod b := by
      have e := Int.fmod_add_mul_fdiv a b
      have e1 : a.fdiv b = (-a) / (-b) := by rw [← Int.neg_fdiv_neg, Int.fdiv_eq_ediv_of_nonneg _ (by omega)]
      have e2 := Int.emod_add_mul_ediv (-a) (-b)
      have e3 := Int.emod_nonneg (-a) (show -b ≠ 0 by omega)
      have e4 := Int.emod_lt_of_pos (-a) (show 0 < -b by omega)
      rw [e1] at e
      rw [Int.neg_mul] at e2
      omega
    have h2 := key (-a.fmod b) (-b) (by omega) (by omega)
    rw [Int.neg_mul_neg, Int.neg_mul_neg] at h2
    refine ⟨?_, h2⟩
    unfold sgI
    repeat' split
    all_goals omega
  · have h1 := Int.fmod_nonneg_of_pos a h
    have h2 := Int.fmod_lt_of_pos a h
    refine ⟨?_, key _ _ h1 h2⟩
    unfold sgI
    repeat' split
    all_goals omega

theorem law08_tells (n m : Bool) (a b : List UInt32) : callF T 8 [wh n a, wh m b] = some (.b true) := by
  have hw := law08_works (T := T)
  rw [f8 _ rfl, b8]
  by_cases h0 : (60 : Int) < a.length
  · simp -implicitDefEqProofs [hw, h0]
  by_cases h1 : (60 : Int) < b.length
  · simp -implicitDefEqProofs [hw, h0, h1]
  have la : a.length ≤ 60 := by omega
  have lb : b.length ≤ 60 := by omega
  have hta := law08_to (T := T) n a
  have htb := law08_to (T := T) m b
  have hza := wv_len n a
  have hzb := wv_len m b
  have c1 := whole_norm (T := T) n a (by omega)
  have c2 := ref08_norm (T := T) n a (by omega)
  have c3 := whole_sign (T := T) n a (by omega)
  have c4 := ref08_sign (T := T) n a (by omega)
  have c5 := whole_cmp (T := T) n m a b (by omega) (by omega)
  have c6 := whole_neg (T := T) n a (by omega)
  have c7 := ref08_neg (T := T) n a (by omega)
  have c8 := ref08_neg (T := T) m b (by omega)
  obtain ⟨z, hz⟩ : ∃ z, z = wv n a := ⟨_, rfl⟩
  obtain ⟨y, hy⟩ : ∃ y, y = -wv n a := ⟨_, rfl⟩
  obtain ⟨w, hw2⟩ : ∃ w, w = -wv m b := ⟨_, rfl⟩
  rw [← abs_neg_len, ← hw2] at hzb
  rw [← hw2] at c8
  rw [← hy] at c6 c7
  have c9 := ref08_add (T := T) n (decide (w < 0)) a (ofN w.natAbs) (by omega) (by omega)
  rw [wv_ez] at c9
  obtain ⟨d, hd⟩ : ∃ d, d = wv n a + w := ⟨_, rfl⟩
  rw [← hd] at c9
  rw [show wv n a - wv m b = d by omega] at c5
  have hdl : (ofN d.natAbs).length ≤ 61 := by rw [hd]; exact abs_add_len (by omega) (by omega)
  have c10 := ref08_sign (T := T) (decide (d < 0)) (ofN d.natAbs) (by omega)
  rw [wv_ez] at c10
  have o1 := law08_of (T := T) (decide (z < 0)) (ofN z.natAbs)
  have o2 := law08_of (T := T) (decide (y < 0)) (ofN y.natAbs)
  have hyl : (ofN y.natAbs).length ≤ 60 := by rw [hy, abs_neg_len]; omega
  rw [← hz] at hza c1 c2 c3 c4
  have s1 := ref08_same_ez (T := T) z z (by omega)
  have s2 := ref08_same_ez (T := T) y y (by omega)
  clear hz hy hw2 hd
  simp at s1 s2
  simp -implicitDefEqProofs [hw, h0, h1, hta, htb, c1, c2, c3, c4, c5, c6, c7, c8, c9, c10, o1, o2, s1, s2]

theorem law08_sums (n m : Bool) (a b : List UInt32) : callF T 5 [wh n a, wh m b] = some (.b true) := by
  have hw := law08_works (T := T)
  rw [f5 _ rfl, b5]
  by_cases h0 : (40 : Int) < a.length
  · simp -implicitDefEqProofs [hw, h0]
  by_cases h1 : (40 : Int) < b.length
  · simp -implicitDefEqProofs [hw, h0, h1]
  have la : a.length ≤ 40 := by omega
  have lb : b.length ≤ 40 := by omega
  have hta := law08_to (T := T) n a
  have htb := law08_to (T := T) m b
  have hza := wv_len n a
  have hzb := wv_len m b
  have c1 := whole_add (T := T) n m a b (by omega) (by omega)
  have c2 := ref08_add (T := T) n m a b (by omega) (by omega)
  have c3 := whole_sub (T := T) n m a b (by omega) (by omega)
  have c4 := ref08_neg (T := T) m b (by omega)
  have c6 := whole_mul (T := T) n m a b (by omega) (by omega)
  have c7 := ref08_mul (T := T) n m a b (by omega) (by omega)
  have c8 := whole_floor (T := T) n m a b (by omega) (by omega)
  have c9 := ref08_sign (T := T) m b (by omega)
  obtain ⟨w, hw2⟩ : ∃ w, w = -wv m b := ⟨_, rfl⟩
  have hwl := hzb
  rw [← abs_neg_len, ← hw2] at hwl
  rw [← hw2] at c4
  have c5 := ref08_add (T := T) n (decide (w < 0)) a (ofN w.natAbs) (by omega) (by omega)
  rw [wv_ez] at c5
  have ml := abs_mul_len (x := wv n a) (y := wv m b) hza hzb
  have al := abs_add_len (x := wv n a) (y := wv m b) (L := 40) (by omega) (by omega)
  have sl := abs_add_len (x := wv n a) (y := w) (L := 40) (by omega) (by omega)
  rw [show wv n a - wv m b = wv n a + w by omega] at c3
  obtain ⟨p, hp⟩ : ∃ p, p = wv n a + wv m b := ⟨_, rfl⟩
  obtain ⟨q, hq⟩ : ∃ q, q = wv n a + w := ⟨_, rfl⟩
  obtain ⟨r, hr⟩ : ∃ r, r = wv n a * wv m b := ⟨_, rfl⟩
  rw [← hp] at c1 c2 al
  rw [← hq] at c3 c5 sl
  rw [← hr] at c6 c7 ml
  have o1 := law08_of (T := T) (decide (p < 0)) (ofN p.natAbs)
  have o2 := law08_of (T := T) (decide (q < 0)) (ofN q.natAbs)
  have o3 := law08_of (T := T) (decide (r < 0)) (ofN r.natAbs)
  have s1 := ref08_same_ez (T := T) p p (by omega)
  have s2 := ref08_same_ez (T := T) q q (by omega)
  have s3 := ref08_same_ez (T := T) r r (by omega)
  simp at s1 s2 s3
  by_cases h2 : val b = 0
  · have hsg : sgI (wv m b) = 0 := by unfold wv; rw [sg_sgI, if_pos h2]
    have o4 : callF T 22 [.agg [.b false, .sl [] .an]] = some (.agg [.b false, .sl [] .an]) := law08_of (T := T) false []
    have s4 : callF T 21 [.agg [.b false, .sl [] .an], .agg [.b false, .sl [] .an]] = some (.b true) := ref08_same (T := T) false false [] [] (by decide)
    rw [hsg] at c9
    rw [if_pos h2] at c8
    clear hp hq hr hw2
    simp -implicitDefEqProofs [hw, h0, h1, hta, htb, c1, c2, c3, c4, c5, c6, c7, c8, c9, o1, o2, o3, o4, s1, s2, s3, s4]
  · have hsg : sgI (wv m b) ≠ 0 := by unfold wv; rw [sg_sgI, if_neg h2]; cases m <;> simp
    have c10 := ref08_floor (T := T) n m a b (by omega) (by omega) h2
    rw [if_neg h2] at c8
    have hb0 : wv m b ≠ 0 := by intro h; rw [h] at hsg; exact hsg rfl
    have ql := fdiv_len (n := n) (m := m) (a := a) h2
    have rl := fmod_len (n := n) (m := m) (a := a) h2
    obtain ⟨x, hx⟩ : ∃ x, x = (wv n a).fdiv (wv m b) := ⟨_, rfl⟩
    obtain ⟨y, hy⟩ : ∃ y, y = (wv n a).fmod (wv m b) := ⟨_, rfl⟩
    rw [← hx, ← hy] at c8 c10
    rw [← hx] at ql
    rw [← hy] at rl
    have o4 := law08_of (T := T) (decide (x < 0)) (ofN x.natAbs)
    have o5 := law08_of (T := T) (decide (y < 0)) (ofN y.natAbs)
    have s4 := ref08_same_ez (T := T) x x (by omega)
    have s5 := ref08_same_ez (T := T) y y (by omega)
    simp at s4 s5
    have hsg2 : ¬ sgI (wv m b) = 0 := hsg
    clear hp hq hr hw2 hx hy
    simp -implicitDefEqProofs [hw, h0, h1, hta, htb, c1, c2, c3, c4, c5, c6, c7, c8, c9, c10, o1, o2, o3, o4, o5, s1, s2, s3, s4, s5, hsg2]
theorem law08_texts (n : Bool) (a : List UInt32) (l : List UInt8) (hl : l.length ≤ 9223372036854775807) : callF T 6 [wh n a, .s l] = some (.b true) := by
  have hw := law08_works (T := T)
  rw [f6 _ rfl, b6]
  by_cases h0 : (40 : Int) < a.length
  · simp -implicitDefEqProofs [hw, h0]
  by_cases h1 : (500 : Int) < l.length
  · simp -implicitDefEqProofs [hw, h0, h1]
  have la : a.length ≤ 40 := by omega
  have hta := law08_to (T := T) n a
  have c1 := whole_text (T := T) n a (by omega)
  have c2 := ref08_text (T := T) n a (by omega)
  have c3 := whole_read (T := T) l (by omega)
  have c4 := ref08_read (T := T) l (by omega)
  obtain ⟨t, ht⟩ : ∃ t, t = textZ (wv n a) := ⟨_, rfl⟩
  rw [← ht] at c1 c2
  by_cases h2 : 0 ≤ wrongZ l
  · have hm : 0 ≤ wrongZ l + minus l := by unfold minus; split <;> omega
    rw [if_pos h2] at c3 c4
    have o4 : callF T 22 [.agg [.b false, .sl [] .an]] = some (.agg [.b false, .sl [] .an]) := law08_of (T := T) false []
    have s4 : callF T 21 [.agg [.b false, .sl [] .an], .agg [.b false, .sl [] .an]] = some (.b true) := ref08_same (T := T) false false [] [] (by decide)
    obtain ⟨k, hk⟩ : ∃ k, k = wrongZ l + minus l := ⟨_, rfl⟩
    rw [← hk] at c3 c4 hm
    have hm2 : ¬ k < 0 := by omega
    simp -implicitDefEqProofs [hw, h0, h1, hta, c1, c2, c3, c4, hm, hm2, o4, s4]
  · rw [if_neg h2] at c3 c4
    have hzl := read_len h2
    obtain ⟨z, hz⟩ : ∃ z, z = readZ l := ⟨_, rfl⟩
    rw [← hz] at c3 c4 hzl
    have o4 := law08_of (T := T) (decide (z < 0)) (ofN z.natAbs)
    have s4 := ref08_same_ez (T := T) z z (by omega)
    simp at s4
    simp -implicitDefEqProofs [hw, h0, h1, hta, c1, c2, c3, c4, o4, s4]
theorem law08_floors (n m : Bool) (a b : List UInt32) : callF T 7 [wh n a, wh m b] = some (.b true) := by
  have hw := law08_works (T := T)
  rw [f7 _ rfl, b7]
  by_cases h0 : (40 : Int) < a.length
  · simp -implicitDefEqProofs [hw, h0]
  by_cases h1 : (40 : Int) < b.length
  · simp -implicitDefEqProofs [hw, h0, h1]
  have la : a.length ≤ 40 := by omega
  have lb : b.length ≤ 40 := by omega
  have hza := wv_len n a
  have hzb := wv_len m b
  have c9 := ref08_sign (T := T) m b (by omega)
  by_cases h2 : val b = 0
  · have hsg : sgI (wv m b) = 0 := by unfold wv; rw [sg_sgI, if_pos h2]
    rw [hsg] at c9
    simp -implicitDefEqProofs [hw, h0, h1, c9]
  · have hsg : ¬ sgI (wv m b) = 0 := by unfold wv; rw [sg_sgI, if_neg h2]; cases m <;> simp
    have hta := law08_to (T := T) n a
    have htb := law08_to (T := T) m b
    have c8 := whole_floor (T := T) n m a b (by omega) (by omega)
    rw [if_neg h2] at c8
    have ql := fdiv_len (n := n) (m := m) (a := a) h2
    have rl := fmod_len (n := n) (m := m) (a := a) h2
    have hfm := Int.fmod_add_mul_fdiv (wv n a) (wv m b)
    have hb0 : wv m b ≠ 0 := by intro h; rw [h] at hsg; exact hsg rfl
    have hrs := fmod_sign (a := wv n a) hb0
    obtain ⟨q, hq⟩ : ∃ q, q = (wv n a).fdiv (wv m b) := ⟨_, rfl⟩
    obtain ⟨r, hr⟩ : ∃ r, r = (wv n a).fmod (wv m b) := ⟨_, rfl⟩
    rw [← hq] at ql c8 hfm
    rw [← hr] at rl c8 hfm hrs
    have c1 := whole_mul (T := T) (decide (q < 0)) m (ofN q.natAbs) b (by omega) (by omega)
    have pl := abs_mul_len (x := q) (y := wv m b) ql hzb
    rw [wv_ez] at c1
    obtain ⟨p, hp⟩ : ∃ p, p = q * wv m b := ⟨_, rfl⟩
    rw [← hp] at c1 pl
    have c2 := whole_add (T := T) (decide (p < 0)) (decide (r < 0)) (ofN p.natAbs) (ofN r.natAbs) (by omega) (by omega)
    rw [wv_ez, wv_ez, show p + r = wv n a by rw [hp, Int.mul_comm]; omega] at c2
    have c3 := whole_cmp (T := T) (decide (wv n a < 0)) n (ofN (wv n a).natAbs) a (by omega) (by omega)
    rw [wv_ez, Int.sub_self, show sgI 0 = 0 from rfl] at c3
    have c4 := whole_sign (T := T) (decide (r < 0)) (ofN r.natAbs) (by omega)
    have c5 := whole_sign (T := T) m b (by omega)
    have c6 := whole_mul (T := T) m m b b (by omega) (by omega)
    have c7 := whole_mul (T := T) (decide (r < 0)) (decide (r < 0)) (ofN r.natAbs) (ofN r.natAbs) (by omega) (by omega)
    rw [wv_ez] at c4 c7
    have l6 := abs_mul_len hzb hzb
    have l7 := abs_mul_len (x := r) (y := r) rl rl
    obtain ⟨x, hx⟩ : ∃ x, x = wv m b * wv m b := ⟨_, rfl⟩
    obtain ⟨y, hy⟩ : ∃ y, y = r * r := ⟨_, rfl⟩
    rw [← hx] at c6 l6 hrs
    rw [← hy] at c7 l7 hrs
    have c10 := whole_sub (T := T) (decide (x < 0)) (decide (y < 0)) (ofN x.natAbs) (ofN y.natAbs) (by omega) (by omega)
    rw [wv_ez, wv_ez] at c10
    obtain ⟨d, hd⟩ : ∃ d, d = x - y := ⟨_, rfl⟩
    have hdl : (ofN d.natAbs).length ≤ 10000 := by
      rw [hd, Int.sub_eq_add_neg]
      exact Nat.le_trans (abs_add_len (L := 1000) (by omega) (by rw [abs_neg_len]; omega)) (by decide)
    rw [← hd] at c10 hrs
    have c11 := whole_sign (T := T) (decide (d < 0)) (ofN d.natAbs) (by omega)
    rw [wv_ez] at c11
    obtain ⟨k1, k2⟩ := hrs
    have hsg2 : ∀ z, -1 ≤ sgI z ∧ sgI z ≤ 1 := by
      intro z
      unfold sgI
      split
      · omega
      · split <;> omega
    have hw4 : IntKind.wrap .i64 (sgI r * sgI (wv m b)) = sgI r * sgI (wv m b) := wrap_i64 _ (by
      have b1 := hsg2 r
      have b2 := hsg2 (wv m b)
      rcases (show sgI r = -1 ∨ sgI r = 0 ∨ sgI r = 1 by omega) with e | e | e <;> rw [e] <;> omega)
    have k3 : ¬ sgI r * sgI (wv m b) < 0 := by omega
    have k4 : sgI d = 1 := by unfold sgI; rw [if_neg (by omega), if_neg (by omega)]
    rw [k4] at c11
    have e2 : u32s (ofN (wv n a).natAbs) = u32s (ofN (wv n a).natAbs) := rfl
    obtain ⟨z, hz⟩ : ∃ z, z = wv n a := ⟨_, rfl⟩
    rw [← hz] at c2 c3
    clear hp hq hr hx hy hd hfm hz
    simp -implicitDefEqProofs [hw, h0, h1, hta, htb, c1, c2, c3, c4, c5, c6, c7, c8, c9, c10, c11, hsg, hw4, k1]
theorem law08_ints (i j : Int) (hi : -9223372036854775808 ≤ i ∧ i < 9223372036854775808) (hj : -9223372036854775808 ≤ j ∧ j < 9223372036854775808) (n : Bool) (a : List UInt32) : callF T 9 [.i .i64 i, .i .i64 j, wh n a] = some (.b true) := by
  have hw := law08_works (T := T)
  rw [f9 _ rfl, b9]
  by_cases h0 : (60 : Int) < a.length
  · simp -implicitDefEqProofs [hw, h0]
  have la : a.length ≤ 60 := by omega
  have hza := wv_len n a
  have hta := law08_to (T := T) n a
  have big : ∀ z : Int, -9223372036854775808 ≤ z → z < 9223372036854775808 → (ofN z.natAbs).length ≤ 2 := fun z h1 h2 => ofN_length_le' (k := 2) (by show z.natAbs < 18446744073709551616; omega)
  have c1 := whole_of (T := T) i hi.1 hi.2
  have c2 := whole_int (T := T) (decide (i < 0)) (ofN i.natAbs) (Nat.le_trans (big i hi.1 hi.2) (by decide))
  rw [wv_ez, if_pos hi] at c2
  obtain ⟨i2, hi2⟩ : ∃ x, x = i.tdiv 2 := ⟨_, rfl⟩
  obtain ⟨j2, hj2⟩ : ∃ x, x = j.tdiv 2 := ⟨_, rfl⟩
  have hb : ∀ x : Int, -9223372036854775808 ≤ x → x < 9223372036854775808 → -4611686018427387904 ≤ x.tdiv 2 ∧ x.tdiv 2 < 4611686018427387904 := fun x h1 h2 => tdiv2_bd h1 h2
  have bi := hb i hi.1 hi.2
  have bj := hb j hj.1 hj.2
  rw [← hi2] at bi
  rw [← hj2] at bj
  have c3 := whole_of (T := T) i2 (by omega) (by omega)
  have c4 := whole_of (T := T) j2 (by omega) (by omega)
  have c5 := whole_add (T := T) (decide (i2 < 0)) (decide (j2 < 0)) (ofN i2.natAbs) (ofN j2.natAbs) (Nat.le_trans (big i2 (by omega) (by omega)) (by decide)) (Nat.le_trans (big j2 (by omega) (by omega)) (by decide))
  rw [wv_ez, wv_ez] at c5
  obtain ⟨s, hs⟩ : ∃ x, x = i2 + j2 := ⟨_, rfl⟩
  rw [← hs] at c5
  have c6 := whole_int (T := T) (decide (s < 0)) (ofN s.natAbs) (Nat.le_trans (big s (by omega) (by omega)) (by decide))
  rw [wv_ez, if_pos (by omega)] at c6
  have w1 : IntKind.wrap .i64 i2 = i2 := wrap_i64 _ (by omega)
  have w2 : IntKind.wrap .i64 j2 = j2 := wrap_i64 _ (by omega)
  have w3 : IntKind.wrap .i64 (i2 + j2) = s := by rw [← hs]; exact wrap_i64 _ (by omega)
  have w4 : IntKind.wrap .i64 s = s := wrap_i64 _ (by omega)
  have c7 := whole_int (T := T) n a (by omega)
  have c8 := ref02_norm (T := T) a (by omega)
  have hva := wv_val n a
  have hsm : ((ofN (val a)).length : Int) ≤ 2 ↔ val a < 18446744073709551616 := by
    constructor
    · intro h
      have h1 := val_lt (ofN (val a))
      rw [val_ofN] at h1
      have h2 : 4294967296 ^ (ofN (val a)).length ≤ 4294967296 ^ 2 := Nat.pow_le_pow_right (by decide) (by omega)
      omega
    · intro h
      have := ofN_length_le' (show val a < 4294967296 ^ 2 from h)
      omega
  obtain ⟨z, hz⟩ : ∃ z, z = wv n a := ⟨_, rfl⟩
  have c9 := whole_cmp (T := T) (decide (z < 0)) n (ofN z.natAbs) a (by rw [hz]; omega) (by omega)
  rw [wv_ez, ← hz, Int.sub_self, show sgI 0 = 0 from rfl] at c9
  have c10 := whole_of (T := T) z
  have c11 := whole_of (T := T) 9223372036854775807 (by decide) (by decide)
  have c12 := whole_of (T := T) (-9223372036854775808) (by decide) (by decide)
  have c13 := whole_cmp (T := T) n (decide ((9223372036854775807 : Int) < 0)) a (ofN (9223372036854775807 : Int).natAbs) (by omega) (Nat.le_trans (big _ (by decide) (by decide)) (by decide))
  have c14 := whole_cmp (T := T) n (decide ((-9223372036854775808 : Int) < 0)) a (ofN (-9223372036854775808 : Int).natAbs) (by omega) (Nat.le_trans (big _ (by decide) (by decide)) (by decide))
  rw [wv_ez, ← hz] at c13 c14
  rw [← hz] at c7 hva
  simp at c1 c2 c3 c4 c5 c6 c11 c12 c13 c14
  by_cases hA : -9223372036854775808 ≤ z ∧ z < 9223372036854775808
  · have c15 := c10 hA.1 hA.2
    rw [if_pos hA] at c7
    have hs2 : ((ofN (val a)).length : Int) ≤ 2 := hsm.2 (by omega)
    clear c10 c13 c14 hsm hb hz big
    simp -implicitDefEqProofs [hw, h0, hta, c1, c2, c3, c4, c5, c6, c7, c8, c9, c15, ← hi2, ← hj2, w1, w2, w4, ← hs, hs2]
  · rw [if_neg hA] at c7
    clear c10 hb big
    have hlen : z = wv n a := hz
    clear hz
    by_cases hB : 9223372036854775807 < z
    · have e1 : sgI (z - 9223372036854775807) = 1 := by unfold sgI; rw [if_neg (by omega), if_neg (by omega)]
      rw [e1] at c13
      by_cases hs2 : (2 : Int) < (ofN (val a)).length
      · have hs3 : ¬ ((ofN (val a)).length : Int) ≤ 2 := by omega
        simp -implicitDefEqProofs [hw, h0, hta, c1, c2, c3, c4, c5, c6, c7, c8, c11, c13, ← hi2, ← hj2, w1, w2, w4, ← hs, hs3]
      · have hs3 : ((ofN (val a)).length : Int) ≤ 2 := by omega
        simp -implicitDefEqProofs [hw, h0, hta, c1, c2, c3, c4, c5, c6, c7, c8, c11, c13, ← hi2, ← hj2, w1, w2, w4, ← hs, hs3]
    · have e1 : sgI (z + 9223372036854775808) = -1 := by unfold sgI; rw [if_pos (by omega)]
      rw [e1] at c14
      have e2 : sgI (z - 9223372036854775807) = -1 := by unfold sgI; rw [if_pos (by omega)]
      rw [e2] at c13
      by_cases hs2 : (2 : Int) < (ofN (val a)).length
      · have hs3 : ¬ ((ofN (val a)).length : Int) ≤ 2 := by omega
        simp -implicitDefEqProofs [hw, h0, hta, c1, c2, c3, c4, c5, c6, c7, c8, c11, c12, c13, c14, ← hi2, ← hj2, w1, w2, w4, ← hs, hs3]
      · have hs3 : ((ofN (val a)).length : Int) ≤ 2 := by omega
        simp -implicitDefEqProofs [hw, h0, hta, c1, c2, c3, c4, c5, c6, c7, c8, c11, c12, c13, c14, ← hi2, ← hj2, w1, w2, w4, ← hs, hs3]
end
end Go.Ab
end
