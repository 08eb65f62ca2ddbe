/-
  A calculus of values, boxes and code, and what functions of the program compute, proved in it.
  Conditions: none beyond those that the theorems state. (Part 7: GpFig2, GpLaw11b, GpFrac3, GpTape, GpTape2, GpGauge, GpLaw24, GpRun, GpRun2, GpRun3, GpLaw26.)
-/
import Derived.Test.YtnlipnhdokbbnaaGreatDoorPart6

set_option linter.unusedSectionVars false
set_option linter.unusedVariables false
set_option linter.unusedSimpArgs false
set_option linter.unnecessarySimpa false

section
namespace Go.Ab
def readL : List (List UInt8) → Nat → List Rat → List Rat × Int × Int
 | [], _, acc => (acc, 0, 0)
 | w :: ws, k, acc => if (figR w).2.1 = 0 then readL ws (k + w.length + 1) (acc ++ [(figR w).1]) else ([], (figR w).2.1, (figR w).2.2 + k)
def rowR (s : List UInt8) : List Rat × Int × Int := if s = [] then ([], 0, 0) else readL (splitC 44 s) 0 []
section
variable {T : Tbl} [CLimb T] [CNat T] [CProd T] [CTwos T] [CQuot T] [CQuotD T] [CDigits T] [CText T] [CWhole T] [CCommon T] [CFrac T] [CFrac2 T] [CStr T] [CSplit T] [CPow T] [CFig T] [CJoin T] [CRow T] [CRow2 T]
def stRR (ws : List (List UInt8)) (y : Nat × Nat × List Rat) : St :=
 ⟨[(3, .ptr (.loc 3) 1 4 0 0), (4, .bs (.loc 4) 2 3 0 y.2.2.length), (5, .i .i64 y.2.1), (14, .sl (rowsT ws) .an), (15, .i .i64 ws.length), (16, .i .i64 y.1)],
  [(.loc 3, ⟨1, .str, 4, [[.i .i64 0, .i .i64 0, .i .i64 0, .i .i64 0]]⟩), (.loc 4, ⟨2, .own, 3, rowF (fzs y.2.2)⟩)], 4⟩
def resRR (r : List Rat × Int × Int) : Option (Ex × St) :=
 if r.2.1 = 0 then some (.n, ⟨[(3, .ptr (.loc 3) 1 4 0 0), (4, .bs (.loc 4) 2 3 0 r.1.length)], [(.loc 3, ⟨1, .str, 4, [[.i .i64 0, .i .i64 0, .i .i64 0, .i .i64 0]]⟩), (.loc 4, ⟨2, .own, 3, rowF (fzs r.1)⟩)], 4⟩)
 else some (.r, ⟨[(2, .sl [] .an), (3, .ptr (.loc 3) 1 4 0 0)], [(.loc 3, ⟨1, .str, 4, [[.i .i64 r.2.1, .i .i64 0, .i .i64 0, .i .i64 r.2.2]]⟩)], 3⟩)
end
end Go.Ab
end

section
namespace Go.Ab
end Go.Ab
end

section
namespace Go.Ab
theorem val_inj : ∀ (a b : List UInt32), a.length = b.length → val a = val b → a = b
 | [], [], _, _ => rfl
 | x :: a, y :: b, hl, hv => by
  simp only [val_cons] at hv
  have hx := u32_lt x
  have hy := u32_lt y
  have h1 : x.toNat = y.toNat := by omega
  have h2 : val a = val b := by omega
  rw [UInt32.toNat_inj.1 h1, val_inj a b (by simpa using hl) h2]
 | [], _ :: _, hl, _ => by simp at hl
 | _ :: _, [], hl, _ => by simp at hl
theorem cmpN_zero {x y : Nat} : cmpN x y = 0 ↔ x = y := by
 unfold cmpN
 split
 ·constructor
  ·intro h; omega
  ·intro h; omega
 ·split
  ·constructor
   ·intro h; omega
   ·intro h; omega
  ·constructor
   ·intro _; omega
   ·intro _; rfl
theorem sg_pow (z : Int) : ∀ t : Nat, sg (decide (z < 0) && decide (t % 2 = 1)) (z.natAbs ^ t) = z ^ t
 | 0 => by simp [sg]
 | t + 1 => by
  have ih := sg_pow z t
  have hz : sg (decide (z < 0)) z.natAbs = z := by
   unfold sg
   by_cases h : z < 0
   ·simp only [h, decide_true, if_true]; omega
   ·simp only [h, decide_false, Bool.false_eq_true, if_false]; omega
  have hm := sg_mul (decide (z < 0) && decide (t % 2 = 1)) (decide (z < 0)) (z.natAbs ^ t) z.natAbs
  rw [ih, hz] at hm
  rw [Int.pow_succ, ← hm, Nat.pow_succ]
  congr 1
  rcases Nat.mod_two_eq_zero_or_one t with h | h
  ·have h2 : (t + 1) % 2 = 1 := by omega
   rw [h, h2]
   cases decide (z < 0) <;> rfl
  ·have h2 : (t + 1) % 2 = 0 := by omega
   rw [h, h2]
   cases decide (z < 0) <;> rfl
theorem pow_len {x L : Nat} (h : (ofN x).length ≤ L) : ∀ t : Nat, (ofN (x ^ t)).length ≤ t * L + 1
 | 0 => by rw [Nat.pow_zero, ofN_one]; simp
 | t + 1 => by
  have ih := pow_len h t
  have := nat_mul_len ih h
  rw [Nat.pow_succ, Nat.succ_mul]
  omega
section
variable {T : Tbl} [CLimb T] [CNat T] [CProd T] [CTwos T] [CQuot T] [CQuotD T] [CWhole T] [CCommon T] [CFrac T] [CFrac3 T]
theorem frac_right (x : Fz) (hx : fsz x ≤ 10000) : callF T 208 [efz x] = some (.b (rightF x)) := by
 have hn := frac_norm (T := T) x hx
 have hs := sz_fv (x := x) (L := 10000) hx (by decide)
 have l1 := sz_num (fv x)
 have l2 := sz_den (fv x)
 unfold rightF
 have e' : fz (fv x) = (decide ((fv x).num < 0), ofN (fv x).num.natAbs, ofN (fv x).den) := rfl
 rw [e'] at hn ⊢
 obtain ⟨n, a, d⟩ := x
 have la := fsz_a (n, a, d)
 have ld := fsz_d (n, a, d)
 simp only at la ld
 generalize decide ((fv (n, a, d)).num < 0) = m at *
 generalize ofN (fv (n, a, d)).num.natAbs = b at *
 generalize ofN (fv (n, a, d)).den = e at *
 have c1 := nat_cmp (T := T) a b (by omega) (by omega)
 have c2 := nat_cmp (T := T) d e (by omega) (by omega)
 clear e' hs
 change callF T 207 [.agg [.b n, .sl (u32s a) .an, .sl (u32s d) .an]] = some (.agg [.b m, .sl (u32s b) .an, .sl (u32s e) .an]) at hn
 rw [f208 _ rfl, b208]
 by_cases h1 : n = m
 case neg =>
  have hd : decide ((n, a, d) = (m, b, e)) = false := by simp [h1]
  have hb : (n == m) = false := by simpa using h1
  rw [hd]
  simp -implicitDefEqProofs [hn, hb]
 subst h1
 by_cases h2 : a.length = b.length
 case neg =>
  have hd : decide ((n, a, d) = (n, b, e)) = false := by
   have : a ≠ b := fun h => h2 (by rw [h])
   simp [this]
  have hb : ((a.length : Int) == b.length) = false := by simp; omega
  have hb' : ¬ (a.length : Int) = b.length := by omega
  rw [hd]
  simp -implicitDefEqProofs [hn, hb, hb', h2]
 by_cases h3 : d.length = e.length
 case neg =>
  have hd : decide ((n, a, d) = (n, b, e)) = false := by
   have : d ≠ e := fun h => h3 (by rw [h])
   simp [this]
  have hb : ((d.length : Int) == e.length) = false := by simp; omega
  have hb' : ¬ (d.length : Int) = e.length := by omega
  rw [hd]
  simp -implicitDefEqProofs [hn, h2, hb, hb', h3]
 by_cases h4 : val a = val b
 case neg =>
  have hd : decide ((n, a, d) = (n, b, e)) = false := by
   have : a ≠ b := fun h => h4 (by rw [h])
   simp [this]
  have hc : ¬ cmpN (val a) (val b) = 0 := fun h => h4 (cmpN_zero.1 h)
  rw [hd]
  generalize cmpN (val a) (val b) = k at *
  simp -implicitDefEqProofs [hn, h2, h3, c1, hc]
 have hab := val_inj a b h2 h4
 subst hab
 have hk : cmpN (val a) (val a) = 0 := cmpN_zero.2 rfl
 rw [hk] at c1
 by_cases h5 : val d = val e
 case neg =>
  have hd : decide ((n, a, d) = (n, a, e)) = false := by
   have : d ≠ e := fun h => h5 (by rw [h])
   simp [this]
  have hc : ¬ cmpN (val d) (val e) = 0 := fun h => h5 (cmpN_zero.1 h)
  rw [hd]
  generalize cmpN (val d) (val e) = k at *
  simp -implicitDefEqProofs [hn, h3, c1, c2, hc]
 have hde := val_inj d e h3 h5
 subst hde
 have hk2 : cmpN (val d) (val d) = 0 := cmpN_zero.2 rfl
 rw [hk2] at c2
 have hd : decide ((n, a, d) = (n, a, d)) = true := by simp
 rw [hd]
 simp -implicitDefEqProofs [hn, c1, c2]
def stPw (a : List UInt32) (k i : Nat) : St := ⟨[(0, .sl (u32s a) .an), (5, .sl (u32s (ofN (val a ^ i))) .an), (7, .i .i64 k), (8, .i .i64 i)], [], 2⟩
theorem frac_power (a : List UInt32) (k : Nat) (hk : k ≤ 8) (ha : a.length ≤ 1100) : callF T 219 [.sl (u32s a) .an, .i .i64 k] = some (.sl (u32s (ofN (val a ^ k))) .an) := by
 have h : loopN T 0 0 (.norm false [5]) l219_0 (stPw a k 0) = some (.n, ⟨[(5, .sl (u32s (ofN (val a ^ k))) .an)], [], 2⟩) := by
  refine range_loop (stPw a k) k _ (fun i hi => ?_) ?_
  ·have hl := pow_len (L := 1100) (Nat.le_trans (ofN_length_le a) ha) i
   have c := prod_mul (T := T) (ofN (val a ^ i)) a (by omega) (by omega)
   rw [val_ofN, ← Nat.pow_succ] at c
   have hw := wrapS hi (by omega)
   unfold stPw
   generalize ofN (val a ^ i) = M at *
   generalize ofN (val a ^ (i + 1)) = M' at *
   simp -implicitDefEqProofs [l219_0, hi, hw, c]
  ·unfold stPw
   generalize ofN (val a ^ k) = M at *
   constructor <;> simp -implicitDefEqProofs [l219_0]
 have ho := nat_of (T := T) 1 (by decide)
 unfold stPw at h
 rw [Nat.pow_zero] at h
 simp only [Int.natCast_zero] at h
 generalize ofN 1 = O at *
 rw [f219 _ rfl, b219]
 generalize ofN (val a ^ k) = M at *
 simp -implicitDefEqProofs [ho, h]
def powR (q : Rat) (e : Int) : Rat × Bool := if -8 ≤ e ∧ e ≤ 8 ∧ ¬ (e < 0 ∧ q = 0) then (powZ q e, true) else (0, false)
theorem fz_pow (q : Rat) (t : Nat) : fz (q ^ t) = (decide (q.num < 0) && decide (t % 2 = 1) && decide (q.num.natAbs ^ t ≠ 0), ofN (q.num.natAbs ^ t), ofN (q.den ^ t)) := by
 have h := sg_pow q.num t
 unfold fz
 rw [Rat.num_pow, Rat.den_pow, ← h, sg_neg, sg_abs]
theorem fz_powi (q : Rat) (t : Nat) (hq : q ≠ 0) : fz (q ^ t)⁻¹ = (decide (q.num < 0) && decide (t % 2 = 1) && decide (q.den ^ t ≠ 0), ofN (q.den ^ t), ofN (q.num.natAbs ^ t)) := by
 have h := sg_pow q.num t
 have hn : q.num ≠ 0 := fun h => hq (Rat.num_eq_zero.1 h)
 have hz : q.num ^ t ≠ 0 := Int.pow_ne_zero hn
 have hd : q.den ^ t ≠ 0 := Nat.pos_iff_ne_zero.1 (Nat.pow_pos q.den_pos)
 have ha : q.num.natAbs ^ t ≠ 0 := Nat.pos_iff_ne_zero.1 (Nat.pow_pos (Int.natAbs_pos.2 hn))
 have e1 : (q ^ t)⁻¹.num = (q.num ^ t).sign * ((q.den ^ t : Nat) : Int) := by rw [Rat.num_inv, Rat.num_pow, Rat.den_pow]
 have e2 : (q ^ t)⁻¹.den = q.num.natAbs ^ t := by rw [Rat.den_inv, Rat.num_pow, if_neg hz, Int.natAbs_pow]
 have e3 : ((q.num ^ t).sign * ((q.den ^ t : Nat) : Int)).natAbs = q.den ^ t := by
  rw [Int.natAbs_mul, Int.natAbs_sign_of_ne_zero hz, Nat.one_mul, Int.natAbs_natCast]
 have e4 : decide ((q.num ^ t).sign * ((q.den ^ t : Nat) : Int) < 0) = decide (q.num ^ t < 0) := by
  rw [decide_eq_decide]
  rcases Int.lt_trichotomy (q.num ^ t) 0 with h1 | h1 | h1
  ·rw [Int.sign_eq_neg_one_of_neg h1]
   constructor
   ·intro _; exact h1
   ·intro _; omega
  ·exact absurd h1 hz
  ·rw [Int.sign_eq_one_of_pos h1]
   constructor
   ·intro _; omega
   ·intro _; omega
 have e5 : decide (q.num ^ t < 0) = (decide (q.num < 0) && decide (t % 2 = 1)) := by
  rw [← h, sg_neg, decide_eq_true ha, Bool.and_true]
 unfold fz
 rw [e1, e2, e3, e4, e5, decide_eq_true hd, Bool.and_true]
theorem frac_pow (x : Fz) (e : Int) (hx : fsz x ≤ 1000) : callF T 220 [efz x, .i .i64 e] = some (.tup [efz (fz (powR (fv x) e).1), .b (powR (fv x) e).2]) := by
 have h0 := frac_of0 (T := T)
 have hsg := frac_sign (T := T) x (by omega)
 have hn := frac_norm (T := T) x (by omega)
 have hs := sz_fv (x := x) (L := 1000) hx (by decide)
 have l1 := sz_num (fv x)
 have l2 := sz_den (fv x)
 unfold powR
 rw [f220 _ rfl, b220]
 by_cases h1 : e < -8
 ·rw [if_neg (by omega)]
  generalize fz 0 = Z at *
  simp -implicitDefEqProofs [h0, h1]
 by_cases h2 : 8 < e
 ·rw [if_neg (by omega)]
  generalize fz 0 = Z at *
  simp -implicitDefEqProofs [h0, h1, h2]
 obtain ⟨q, hq⟩ : ∃ q, q = fv x := ⟨_, rfl⟩
 rw [← hq] at hsg hn hs l1 l2 ⊢
 clear hq
 have e' : fz q = (decide (q.num < 0), ofN q.num.natAbs, ofN q.den) := rfl
 rw [e'] at hn
 have hA : (ofN q.num.natAbs).length ≤ 1100 := by omega
 have hD : (ofN q.den).length ≤ 1100 := by omega
 have pA : ∀ k : Nat, k ≤ 8 → callF T 219 [.sl (u32s (ofN q.num.natAbs)) .an, .i .i64 k] = some (.sl (u32s (ofN (q.num.natAbs ^ k))) .an) := fun k hk => by
  have := frac_power (T := T) (ofN q.num.natAbs) k hk hA
  rwa [val_ofN] at this
 have pD : ∀ k : Nat, k ≤ 8 → callF T 219 [.sl (u32s (ofN q.den)) .an, .i .i64 k] = some (.sl (u32s (ofN (q.den ^ k))) .an) := fun k hk => by
  have := frac_power (T := T) (ofN q.den) k hk hD
  rwa [val_ofN] at this
 have lA : ∀ k : Nat, k ≤ 8 → (ofN (q.num.natAbs ^ k)).length ≤ 1000000 := fun k hk => by
  have := pow_len hA k
  have : k * 1100 ≤ 8 * 1100 := Nat.mul_le_mul_right _ hk
  omega
 have lD : ∀ k : Nat, k ≤ 8 → (ofN (q.den ^ k)).length ≤ 1000000 := fun k hk => by
  have := pow_len hD k
  have : k * 1100 ≤ 8 * 1100 := Nat.mul_le_mul_right _ hk
  omega
 have hodd : ∀ k : Nat, k ≤ 8 → (((k : Int).tmod 2) == 1) = decide (k % 2 = 1) := fun k hk => by
  have e : (k : Int).tmod 2 = ((k % 2 : Nat) : Int) := by rw [show (2 : Int) = ((2 : Nat) : Int) from rfl, ← Int.ofNat_tmod]
  rw [e, Bool.eq_iff_iff]
  simp
  omega
 by_cases h3 : e < 0
 case neg =>
  obtain ⟨n, rfl⟩ : ∃ n : Nat, e = n := ⟨e.toNat, by omega⟩
  have hn8 : n ≤ 8 := by omega
  rw [if_pos (by omega)]
  have hw : IntKind.wrap .i64 (-(n : Int)) = -(n : Int) := wrap_i64 _ (by omega)
  have cA := pA n hn8
  have cD := pD n hn8
  have ho := hodd n hn8
  have hnorm := whole_norm (T := T) (decide (q.num < 0) && decide (n % 2 = 1)) (ofN (q.num.natAbs ^ n)) (lA n hn8)
  rw [show wv (decide (q.num < 0) && decide (n % 2 = 1)) (ofN (q.num.natAbs ^ n)) = sg (decide (q.num < 0) && decide (n % 2 = 1)) (q.num.natAbs ^ n) by unfold wv; rw [val_ofN], ez_sg] at hnorm
  have hf := fz_pow q n
  have hz : powZ q (n : Int) = q ^ n := Rat.zpow_natCast q n
  simp only [hz]
  rw [hf]
  clear hf hz pA pD lA lD hodd hsg e'
  have h4 : ¬ (8 : Int) < n := by omega
  have h5 : ¬ ((n : Int) < -(n : Int)) := by omega
  have h6 : ¬ (n : Int) < 0 := by omega
  have h1' : ¬ (n : Int) < -8 := by omega
  generalize ofN (q.num.natAbs ^ n) = AP at *
  generalize ofN (q.den ^ n) = DP at *
  generalize decide (q.num.natAbs ^ n ≠ 0) = NZ at *
  generalize ofN q.num.natAbs = A at *
  generalize ofN q.den = D at *
  generalize decide (q.num < 0) = NG at *
  generalize decide (n % 2 = 1) = OD at *
  cases NG with
  | false =>
   simp only [Bool.false_and] at hnorm ⊢
   simp -implicitDefEqProofs [h0, hn, h4, h5, h6, h1', hw, mm2, cA, cD, ho, hnorm]
  | true =>
   simp only [Bool.true_and] at hnorm ⊢
   cases OD with
   | false => simp -implicitDefEqProofs [h0, hn, h4, h5, h6, h1', hw, mm2, cA, cD, ho, hnorm]
   | true => simp -implicitDefEqProofs [h0, hn, h4, h5, h6, h1', hw, mm2, cA, cD, ho, hnorm]
 by_cases h7 : q = 0
 ·rw [if_neg (by intro h; exact h.2.2 ⟨h3, h7⟩)]
  have hs0 : sgQ q = 0 := sgQ_zero.2 h7
  rw [hs0] at hsg
  generalize fz 0 = Z at *
  have h4 : ¬ (8 : Int) < e := by omega
  simp -implicitDefEqProofs [h0, h1, h4, h3, hsg]
 rw [if_pos (by refine ⟨by omega, by omega, fun h => h7 h.2⟩)]
 obtain ⟨n, rfl⟩ : ∃ n : Nat, e = -(n : Int) := ⟨(-e).toNat, by omega⟩
 have hn8 : n ≤ 8 := by omega
 have hsz : ¬ sgQ q = 0 := fun h => h7 (sgQ_zero.1 h)
 have hw : IntKind.wrap .i64 (n : Int) = (n : Int) := wrap_i64 _ (by omega)
 have cA := pA n hn8
 have cD := pD n hn8
 have ho := hodd n hn8
 have hnorm := whole_norm (T := T) (decide (q.num < 0) && decide (n % 2 = 1)) (ofN (q.den ^ n)) (lD n hn8)
 rw [show wv (decide (q.num < 0) && decide (n % 2 = 1)) (ofN (q.den ^ n)) = sg (decide (q.num < 0) && decide (n % 2 = 1)) (q.den ^ n) by unfold wv; rw [val_ofN], ez_sg] at hnorm
 have hf := fz_powi q n h7
 have hz : powZ q (-(n : Int)) = (q ^ n)⁻¹ := by unfold powZ; rw [Rat.zpow_neg, Rat.zpow_natCast]
 simp only [hz]
 rw [hf]
 clear hf hz pA pD lA lD hodd e'
 have h4 : ¬ (8 : Int) < -(n : Int) := by omega
 have h5 : (-(n : Int) < (n : Int)) := by omega
 have h1' : ¬ -(n : Int) < -8 := by omega
 have h6 : (n : Int) ≠ 0 := by omega
 have h6' : 0 < (n : Int) := by omega
 have h6'' : 0 < n := by omega
 have h1'' : ¬ 8 < n := by omega
 generalize ofN (q.num.natAbs ^ n) = AP at *
 generalize ofN (q.den ^ n) = DP at *
 generalize decide (q.den ^ n ≠ 0) = NZ at *
 generalize ofN q.num.natAbs = A at *
 generalize ofN q.den = D at *
 generalize decide (q.num < 0) = NG at *
 generalize decide (n % 2 = 1) = OD at *
 generalize sgQ q = SG at *
 cases NG with
 | false =>
  simp only [Bool.false_and] at hnorm ⊢
  simp -implicitDefEqProofs [h0, hn, h3, h4, h5, h6, h6', h6'', h1', h1'', hw, mm2, cA, cD, ho, hnorm, hsg, hsz]
 | true =>
  simp only [Bool.true_and] at hnorm ⊢
  cases OD with
  | false => simp -implicitDefEqProofs [h0, hn, h3, h4, h5, h6, h6', h6'', h1', h1'', hw, mm2, cA, cD, ho, hnorm, hsg, hsz]
  | true => simp -implicitDefEqProofs [h0, hn, h3, h4, h5, h6, h6', h6'', h1', h1'', hw, mm2, cA, cD, ho, hnorm, hsg, hsz]
end
end Go.Ab
end

section
namespace Go.Ab
@[simp] theorem ints_length (l : List Int) : (ints l).length = l.length := by simp [ints]
@[simp] theorem ints_wk (l : List Int) : wkL (ints l) = ints l := by rw [wkL_map]; simp [ints, wkR, wkA]
@[simp] theorem ints_get? (l : List Int) (i : Nat) : (ints l)[i]? = (l[i]?).map fun x => [.i .i64 x] := by simp [ints]
@[simp] theorem ints_get (l : List Int) (i : Nat) (h : i < (ints l).length) : (ints l)[i] = [.i .i64 (l[i]'(by simpa using h))] := by simp [ints]
@[simp] theorem ints_take (l : List Int) (n : Nat) : (ints l).take n = ints (l.take n) := by simp [ints]
@[simp] theorem ints_drop (l : List Int) (n : Nat) : (ints l).drop n = ints (l.drop n) := by simp [ints]
@[simp] theorem ints_nil : ints [] = [] := rfl
section
variable {T : Tbl} [CLimb T] [CNat T] [CProd T] [CTwos T] [CQuot T] [CQuotD T] [CWhole T] [CCommon T] [CFrac T] [CFrac3 T] [CTape T]
theorem tape_below (i m : Int) : callF T 435 [.i .i64 i, .i .i64 m] = some (.b (belowB i m)) := by
 rw [f435 _ rfl, b435]
 unfold belowB
 by_cases h : 0 ≤ i
 ·by_cases h2 : i < m <;> simp -implicitDefEqProofs [h, h2]
 ·simp -implicitDefEqProofs [h]
theorem tape_of (i : Ins) : callF T 437 [.agg (celI i)] = some (.agg [.i .i64 i.op, .i .i64 i.a, .i .i64 i.b]) := by
 rw [f437 _ rfl, b437]
 simp -implicitDefEqProofs
theorem tape_blank (x : Fz) (hx : fsz x ≤ 10000) : callF T 438 [efz x] = some (.b (blankF x)) := by
 obtain ⟨n, a, d⟩ := x
 rw [f438 _ rfl, b438]
 unfold blankF
 cases n with
 | true => simp -implicitDefEqProofs
 | false =>
  by_cases h : a = []
  ·subst h
   by_cases h2 : d = []
   ·subst h2
    simp -implicitDefEqProofs
   ·have e2 : d.isEmpty = false := by cases d <;> simp_all
    simp -implicitDefEqProofs [h2, e2]
  ·have e2 : a.isEmpty = false := by cases a <;> simp_all
   simp -implicitDefEqProofs [h, e2]
theorem tape_reads (i : Ins) : callF T 439 [.agg (celI i)] = some (.sl (ints (readsI i)) .an) := by
 obtain ⟨op, a, b, n⟩ := i
 rw [f439 _ rfl, b439]
 unfold readsI
 simp only
 by_cases h6 : op = 6
 ·subst h6
  simp -implicitDefEqProofs [ints]
 by_cases h11 : op = 11
 ·subst h11
  simp -implicitDefEqProofs [ints]
 rw [if_neg (by omega)]
 by_cases h7 : op = 7
 ·subst h7
  simp -implicitDefEqProofs [ints]
 by_cases h8 : op = 8
 ·subst h8
  simp -implicitDefEqProofs [ints]
 by_cases h9 : op = 9
 ·subst h9
  simp -implicitDefEqProofs [ints]
 by_cases h10 : op = 10
 ·subst h10
  simp -implicitDefEqProofs [ints]
 rw [if_neg (by omega)]
 simp -implicitDefEqProofs [h6, h7, h8, h9, h10, h11]
theorem reads_len (i : Ins) : (readsI i).length ≤ 2 := by
 unfold readsI
 split
 ·simp
 ·split <;> simp
def stMy (t : Tp) (p : Nat) (x : Ins) (i : Nat) : St :=
 ⟨[(1, .i .i64 p), (2, .ptr (.loc 2) 1 4 0 0), (5, .ptr (.loc 5) 2 6 0 0), (30, .sl (ints (readsI x)) .an), (31, .i .i64 (readsI x).length), (32, .i .i64 i)],
  [(.loc 2, ⟨1, .str, 4, [[.sl (rowI t.code) .an, .sl (ints t.outs) .an, .i .i64 t.dim, .i .i64 t.par]]⟩), (.loc 5, ⟨2, .str, 6, [celI x]⟩)], 4⟩
theorem may_loop (t : Tp) (p : Nat) (x : Ins) : loopN T 0 0 (.norm false [2, 5]) l434_0 (stMy t p x 0) =
  if ((readsI x).all fun r => belowB r p) = true then some (.n, ⟨[(2, .ptr (.loc 2) 1 4 0 0), (5, .ptr (.loc 5) 2 6 0 0)],
   [(.loc 2, ⟨1, .str, 4, [[.sl (rowI t.code) .an, .sl (ints t.outs) .an, .i .i64 t.dim, .i .i64 t.par]]⟩), (.loc 5, ⟨2, .str, 6, [celI x]⟩)], 4⟩)
  else some (.r, ⟨[(4, .b false)], [], 2⟩) := by
 have hlen := reads_len x
 refine until_loop (stMy t p x) (readsI x).length (fun i => if (((readsI x).drop i).all fun r => belowB r p) = true then some (.n, _) else some (.r, _)) (fun i hi => ?_) ?_
 ·have hg : (readsI x)[i]? = some ((readsI x)[i]'hi) := List.getElem?_eq_getElem hi
  have hws := wrapS hi (by omega)
  have hd : (readsI x).drop i = (readsI x)[i]'hi :: (readsI x).drop (i + 1) := List.drop_eq_getElem_cons hi
  have cb := tape_below (T := T) ((readsI x)[i]'hi) p
  have hi' : (i : Int) < (readsI x).length := by omega
  by_cases hb : belowB ((readsI x)[i]'hi) p = true
  ·left
   rw [hb] at cb
   refine ⟨?_, by rw [hd]; simp only [List.all_cons, hb, Bool.true_and]⟩
   unfold stMy
   generalize readsI x = R at *
   simp -implicitDefEqProofs [l434_0, hi, hi', hg, hws, cb]
  ·right
   have hb' : belowB ((readsI x)[i]'hi) p = false := by simpa using hb
   rw [hb'] at cb
   have hall : (((readsI x).drop i).all fun r => belowB r p) = false := by rw [hd, List.all_cons, hb']; rfl
   simp only [hall, Bool.false_eq_true, if_false]
   unfold stMy
   clear hall hd
   generalize readsI x = R at *
   constructor <;> simp -implicitDefEqProofs [l434_0, hi, hi', hg, cb]
 ·simp only [List.drop_length, List.all_nil, if_true]
  unfold stMy
  generalize readsI x = R at *
  constructor <;> simp -implicitDefEqProofs [l434_0]
theorem tape_may (t : Tp) (p : Nat) (x : Ins) (hx : t.code[p]? = some x) (hf : fsz x.n ≤ 10000) (hl : t.code.length ≤ 4294967296) : callF T 434 [etp t, .i .i64 p] = some (.b (mayI t.dim t.par p x)) := by
 have hp := get_lt hx
 have hp2 : (p : Int) < t.code.length := by omega
 have ho := tape_of (T := T) x
 have hbl := tape_blank (T := T) x.n hf
 have hrd := tape_reads (T := T) x
 have hlo := may_loop (T := T) t p x
 have hrt := frac_right (T := T) x.n hf
 unfold mayI
 unfold stMy at hlo
 simp only [Int.natCast_zero] at hlo
 have cy := tape_below (T := T) x.a t.dim
 have cp := tape_below (T := T) x.a t.par
 have hr2 : (((readsI x).length : Int) == 2) = decide ((readsI x).length = 2) := by
  rw [Bool.eq_iff_iff]
  simp
  omega
 rw [f434 _ rfl, b434]
 generalize readsI x = R at *
 generalize rightF x.n = RT at *
 generalize blankF x.n = BL at *
 generalize belowB x.a t.dim = B1 at *
 generalize belowB x.a t.par = B2 at *
 generalize (R.all fun r => belowB r p) = AL at *
 obtain ⟨code, outs, dim, par⟩ := t
 obtain ⟨op, a, b, n⟩ := x
 dsimp only at hx hp hp2 ho hbl hrd hlo hrt cy cp ⊢
 have hxe := (List.getElem?_eq_some_iff.1 hx).2
 clear hf hl
 by_cases h1 : op = 1
 ·subst h1
  by_cases ha : a = 0
  ·subst ha
   by_cases hb : b = 0
   ·subst hb
    simp -implicitDefEqProofs [hp, hp2, hx, hxe, ho, hrt]
   ·simp -implicitDefEqProofs [hp, hp2, hx, hxe, ho, hrt, hb]
  ·simp -implicitDefEqProofs [hp, hp2, hx, hxe, ho, hrt, ha]
 rw [if_neg h1]
 cases BL with
 | false => simp -implicitDefEqProofs [hp, hp2, hx, hxe, h1, hbl]
 | true =>
 cases AL with
 | false =>
  simp only [Bool.false_eq_true, if_false] at hlo
  simp -implicitDefEqProofs [hp, hp2, hx, hxe, h1, hbl, hrd, hlo]
 | true =>
 simp only [if_true] at hlo
 by_cases h2 : op = 2
 ·subst h2
  by_cases ha : a = 0
  ·subst ha
   by_cases hb : b = 0
   ·subst hb
    simp -implicitDefEqProofs [hp, hp2, hx, hxe, ho, hbl, hrd, hlo]
   ·simp -implicitDefEqProofs [hp, hp2, hx, hxe, ho, hbl, hrd, hlo, hb]
  ·simp -implicitDefEqProofs [hp, hp2, hx, hxe, ho, hbl, hrd, hlo, ha]
 by_cases h3 : op = 3
 ·subst h3
  cases B1 with
  | false => simp -implicitDefEqProofs [hp, hp2, hx, hxe, hbl, hrd, hlo, cy]
  | true =>
   by_cases hb : b = 0
   ·subst hb
    simp -implicitDefEqProofs [hp, hp2, hx, hxe, hbl, hrd, hlo, cy]
   ·simp -implicitDefEqProofs [hp, hp2, hx, hxe, hbl, hrd, hlo, cy, hb]
 by_cases h4 : op = 4
 ·subst h4
  cases B2 with
  | false => simp -implicitDefEqProofs [hp, hp2, hx, hxe, hbl, hrd, hlo, cp]
  | true =>
   by_cases hb : b = 0
   ·subst hb
    simp -implicitDefEqProofs [hp, hp2, hx, hxe, hbl, hrd, hlo, cp]
   ·simp -implicitDefEqProofs [hp, hp2, hx, hxe, hbl, hrd, hlo, cp, hb]
 by_cases h6 : op = 6
 ·subst h6
  by_cases hb : b = 0
  ·subst hb
   simp -implicitDefEqProofs [hp, hp2, hx, hxe, hbl, hrd, hlo]
  ·simp -implicitDefEqProofs [hp, hp2, hx, hxe, hbl, hrd, hlo, hb]
 by_cases h11 : op = 11
 ·subst h11
  by_cases hb : -8 ≤ b
  ·by_cases hb2 : b ≤ 8
   ·simp -implicitDefEqProofs [hp, hp2, hx, hxe, hbl, hrd, hlo, hb, hb2]
   ·simp -implicitDefEqProofs [hp, hp2, hx, hxe, hbl, hrd, hlo, hb, hb2]
  ·simp -implicitDefEqProofs [hp, hp2, hx, hxe, hbl, hrd, hlo, hb]
 simp -implicitDefEqProofs [hp, hp2, hx, hxe, h1, h2, h3, h4, h6, h11, hbl, hrd, hlo, hr2]
end
end Go.Ab
end

section
namespace Go.Ab
section
variable {T : Tbl} [CLimb T] [CNat T] [CProd T] [CTwos T] [CQuot T] [CQuotD T] [CWhole T] [CCommon T] [CFrac T] [CFrac3 T] [CTape T]
structure Small (t : Tp) : Prop where
 code : t.code.length ≤ 4294967296
 outs : t.outs.length ≤ 4294967296
 ns : ∀ i ∈ t.code, fsz i.n ≤ 10000
 d1 : -9223372036854775808 ≤ t.dim
 d2 : t.dim < 9223372036854775808
theorem tape_whole (t : Tp) (hs : Small t) : callF T 433 [etp t] = some (.b (wholeT t)) := by
 obtain ⟨h1, h2, _, d1, d2⟩ := hs
 have c0 : callF T 435 [.i .i64 (IntKind.wrap .i64 (t.dim - 1)), .i .i64 6] = some (.b (belowB (t.dim - 1) 6)) := by
  rw [tape_below]
  congr 2
  by_cases hm : t.dim = -9223372036854775808
  ·rw [hm]
   decide
  ·rw [wrap_i64 _ (by omega)]
 have c1 := tape_below (T := T) t.par 7
 unfold wholeT
 obtain ⟨code, outs, dim, par⟩ := t
 dsimp only at *
 have e1 : ((outs.length : Int) == dim) = decide ((outs.length : Int) = dim) := rfl
 rw [f433 _ rfl, b433]
 generalize belowB (dim - 1) 6 = B1 at *
 generalize belowB par 7 = B2 at *
 cases B1 with
 | false => simp -implicitDefEqProofs [c0]
 | true =>
 cases B2 with
 | false => simp -implicitDefEqProofs [c0, c1]
 | true =>
 by_cases ho : (outs.length : Int) = dim
 ·by_cases hc : code.length ≤ 300
  ·have hc' : (code.length : Int) ≤ 300 := by omega
   simp -implicitDefEqProofs [c0, c1, ho, hc, hc']
  ·have hc' : 300 < (code.length : Int) := by omega
   simp -implicitDefEqProofs [c0, c1, ho, hc, hc']
 ·simp -implicitDefEqProofs [c0, c1, ho]
def bxT (t : Tp) : Box := ⟨1, .str, 4, [[.sl (rowI t.code) .an, .sl (ints t.outs) .an, .i .i64 t.dim, .i .i64 t.par]]⟩
def stW1 (t : Tp) (i : Nat) : St := ⟨[(1, .ptr (.loc 1) 1 4 0 0), (11, .i .i64 t.code.length), (12, .i .i64 i)], [(.loc 1, bxT t)], 3⟩
theorem wrong_loop1 (t : Tp) (hs : Small t) : loopN T 0 0 (.norm false [1]) l430_0 (stW1 t 0) =
  if firstI t.dim t.par 0 t.code = -1 then some (.n, ⟨[(1, .ptr (.loc 1) 1 4 0 0)], [(.loc 1, bxT t)], 3⟩) else some (.r, ⟨[(2, .i .i64 (firstI t.dim t.par 0 t.code))], [], 2⟩) := by
 have hc := hs.code
 have e0 : t.code.drop 0 = t.code := rfl
 rw [← e0]
 refine until_loop (stW1 t) t.code.length (fun i => if firstI t.dim t.par i (t.code.drop i) = -1 then some (.n, _) else some (.r, ⟨[(2, .i .i64 (firstI t.dim t.par i (t.code.drop i)))], [], 2⟩)) (fun i hi => ?_) ?_
 ·have hg : t.code[i]? = some (t.code[i]'hi) := List.getElem?_eq_getElem hi
  have hws := wrapS hi (by omega)
  have hd : t.code.drop i = t.code[i]'hi :: t.code.drop (i + 1) := List.drop_eq_getElem_cons hi
  have cm := tape_may (T := T) t i _ hg (hs.ns _ (List.getElem_mem hi)) hc
  have hi' : (i : Int) < t.code.length := by omega
  have hf : firstI t.dim t.par i (t.code.drop i) = if mayI t.dim t.par i (t.code[i]'hi) then firstI t.dim t.par (i + 1) (t.code.drop (i + 1)) else i := by rw [hd]; rfl
  by_cases hb : mayI t.dim t.par i (t.code[i]'hi) = true
  ·left
   rw [hb] at cm
   rw [if_pos hb] at hf
   refine ⟨?_, by simp only [hf]⟩
   unfold stW1 bxT
   clear hf hd
   simp -implicitDefEqProofs [l430_0, hi, hi', hws, cm]
  ·right
   have hb' : mayI t.dim t.par i (t.code[i]'hi) = false := by simpa using hb
   rw [hb'] at cm
   rw [if_neg hb] at hf
   have hne : ¬ (i : Int) = -1 := by omega
   simp only [hf, if_neg hne]
   unfold stW1 bxT
   clear hf hd
   constructor <;> simp -implicitDefEqProofs [l430_0, hi, hi', cm]
 ·have hf : firstI t.dim t.par t.code.length (t.code.drop t.code.length) = -1 := by rw [List.drop_length]; rfl
  simp only [hf, if_true]
  unfold stW1 bxT
  constructor <;> simp -implicitDefEqProofs [l430_0]
def stW2 (t : Tp) (i : Nat) : St := ⟨[(1, .ptr (.loc 1) 1 4 0 0), (22, .sl (ints t.outs) .an), (23, .i .i64 t.outs.length), (24, .i .i64 i)], [(.loc 1, bxT t)], 3⟩
theorem wrong_loop2 (t : Tp) (hs : Small t) : loopN T 0 2 (.norm false []) l430_1 (stW2 t 0) =
  if (t.outs.all fun o => belowB o t.code.length) = true then some (.n, ⟨[], [], 2⟩) else some (.r, ⟨[(2, .i .i64 t.code.length)], [], 2⟩) := by
 have hc := hs.outs
 refine until_loop (stW2 t) t.outs.length (fun i => if ((t.outs.drop i).all fun o => belowB o t.code.length) = true then some (.n, _) else some (.r, _)) (fun i hi => ?_) ?_
 ·have hg : t.outs[i]? = some (t.outs[i]'hi) := List.getElem?_eq_getElem hi
  have hws := wrapS hi (by omega)
  have hd : t.outs.drop i = t.outs[i]'hi :: t.outs.drop (i + 1) := List.drop_eq_getElem_cons hi
  have cm := tape_below (T := T) (t.outs[i]'hi) t.code.length
  have hi' : (i : Int) < t.outs.length := by omega
  by_cases hb : belowB (t.outs[i]'hi) t.code.length = true
  ·left
   rw [hb] at cm
   refine ⟨?_, by rw [hd]; simp only [List.all_cons, hb, Bool.true_and]⟩
   unfold stW2 bxT
   clear hd
   simp -implicitDefEqProofs [l430_1, hi, hi', hg, hws, cm]
  ·right
   have hb' : belowB (t.outs[i]'hi) t.code.length = false := by simpa using hb
   rw [hb'] at cm
   have hall : ((t.outs.drop i).all fun o => belowB o t.code.length) = false := by rw [hd, List.all_cons, hb']; rfl
   simp only [hall, Bool.false_eq_true, if_false]
   unfold stW2 bxT
   clear hall hd
   constructor <;> simp -implicitDefEqProofs [l430_1, hi, hi', hg, cm]
 ·simp only [List.drop_length, List.all_nil, if_true]
  unfold stW2 bxT
  constructor <;> simp -implicitDefEqProofs [l430_1]
theorem tape_wrong (t : Tp) (hs : Small t) : callF T 430 [etp t] = some (.i .i64 (wrongT t)) := by
 have cw := tape_whole (T := T) t hs
 have h1 := wrong_loop1 (T := T) t hs
 have h2 := wrong_loop2 (T := T) t hs
 unfold wrongT
 unfold stW1 bxT at h1
 unfold stW2 bxT at h2
 simp only [Int.natCast_zero] at h1 h2
 generalize hfi : firstI t.dim t.par 0 t.code = F at *
 generalize hal : (t.outs.all fun o => belowB o t.code.length) = AL at *
 generalize hwt : wholeT t = W at *
 obtain ⟨code, outs, dim, par⟩ := t
 dsimp only at *
 rw [f430 _ rfl, b430]
 cases W with
 | false => simp -implicitDefEqProofs [cw]
 | true =>
 by_cases hf : F = -1
 ·subst hf
  cases AL with
  | false =>
   simp only [Bool.false_eq_true, if_false] at h2
   simp -implicitDefEqProofs [cw, h1, h2]
  | true =>
   simp only [if_true] at h1 h2
   simp -implicitDefEqProofs [cw, h1, h2]
 ·rw [if_neg hf] at h1
  simp -implicitDefEqProofs [cw, h1, hf]
theorem tape_right (t : Tp) (hs : Small t) : callF T 421 [etp t] = some (.b (okT t)) := by
 have cw := tape_wrong (T := T) t hs
 have e : (wrongT t == -1) = okT t := rfl
 rw [f421 _ rfl, b421, ← e]
 generalize wrongT t = W at *
 obtain ⟨code, outs, dim, par⟩ := t
 simp -implicitDefEqProofs [cw]
end
end Go.Ab
end

section
namespace Go.Ab
def limI (n : Int) : Int := if n < 0 then 0 else if 4096 < n then 4096 else n
abbrev bxG (g : Nat) (s p L : Int) : Box := ⟨g, .str, 3, [[.i .i64 s, .i .i64 p, .i .i64 L]]⟩
def cntS (s : Int) : Int := IntKind.wrap .i64 (s + 1)
def cntP (p : Int) (x : Fz) : Int := if p < (sizF x : Int) then (sizF x : Int) else p
section
variable {T : Tbl} [CLimb T] [CNat T] [CProd T] [CTwos T] [CQuot T] [CQuotD T] [CWhole T] [CCommon T] [CFrac T] [CFrac3 T] [CFrac5 T] [CPow T] [CTape T] [CGauge T] [CEval T]
theorem frac_size' (x : Fz) (hx : fsz x ≤ 10000) : callF T 223 [efz x] = some (.i .i64 (sizF x)) := by
 have h1 := fsz_a x
 have h2 := fsz_d x
 have c1 := twos_len (T := T) x.2.1 (by omega)
 have c2 := twos_len (T := T) x.2.2 (by omega)
 have b1 := blen_le' (x := val x.2.1) (k := 10000) (Nat.le_trans (ofN_length_le x.2.1) (by omega))
 have b2 := blen_le' (x := val x.2.2) (k := 10000) (Nat.le_trans (ofN_length_le x.2.2) (by omega))
 have w : IntKind.wrap .i64 ((blen (val x.2.1) : Int) + (blen (val x.2.2) : Int)) = ((sizF x : Nat) : Int) := by
  have e : ((sizF x : Nat) : Int) = (blen (val x.2.1) : Int) + (blen (val x.2.2) : Int) := by unfold sizF; omega
  rw [e]
  exact wrap_i64 _ (by omega)
 rw [f223 _ rfl, b223]
 generalize sizF x = S at *
 generalize blen (val x.2.1) = B1 at *
 generalize blen (val x.2.2) = B2 at *
 simp -implicitDefEqProofs [c1, c2, w]
theorem gauge_new (n : Int) : callH T 406 [.i .i64 n] [] = some (.ptr (.loc 7) 1 3 0 0, [(.loc 7, bxG 1 0 0 (limI n))]) := by
 unfold limI
 rw [f406 _ _ rfl, b406]
 by_cases h1 : n < 0
 ·simp -implicitDefEqProofs [h1, mm2]
 ·by_cases h2 : 4096 < n
  ·simp -implicitDefEqProofs [h1, h2, mm2]
  ·simp -implicitDefEqProofs [h1, h2, mm2]
theorem gauge_note (s p L k : Int) : callH T 426 [.ptr (.bor 0) 0 3 0 0, .i .i64 k] [(.bor 0, bxG 0 s p L)] = some (.tup [], [(.bor 0, bxG 0 (cntS s) (if p < k then k else p) L)]) := by
 unfold cntS
 rw [f426 _ _ rfl, b426]
 by_cases h1 : p < k
 ·simp -implicitDefEqProofs [h1, mm2]
 ·simp -implicitDefEqProofs [h1, mm2]
theorem gauge_take (s p L : Int) (x : Fz) (hx : fsz x ≤ 10000) : callH T 411 [.ptr (.bor 0) 0 3 0 0, efz x] [(.bor 0, bxG 0 s p L)] = some (.b (decide ((sizF x : Int) ≤ L)), [(.bor 0, bxG 0 (cntS s) (cntP p x) L)]) := by
 have h1 := frac_size' (T := T) x hx
 have h2 := gauge_note (T := T) s p L (sizF x)
 unfold cntP
 rw [f411 _ _ rfl, b411]
 generalize cntS s = s' at *
 generalize (if p < (sizF x : Int) then (sizF x : Int) else p) = p' at *
 generalize (sizF x : Int) = z at *
 simp -implicitDefEqProofs [h1, h2]
def stEn (l : List Fz) (i : Nat) : St := ⟨[(3, .bs (.loc 3) 1 3 0 i), (6, .sl (rowF l) .an), (7, .i .i64 l.length), (8, .i .i64 i)], [(.loc 3, ⟨1, .own, 3, rowF (nrm (l.take i))⟩)], 3⟩
theorem eval_norms (l : List Fz) (hl : l.length ≤ 1000) (hw : ∀ x ∈ l, fsz x ≤ 1000) : callF T 420 [.sl (rowF l) .an] = some (.sl (rowF (nrm l)) .an) := by
 have h : loopN T 0 0 (.norm false [3]) l420_0 (stEn l 0) = some (.n, ⟨[(3, .bs (.loc 3) 1 3 0 l.length)], [(.loc 3, ⟨1, .own, 3, rowF (nrm l)⟩)], 3⟩) := by
  refine range_loop (stEn l) l.length _ (fun i hi => ?_) ?_
  ·have hg : l[i]? = some (l[i]'hi) := List.getElem?_eq_getElem hi
   have hws := wrapS hi (by omega)
   have hn := frac_norm (T := T) (l[i]'hi) (Nat.le_trans (hw _ (List.getElem_mem hi)) (by decide))
   have e : nrm (l.take (i + 1)) = nrm (l.take i) ++ [fz (fv (l[i]'hi))] := take_map_succ l _ hi
   have hp := rowF_push (m := nrm (l.take i)) (n := i) (by simp [nrm]; omega) (fz (fv (l[i]'hi)))
   have hml : (nrm (l.take i)).length = i := by simp [nrm]; omega
   unfold stEn
   rw [e]
   clear e
   generalize nrm (l.take i) = M at *
   generalize fz (fv (l[i]'hi)) = z at *
   have hb : i ≤ 4294967295 := by omega
   simp -implicitDefEqProofs [l420_0, hi, hg, hws, hn, hp, hml, hb]
  ·unfold stEn
   rw [List.take_of_length_le (Nat.le_refl _)]
   generalize nrm l = M
   constructor <;> simp -implicitDefEqProofs [l420_0]
 unfold stEn at h
 simp [nrm] at h
 have ht : List.take l.length (List.map (fun x => fz (fv x)) l) = List.map (fun x => fz (fv x)) l := List.take_of_length_le (by simp)
 rw [f420 _ rfl, b420]
 simp -implicitDefEqProofs [h, nrm, ht]
structure PoS (x : PoF) (B : Nat) : Prop where
 t : fsz x.t ≤ B
 y : ∀ u ∈ x.y, fsz u ≤ B
 p : ∀ u ∈ x.p, fsz u ≤ B
 yl : x.y.length ≤ 1000
 pl : x.p.length ≤ 1000
theorem po_norm (x : PoF) : x.v.f = ⟨fz (fv x.t), nrm x.y, nrm x.p⟩ := by
 unfold PoF.v Po.f
 rw [fzs_nrm, fzs_nrm]
theorem eval_norm (x : PoF) (h : PoS x 1000) : callF T 405 [ept x] = some (ept x.v.f) := by
 have h1 := frac_norm (T := T) x.t (Nat.le_trans h.t (by decide))
 have h2 := eval_norms (T := T) x.y h.yl h.y
 have h3 := eval_norms (T := T) x.p h.pl h.p
 rw [po_norm]
 obtain ⟨t, y, p⟩ := x
 dsimp only at *
 rw [f405 _ rfl, b405]
 generalize fz (fv t) = t' at *
 generalize nrm y = y' at *
 generalize nrm p = p' at *
 simp -implicitDefEqProofs [h1, h2, h3]
end
end Go.Ab
end

section
namespace Go.Ab
def longT (t : Tp) (many words : Nat) : Bool := ((t.code.take many).any fun i => decide (words < fsz i.n)) || decide (many < t.code.length) || decide (many < t.outs.length)
theorem longT_false {t : Tp} {many words : Nat} (h : longT t many words = false) : t.code.length ≤ many ∧ t.outs.length ≤ many ∧ ∀ i ∈ t.code, fsz i.n ≤ words := by
 unfold longT at h
 simp only [Bool.or_eq_false_iff, decide_eq_false_iff_not, List.any_eq_false, decide_eq_true_eq] at h
 obtain ⟨⟨h1, h2⟩, h3⟩ := h
 rw [List.take_of_length_le (by omega)] at h1
 exact ⟨by omega, by omega, fun x hx => by have := h1 x hx; omega⟩
def longP (x : PoF) (many words : Nat) : Bool := decide (words < fsz x.t) || longB x.y many words || longB x.p many words
theorem longP_false {x : PoF} {many words : Nat} (h : longP x many words = false) (hm : many ≤ 1000) : PoS x words := by
 unfold longP at h
 simp only [Bool.or_eq_false_iff, decide_eq_false_iff_not] at h
 obtain ⟨⟨h1, h2⟩, h3⟩ := h
 obtain ⟨a1, a2⟩ := longB_false h2
 obtain ⟨b1, b2⟩ := longB_false h3
 exact ⟨by omega, a2, b2, by omega, by omega⟩
section
variable {T : Tbl} [CRef02 T] [CRef04 T] [CRef05 T] [CRef07 T] [CRef06 T] [CRef08 T] [CRef09 T] [CRef11 T] [CLaw09 T] [CLaw11 T] [CLaw24 T]
def stLT (t : Tp) (many words i : Nat) : St := ⟨[(1, .i .i64 many), (2, .i .i64 words), (3, .ptr (.loc 3) 1 4 0 0), (7, .i .i64 i)], [(.loc 3, bxT t)], 3⟩
def enLT (t : Tp) (many : Nat) : Ex × St := (.n, ⟨[(1, .i .i64 many), (3, .ptr (.loc 3) 1 4 0 0)], [(.loc 3, bxT t)], 3⟩)
theorem longT_loop (t : Tp) (many words : Nat) (hm : many ≤ 1000) :
  loopN T 0 0 (.norm false [1, 3]) l379_0 (stLT t many words 0) = if (t.code.take many).any (fun i => decide (words < fsz i.n)) = true then some (.r, ⟨[(6, .b true)], [], 2⟩) else some (enLT t many) := by
 have e0 : t.code.take many = (t.code.take many).drop 0 := rfl
 rw [e0]
 obtain ⟨n, hn⟩ : ∃ n, n = (t.code.take many).length := ⟨_, rfl⟩
 have hn' : n ≤ many ∧ n ≤ t.code.length ∧ (n = many ∨ n = t.code.length) := by rw [hn, List.length_take]; omega
 refine until_loop (stLT t many words) n (fun i => if ((t.code.take many).drop i).any (fun x => decide (words < fsz x.n)) = true then some (.r, ⟨[(6, .b true)], [], 2⟩) else some (enLT t many)) (fun i hi => ?_) ?_
 ·have h1 : i < t.code.length := by omega
  have h2 : (i : Int) < t.code.length := by omega
  have h3 : i < many := by omega
  have h4 : (i : Int) < many := by omega
  have hg : t.code[i]? = some (t.code[i]'h1) := List.getElem?_eq_getElem h1
  have hws2 := wrapS h3 (by omega)
  have c := ref09_long (T := T) (t.code[i]'h1).n words
  have key : ((t.code.take many).drop i).any (fun x => decide (words < fsz x.n)) = (decide (words < fsz (t.code[i]'h1).n) || ((t.code.take many).drop (i + 1)).any fun x => decide (words < fsz x.n)) := by
   rw [List.drop_eq_getElem_cons (by rw [← hn]; exact hi), List.any_cons, List.getElem_take]
  by_cases he : words < fsz (t.code[i]'h1).n
  ·right
   rw [if_pos (by rw [key, decide_eq_true he, Bool.true_or])]
   rw [decide_eq_true he] at c
   unfold stLT bxT
   clear key he hn hn'
   constructor <;> simp -implicitDefEqProofs [l379_0, h1, h2, h3, h4, hg, c]
  ·left
   refine ⟨?_, by simp only [key, decide_eq_false he, Bool.false_or]⟩
   rw [decide_eq_false he] at c
   unfold stLT bxT
   clear key he hn hn'
   simp -implicitDefEqProofs [l379_0, h1, h2, h3, h4, hg, hws2, c]
 ·rw [List.drop_of_length_le (by omega), if_neg (by simp)]
  unfold stLT enLT bxT
  by_cases hc : n < t.code.length
  ·have h5 : n = many := by omega
   have h6 : (n : Int) < t.code.length := by omega
   subst h5
   constructor <;> simp -implicitDefEqProofs [l379_0, hc, h6]
  ·have h5 : ¬ (n : Int) < t.code.length := by omega
   constructor <;> simp -implicitDefEqProofs [l379_0, hc, h5]
theorem ref24_long (t : Tp) (many words : Nat) (hm : many ≤ 1000) : callF T 379 [etp t, .i .i64 many, .i .i64 words] = some (.b (longT t many words)) := by
 have h := longT_loop (T := T) t many words hm
 unfold stLT enLT bxT at h
 simp only [Int.natCast_zero] at h
 unfold longT
 generalize ((t.code.take many).any fun i => decide (words < fsz i.n)) = B at *
 obtain ⟨code, outs, dim, par⟩ := t
 dsimp only at *
 rw [f379 _ rfl, b379]
 cases B with
 | true =>
  rw [if_pos rfl] at h
  simp -implicitDefEqProofs [h]
 | false =>
  rw [if_neg (by decide)] at h
  by_cases h1 : many < code.length
  ·have h2 : (many : Int) < code.length := by omega
   simp -implicitDefEqProofs [h, h1, h2]
  ·have h2 : ¬ (many : Int) < code.length := by omega
   have e : decide ((many : Int) < outs.length) = decide (many < outs.length) := by
    by_cases h3 : many < outs.length
    ·rw [decide_eq_true h3, decide_eq_true (by omega)]
    ·rw [decide_eq_false h3, decide_eq_false (by omega)]
   simp -implicitDefEqProofs [h, h1, h2, e]
theorem ref21_long (x : PoF) (many words : Nat) (hm : many ≤ 1000) : callF T 380 [ept x, .i .i64 many, .i .i64 words] = some (.b (longP x many words)) := by
 have c1 := ref09_long (T := T) x.t words
 have c2 := ref11_longB (T := T) x.y many words hm
 have c3 := ref11_longB (T := T) x.p many words hm
 unfold longP
 generalize decide (words < fsz x.t) = B1 at *
 generalize longB x.y many words = B2 at *
 generalize longB x.p many words = B3 at *
 obtain ⟨⟨n, a, d⟩, y, p⟩ := x
 dsimp only at *
 rw [f380 _ rfl, b380]
 cases B1 <;> cases B2 <;> simp -implicitDefEqProofs [c1, c2, c3]
theorem law21_to (x : PoF) (hy : x.y.length ≤ 1000) (hp : x.p.length ≤ 1000) : callF T 383 [ept x] = some (ept x) := by
 have c1 := law09_to (T := T) x.t
 have c2 := law11_to (T := T) x.y (by omega)
 have c3 := law11_to (T := T) x.p (by omega)
 obtain ⟨⟨n, a, d⟩, y, p⟩ := x
 dsimp only at *
 rw [f383 _ rfl, b383]
 simp -implicitDefEqProofs [c1, c2, c3]
@[simp] theorem ints_hd (l : List Int) : Option.all (fun r => decide (r.length = 1)) (ints l).head? = true := by cases l <;> rfl
theorem rowZ_I (l : List Ins) : Option.all (fun r => decide (r.length = 6)) (rowI l).head? = true := by cases l <;> rfl
def fC : BId := .fld (.loc 3) 0
def stTT (t : Tp) (i : Nat) : St := ⟨[(1, .ptr (.loc 1) 1 4 0 0), (2, .ptr (.loc 2) 2 4 0 0), (3, .ptr (.loc 3) 3 4 0 0), (4, .i .i64 i)],
 [(.loc 1, bxT t), (.loc 2, ⟨2, .str, 4, [[.sl [] .an, .sl [] .an, .i .i64 0, .i .i64 0]]⟩), (.loc 3, ⟨3, .str, 4, [[.bs fC 4 6 0 i, .bs (.loc 13) 5 1 0 t.outs.length, .i .i64 t.dim, .i .i64 t.par]]⟩), (fC, ⟨4, .own, 6, rowI (t.code.take i)⟩), (.loc 13, ⟨5, .own, 1, ints t.outs⟩)], 7⟩
theorem toT_round (t : Tp) (i : Nat) (hi : i < t.code.length) (hl : t.code.length ≤ 1000) : evX (orc T) T 0 l382_0 (stTT t i) = some (.n, stTT t (i + 1)) := by
 have hws := wrapS hi (by omega)
 have hb : i ≤ 4294967295 := by omega
 have hg : t.code[i]? = some (t.code[i]'hi) := List.getElem?_eq_getElem hi
 have hn := law09_to (T := T) (t.code[i]'hi).n
 have hi' : (i : Int) < t.code.length := by omega
 have hml : (t.code.take i).length = i := by simp; omega
 have ht : List.take i (t.code.take i) = t.code.take i := List.take_of_length_le (by omega)
 have e := take_succ t.code hi
 have hp := rowI_push hml (t.code[i]'hi)
 rw [ht] at hp
 unfold stTT bxT fC
 rw [e]
 clear e
 generalize t.code.take i = M at *
 simp -implicitDefEqProofs [l382_0, hi, hi', hws, hb, hg, hn, hml, ht, hp]
theorem toT_loop (t : Tp) (hl : t.code.length ≤ 1000) : loopN T 0 0 (.norm false [2, 3]) l382_0 (stTT t 0) =
  some (.n, ⟨[(2, .ptr (.loc 2) 1 4 0 0), (3, .ptr (.loc 3) 2 4 0 0)], [(.loc 2, ⟨1, .str, 4, [[.sl [] .an, .sl [] .an, .i .i64 0, .i .i64 0]]⟩), (.loc 3, ⟨2, .str, 4, [[.bs fC 3 6 0 t.code.length, .bs (.loc 13) 4 1 0 t.outs.length, .i .i64 t.dim, .i .i64 t.par]]⟩), (fC, ⟨3, .own, 6, rowI t.code⟩), (.loc 13, ⟨4, .own, 1, ints t.outs⟩)], 6⟩) := by
 refine range_loop (stTT t) t.code.length _ (fun i hi => toT_round t i hi hl) ?_
 unfold stTT bxT fC
 rw [List.take_of_length_le (Nat.le_refl _)]
 constructor <;> simp -implicitDefEqProofs [l382_0]
theorem law24_to (t : Tp) (hl : t.code.length ≤ 1000) (ho : t.outs.length ≤ 1000) : callF T 382 [etp t] = some (etp t) := by
 have ht : List.take t.code.length t.code = t.code := List.take_of_length_le (by omega)
 have hs : List.take t.outs.length t.outs = t.outs := List.take_of_length_le (by omega)
 have h := toT_loop (T := T) t hl
 unfold stTT bxT fC at h
 simp only [Int.natCast_zero, List.take_zero, rowI_nil] at h
 obtain ⟨code, outs, dim, par⟩ := t
 dsimp only at *
 have ho2 : outs.length ≤ 4294967296 := by omega
 rw [f382 _ rfl, b382]
 simp -implicitDefEqProofs [ht, hs, ho2, h]
end
end Go.Ab
end

section
namespace Go.Ab
theorem powR_of {q : Rat} {e : Int} (h1 : -8 ≤ e) (h2 : e ≤ 8) : powR q e = if e < 0 ∧ q = 0 then (0, false) else (powZ q e, true) := by
 unfold powR
 by_cases h : e < 0 ∧ q = 0
 ·rw [if_pos h, if_neg (by intro hh; exact hh.2.2 h)]
 ·rw [if_neg h, if_pos ⟨h1, h2, h⟩]
abbrev mD : AV := .agg [.dead]
section
variable {T : Tbl} [CLimb T] [CNat T] [CProd T] [CTwos T] [CQuot T] [CQuotD T] [CWhole T] [CCommon T] [CFrac T] [CFrac3 T] [CFrac5 T] [CPow T] [CTape T] [CGauge T] [CEval T] [CRun T] [CIfc T]
theorem fr_of (x : Fz) (hx : fsz x ≤ 1000) : callF T 445 [mD, efz x] = some (efz (fz (fv x))) := by
 have h := frac_norm (T := T) x (by omega)
 rw [f445 _ rfl, b445]
 generalize fz (fv x) = z at *
 simp -implicitDefEqProofs [h]
theorem fr_neg (x : Fz) (hx : fsz x ≤ 1000) : callF T 444 [mD, efz x] = some (efz (fz (-fv x))) := by
 have h := frac_neg (T := T) x (by omega)
 rw [f444 _ rfl, b444]
 generalize fz (-fv x) = z at *
 simp -implicitDefEqProofs [h]
theorem fr_add (x y : Fz) (hx : fsz x ≤ 1000) (hy : fsz y ≤ 1000) : callF T 441 [mD, efz x, efz y] = some (efz (fz (fv x + fv y))) := by
 have h := frac_add (T := T) x y hx hy
 rw [f441 _ rfl, b441]
 generalize fz (fv x + fv y) = z at *
 simp -implicitDefEqProofs [h]
theorem fr_sub (x y : Fz) (hx : fsz x ≤ 1000) (hy : fsz y ≤ 1000) : callF T 448 [mD, efz x, efz y] = some (efz (fz (fv x - fv y))) := by
 have h := frac_sub (T := T) x y hx hy
 rw [f448 _ rfl, b448]
 generalize fz (fv x - fv y) = z at *
 simp -implicitDefEqProofs [h]
theorem fr_mul (x y : Fz) (hx : fsz x ≤ 1000) (hy : fsz y ≤ 1000) : callF T 443 [mD, efz x, efz y] = some (efz (fz (fv x * fv y))) := by
 have h := frac_mul (T := T) x y hx hy
 rw [f443 _ rfl, b443]
 generalize fz (fv x * fv y) = z at *
 simp -implicitDefEqProofs [h]
theorem fr_quo (x y : Fz) (hx : fsz x ≤ 1000) (hy : fsz y ≤ 1000) : callF T 447 [mD, efz x, efz y] = some (.tup [efz (fz (fv x / fv y)), .b (decide (fv y ≠ 0))]) := by
 have h := frac_quo (T := T) x y hx hy
 rw [f447 _ rfl, b447]
 generalize fz (fv x / fv y) = z at *
 generalize decide (fv y ≠ 0) = ok at *
 simp -implicitDefEqProofs [h]
theorem fr_pow (x : Fz) (e : Int) (hx : fsz x ≤ 1000) : callF T 446 [mD, efz x, .i .i64 e] = some (.tup [efz (fz (powR (fv x) e).1), .b (powR (fv x) e).2]) := by
 have h := frac_pow (T := T) x e hx
 rw [f446 _ rfl, b446]
 generalize fz (powR (fv x) e).1 = z at *
 generalize (powR (fv x) e).2 = ok at *
 simp -implicitDefEqProofs [h]
theorem fr_fits (s p L : Int) (x : Fz) (hx : fsz x ≤ 10000) : callH T 442 [.agg [.ptr (.bor 0) 0 3 0 0], efz x] [(.bor 0, bxG 0 s p L)] = some (.b (decide ((sizF x : Int) ≤ L)), [(.bor 0, bxG 0 (cntS s) (cntP p x) L)]) := by
 have h := gauge_take (T := T) s p L x hx
 rw [f442 _ _ rfl, b442]
 generalize cntS s = s' at *
 generalize cntP p x = p' at *
 simp -implicitDefEqProofs [h]
theorem run_leaf (i : Ins) (P : Po) (hop : i.op = 1 ∨ i.op = 2 ∨ i.op = 3 ∨ i.op = 4) (hn : fsz i.n ≤ 1000) (hy : i.op = 3 → 0 ≤ i.a ∧ i.a < P.y.length) (hp : i.op = 4 → 0 ≤ i.a ∧ i.a < P.p.length) :
  callF T 431 [mD, .agg (celI i), ept P.f] = some (efz (fz (valI P [] i).1)) := by
 have h1 := fr_of (T := T) i.n hn
 obtain ⟨op, a, b, n⟩ := i
 obtain ⟨t, y, p⟩ := P
 dsimp only at *
 unfold valI Po.f
 dsimp only
 rw [f431 _ rfl, b431]
 rcases hop with rfl | rfl | rfl | rfl
 ·show _ = some (efz (fz (fv n)))
  generalize fz (fv n) = z at *
  generalize fzs y = Y at *
  generalize fzs p = PP at *
  generalize fz t = tt at *
  simp -implicitDefEqProofs [h1]
 ·show _ = some (efz (fz t))
  generalize fzs y = Y at *
  generalize fzs p = PP at *
  generalize fz t = tt at *
  simp -implicitDefEqProofs
 ·obtain ⟨k, rfl⟩ : ∃ k : Nat, a = k := ⟨a.toNat, by have := (hy rfl).1; omega⟩
  have hk : k < y.length := by have := (hy rfl).2; omega
  have hk' : (k : Int) < y.length := by omega
  have hg : (fzs y)[k]? = some (fz (y[k]'hk)) := fzs_get (List.getElem?_eq_getElem hk)
  have hge := (List.getElem?_eq_some_iff.1 hg).2
  have hl : (fzs y).length = y.length := fzs_length y
  have e : gI y (k : Int) = y[k]'hk := by simp [gI, List.getD, List.getElem?_eq_getElem hk]
  show _ = some (efz (fz (gI _ _)))
  rw [e]
  generalize fzs y = Y at *
  generalize fzs p = PP at *
  generalize fz t = tt at *
  generalize fz (y[k]'hk) = z at *
  simp -implicitDefEqProofs [hk, hk', hg, hge, hl]
 ·obtain ⟨k, rfl⟩ : ∃ k : Nat, a = k := ⟨a.toNat, by have := (hp rfl).1; omega⟩
  have hk : k < p.length := by have := (hp rfl).2; omega
  have hk' : (k : Int) < p.length := by omega
  have hg : (fzs p)[k]? = some (fz (p[k]'hk)) := fzs_get (List.getElem?_eq_getElem hk)
  have hge := (List.getElem?_eq_some_iff.1 hg).2
  have hl : (fzs p).length = p.length := fzs_length p
  have e : gI p (k : Int) = p[k]'hk := by simp [gI, List.getD, List.getElem?_eq_getElem hk]
  show _ = some (efz (fz (gI _ _)))
  rw [e]
  generalize fzs y = Y at *
  generalize fzs p = PP at *
  generalize fz t = tt at *
  generalize fz (p[k]'hk) = z at *
  simp -implicitDefEqProofs [hk, hk', hg, hge, hl]
theorem gI_get {D : List Rat} {a : Int} (h : 0 ≤ a ∧ a < D.length) : ∃ k : Nat, a = k ∧ (k : Int) < D.length ∧ k < D.length ∧ (fzs D)[k]? = some (fz (gI D a)) := by
 obtain ⟨k, rfl⟩ : ∃ k : Nat, a = k := ⟨a.toNat, by omega⟩
 have hk : k < D.length := by omega
 refine ⟨k, rfl, by omega, hk, ?_⟩
 have e : gI D (k : Int) = D[k]'hk := by simp [gI, List.getD, List.getElem?_eq_getElem hk]
 rw [e]
 exact fzs_get (List.getElem?_eq_getElem hk)
theorem gI_sz {D : List Rat} {a : Int} {B : Nat} (hB : 1 ≤ B) (h : ∀ q ∈ D, sz q ≤ B) : sz (gI D a) ≤ B := by
 unfold gI List.getD
 cases hx : D[a.toNat]? with
 | none => exact Nat.le_trans (Nat.le_of_eq sz_zero) hB
 | some q => exact h q (List.mem_of_getElem? hx)
theorem run_step (i : Ins) (P : Po) (D : List Rat) (dim par : Int) (hm : mayI dim par D.length i = true) (hd : (P.y.length : Int) = dim) (hp : (P.p.length : Int) = par) (hn : fsz i.n ≤ 1000) (hD : ∀ q ∈ D, sz q ≤ 1000) :
  callF T 422 [mD, .agg (celI i), ept P.f, .sl (rowF (fzs D)) .an] = some (.tup [efz (fz (valI P D i).1), .b (valI P D i).2]) := by
 have hop := may_op hm
 by_cases hleaf : i.op = 1 ∨ i.op = 2 ∨ i.op = 3 ∨ i.op = 4
 ·have h1 := run_leaf (T := T) i P hleaf hn (fun h => by have := may_y hm h; omega) (fun h => by have := may_p hm h; omega)
  have e : valI P D i = ((valI P [] i).1, true) := by
   unfold valI
   rcases hleaf with h | h | h | h <;> simp [h]
  rw [e]
  generalize fz (valI P [] i).1 = z at *
  generalize fzs D = DD at *
  obtain ⟨op, a, b, n⟩ := i
  generalize P.f = Q at *
  obtain ⟨⟨t0, t1, t2⟩, y, p⟩ := Q
  dsimp only at *
  rw [f422 _ rfl, b422]
  rcases hleaf with rfl | rfl | rfl | rfl <;> simp -implicitDefEqProofs [h1]
 have ha := may_a hm (by omega)
 obtain ⟨k, hk1, hk2, hk3, hka⟩ := gI_get ha
 have sa : fsz (fz (gI D i.a)) ≤ 1000 := gI_sz (by decide) hD
 have hkae := (List.getElem?_eq_some_iff.1 hka).2
 have hl : (fzs D).length = D.length := fzs_length D
 have c6 := fr_neg (T := T) (fz (gI D i.a)) sa
 have c11 := fr_pow (T := T) (fz (gI D i.a)) i.b sa
 rw [fv_fz] at c6 c11
 by_cases h6 : i.op = 6
 ·have e : valI P D i = (-gI D i.a, true) := by simp [valI, h6]
  rw [e]
  generalize fz (-gI D i.a) = z at *
  generalize fz (gI D i.a) = u at *
  generalize fzs D = DD at *
  obtain ⟨op, a, b, n⟩ := i
  generalize P.f = Q at *
  obtain ⟨⟨t0, t1, t2⟩, y, p⟩ := Q
  dsimp only at *
  subst h6 hk1
  rw [f422 _ rfl, b422]
  simp -implicitDefEqProofs [hk2, hk3, hka, hkae, hl, c6]
 by_cases h11 : i.op = 11
 ·have hb := may_e hm h11
  have e : valI P D i = powR (gI D i.a) i.b := by simp [valI, h11, powR_of hb.1 hb.2]
  rw [e]
  generalize fz (powR (gI D i.a) i.b).1 = z at *
  generalize (powR (gI D i.a) i.b).2 = ok at *
  generalize fz (gI D i.a) = u at *
  generalize fzs D = DD at *
  obtain ⟨op, a, b, n⟩ := i
  generalize P.f = Q at *
  obtain ⟨⟨t0, t1, t2⟩, y, p⟩ := Q
  dsimp only at *
  subst h11 hk1
  rw [f422 _ rfl, b422]
  simp -implicitDefEqProofs [hk2, hk3, hka, hkae, hl, c11]
 have hb := may_b hm (by omega)
 obtain ⟨j, hj1, hj2, hj3, hjb⟩ := gI_get hb
 have sb : fsz (fz (gI D i.b)) ≤ 1000 := gI_sz (by decide) hD
 have hjbe := (List.getElem?_eq_some_iff.1 hjb).2
 have c7 := fr_add (T := T) (fz (gI D i.a)) (fz (gI D i.b)) sa sb
 have c8 := fr_sub (T := T) (fz (gI D i.a)) (fz (gI D i.b)) sa sb
 have c9 := fr_mul (T := T) (fz (gI D i.a)) (fz (gI D i.b)) sa sb
 have c10 := fr_quo (T := T) (fz (gI D i.a)) (fz (gI D i.b)) sa sb
 rw [fv_fz, fv_fz] at c7 c8 c9 c10
 have e7 : i.op = 7 → valI P D i = (gI D i.a + gI D i.b, true) := fun h => by simp [valI, h]
 have e8 : i.op = 8 → valI P D i = (gI D i.a - gI D i.b, true) := fun h => by simp [valI, h]
 have e9 : i.op = 9 → valI P D i = (gI D i.a * gI D i.b, true) := fun h => by simp [valI, h]
 have e10 : i.op = 10 → valI P D i = (gI D i.a / gI D i.b, decide (gI D i.b ≠ 0)) := fun h => by simp [valI, h]
 generalize gI D i.a = A at *
 generalize gI D i.b = B at *
 generalize fz A = u at *
 generalize fz B = v at *
 generalize valI P D i = V at *
 generalize fzs D = DD at *
 obtain ⟨op, a, b, n⟩ := i
 generalize P.f = Q at *
 obtain ⟨⟨t0, t1, t2⟩, y, p⟩ := Q
 dsimp only at *
 subst hk1 hj1
 rw [f422 _ rfl, b422]
 rcases (show op = 7 ∨ op = 8 ∨ op = 9 ∨ op = 10 by omega) with rfl | rfl | rfl | rfl
 ·rw [e7 rfl]
  generalize fz (A + B) = z at *
  simp -implicitDefEqProofs [hk2, hk3, hka, hkae, hj2, hj3, hjb, hjbe, hl, c7]
 ·rw [e8 rfl]
  generalize fz (A - B) = z at *
  simp -implicitDefEqProofs [hk2, hk3, hka, hkae, hj2, hj3, hjb, hjbe, hl, c8]
 ·rw [e9 rfl]
  generalize fz (A * B) = z at *
  simp -implicitDefEqProofs [hk2, hk3, hka, hkae, hj2, hj3, hjb, hjbe, hl, c9]
 ·rw [e10 rfl]
  generalize fz (A / B) = z at *
  generalize decide (B ≠ 0) = ok at *
  simp -implicitDefEqProofs [hk2, hk3, hka, hkae, hj2, hj3, hjb, hjbe, hl, c10]
end
end Go.Ab
end

section
namespace Go.Ab
theorem blen_len {n b : Nat} (h : blen n ≤ b) : (ofN n).length ≤ b / 32 + 1 := by
 refine ofN_length_le' ?_
 unfold blen at h
 split at h
 ·rename_i h0
  subst h0
  exact Nat.pow_pos (by decide)
 ·rename_i h0
  have h1 : n < 2 ^ (n.log2 + 1) := (Nat.log2_lt h0).1 (Nat.lt_succ_self _)
  have h3 : (4294967296 : Nat) ^ (b / 32 + 1) = 2 ^ (32 * (b / 32 + 1)) := by rw [Nat.pow_mul]
  have h2 : 2 ^ (n.log2 + 1) ≤ 2 ^ (32 * (b / 32 + 1)) := Nat.pow_le_pow_right (by decide) (by omega)
  omega
theorem sizQ_sz {q : Rat} {b : Nat} (h : sizQ q ≤ b) : sz q ≤ b / 32 + 1 := by
 unfold sizQ sizF fz at h
 rw [val_ofN, val_ofN] at h
 exact Nat.max_le.2 ⟨blen_len (Nat.le_trans (Nat.le_add_right _ _) h), blen_len (Nat.le_trans (Nat.le_add_left _ _) h)⟩
theorem sz_pow (q : Rat) (n : Nat) : sz (q ^ n) ≤ n * sz q + 1 := by
 unfold sz
 rw [Rat.num_pow, Rat.den_pow, Int.natAbs_pow]
 exact Nat.max_le.2 ⟨pow_len (Nat.le_max_left _ _) n, pow_len (Nat.le_max_right _ _) n⟩
theorem powZ_sz {q : Rat} {e : Int} {B : Nat} (hq : sz q ≤ B) (h1 : -8 ≤ e) (h2 : e ≤ 8) : sz (powZ q e) ≤ 8 * B + 1 := by
 unfold powZ
 rcases Int.le_total 0 e with h | h
 ·obtain ⟨n, rfl⟩ : ∃ n : Nat, e = n := ⟨e.toNat, by omega⟩
  rw [Rat.zpow_natCast]
  have := sz_pow q n
  have h3 : n * sz q ≤ 8 * B := Nat.mul_le_mul (by omega) hq
  omega
 ·obtain ⟨n, rfl⟩ : ∃ n : Nat, e = -(n : Int) := ⟨(-e).toNat, by omega⟩
  rw [Rat.zpow_neg, Rat.zpow_natCast]
  have := sz_pow q n
  have h3 : n * sz q ≤ 8 * B := Nat.mul_le_mul (by omega) hq
  have := sz_inv (q ^ n)
  omega
structure PvS (P : Po) (B : Nat) : Prop where
 t : sz P.t ≤ B
 y : ∀ q ∈ P.y, sz q ≤ B
 p : ∀ q ∈ P.p, sz q ≤ B
theorem valI_sz {P : Po} {D : List Rat} {i : Ins} {dim par : Int} {p : Nat} (hm : mayI dim par p i = true) (hP : PvS P 1000) (hn : fsz i.n ≤ 1000) (hD : ∀ q ∈ D, sz q ≤ 129) : sz (valI P D i).1 ≤ 2000 := by
 have ga := gI_sz (D := D) (a := i.a) (B := 129) (by decide) hD
 have gb := gI_sz (D := D) (a := i.b) (B := 129) (by decide) hD
 have gy := gI_sz (D := P.y) (a := i.a) (B := 1000) (by decide) hP.y
 have gp := gI_sz (D := P.p) (a := i.a) (B := 1000) (by decide) hP.p
 have gn := sz_fv (x := i.n) (L := 1000) hn (by decide)
 have gt := hP.t
 rcases may_op hm with h | h | h | h | h | h | h | h | h | h
 ·simp [valI, h]; omega
 ·simp [valI, h]; omega
 ·simp [valI, h]; omega
 ·simp [valI, h]; omega
 ·simp [valI, h, sz_neg]; omega
 ·have := sz_add (gI D i.a) (gI D i.b); simp [valI, h]; omega
 ·have := sz_sub (gI D i.a) (gI D i.b); simp [valI, h]; omega
 ·have := sz_mul (gI D i.a) (gI D i.b); simp [valI, h]; omega
 ·have := sz_div (gI D i.a) (gI D i.b); simp [valI, h]; omega
 ·obtain ⟨e1, e2⟩ := may_e hm h
  have h1 := powZ_sz ga e1 e2
  by_cases hc : i.b < 0 ∧ gI D i.a = 0
  ·simp [valI, h, hc, sz_zero]
  ·simp only [valI, h]
   simp only [hc]
   simp
   omega
def runG (lim : Nat) (P : Po) : List Ins → List Rat → Int → Int → Int × Int
 | [], _, s, p => (s, p)
 | i :: r, D, s, p => if (valI P D i).2 = false then (s, p) else if lim < sizQ (valI P D i).1 then (cntS s, cntP p (fz (valI P D i).1)) else runG lim P r (D ++ [(valI P D i).1]) (cntS s) (cntP p (fz (valI P D i).1))
theorem runG_cons (lim : Nat) (P : Po) (i : Ins) (r : List Ins) (D : List Rat) (s p : Int) : runG lim P (i :: r) D s p = if (valI P D i).2 = false then (s, p) else if lim < sizQ (valI P D i).1 then (cntS s, cntP p (fz (valI P D i).1)) else runG lim P r (D ++ [(valI P D i).1]) (cntS s) (cntP p (fz (valI P D i).1)) := rfl
abbrev bxM : Box := ⟨3, .str, 1, [[.ptr (.bor 0) 0 3 0 0]]⟩
abbrev bxP (g : Nat) (x : PoF) : Box := ⟨g, .str, 5, [[.b x.t.1, .sl (u32s x.t.2.1) .an, .sl (u32s x.t.2.2) .an, .sl (rowF x.y) .an, .sl (rowF x.p) .an]]⟩
abbrev bxF (g : Nat) (a b c d : Int) : Box := ⟨g, .str, 4, [[.i .i64 a, .i .i64 b, .i .i64 c, .i .i64 d]]⟩
def stRun (Q : PoF) (L : Int) (code : List Ins) (i : Nat) (D : List Fz) (s p : Int) (kd : Kind) : St :=
 ⟨[(3, .ptr (.loc 3) 3 1 0 0), (5, .ptr (.loc 5) 4 5 0 0), (7, .ptr (.loc 7) 5 4 0 0), (8, .bs (.loc 8) 6 3 0 i), (34, .sl (rowI code) .an), (35, .i .i64 code.length), (36, .i .i64 i)],
  [(.bor 0, bxG 0 s p L), (.loc 3, bxM), (.loc 5, bxP 4 Q), (.loc 7, bxF 5 0 0 0 0), (.loc 8, ⟨6, kd, 3, rowF D⟩)], 8⟩
def endN (n : Nat) (D : List Fz) (s p L : Int) (kd : Kind) : Ex × St := (.n, ⟨[(7, .ptr (.loc 7) 3 4 0 0), (8, .bs (.loc 8) 4 3 0 n)], [(.bor 0, bxG 0 s p L), (.loc 7, bxF 3 0 0 0 0), (.loc 8, ⟨4, kd, 3, rowF D⟩)], 6⟩)
def endR (kind at_ s p L : Int) : Ex × St := (.r, ⟨[(6, .sl [] .an), (7, .ptr (.loc 7) 3 4 0 0)], [(.bor 0, bxG 0 s p L), (.loc 7, bxF 3 kind 0 0 at_)], 5⟩)
section
variable {T : Tbl} [CLimb T] [CNat T] [CProd T] [CTwos T] [CQuot T] [CQuotD T] [CWhole T] [CCommon T] [CFrac T] [CFrac3 T] [CFrac5 T] [CPow T] [CTape T] [CGauge T] [CEval T] [CRun T] [CIfc T]
theorem rn_round {kd : Kind} (hk : kd = .own ∨ kd = .sh) (x : Ins) (Q : PoF) (L : Int) (code : List Ins) (i : Nat) (D : List Fz) (s p : Int) (v : Fz) (hi : i < code.length) (hc : code.length ≤ 1000) (hg : code[i]? = some x) (hdl : D.length = i) (hv : fsz v ≤ 10000)
  (c : callF T 422 [mD, .agg (celI x), ept Q, .sl (rowF D) .an] = some (.tup [efz v, .b true])) (hf : (sizF v : Int) ≤ L) :
  evX (orc T) T 1 l407_0 (stRun Q L code i D s p kd) = some (.n, stRun Q L code (i + 1) (D ++ [v]) (cntS s) (cntP p v) .sh) := by
 have hf2 := fr_fits (T := T) s p L v hv
 rw [decide_eq_true hf] at hf2
 have hws := wrapS hi (by omega)
 have hge := (List.getElem?_eq_some_iff.1 hg).2
 have ht : List.take i D = D := List.take_of_length_le (by omega)
 have hp : wkL (rowF D ++ [celF v]) = rowF (D ++ [v]) := by rw [rowF_snoc, rowF_wk]
 have hi' : (i : Int) < code.length := by omega
 have hb : i ≤ 4294967295 := by omega
 generalize cntS s = s' at *
 generalize cntP p v = p' at *
 unfold stRun
 obtain ⟨⟨q0, q1, q2⟩, qy, qp⟩ := Q
 rcases hk with rfl | rfl <;> simp -implicitDefEqProofs [l407_0, hi, hi', hg, hge, hws, c, hf2, hp, hdl, hb, ht]
theorem rn_pole {kd : Kind} (hk : kd = .own ∨ kd = .sh) (x : Ins) (Q : PoF) (L : Int) (code : List Ins) (i : Nat) (D : List Fz) (s p : Int) (v : Fz) (hi : i < code.length) (hc : code.length ≤ 1000) (hg : code[i]? = some x) (hdl : D.length = i)
  (c : callF T 422 [mD, .agg (celI x), ept Q, .sl (rowF D) .an] = some (.tup [efz v, .b false])) :
  evX (orc T) T 1 l407_0 (stRun Q L code i D s p kd) = some (endR 3 i s p L) := by
 have hge := (List.getElem?_eq_some_iff.1 hg).2
 have ht : List.take i D = D := List.take_of_length_le (by omega)
 have hi' : (i : Int) < code.length := by omega
 unfold stRun endR
 obtain ⟨⟨q0, q1, q2⟩, qy, qp⟩ := Q
 rcases hk with rfl | rfl <;> simp -implicitDefEqProofs [l407_0, hi, hi', hg, hge, c, hdl, ht]
theorem rn_bits {kd : Kind} (hk : kd = .own ∨ kd = .sh) (x : Ins) (Q : PoF) (L : Int) (code : List Ins) (i : Nat) (D : List Fz) (s p : Int) (v : Fz) (hi : i < code.length) (hc : code.length ≤ 1000) (hg : code[i]? = some x) (hdl : D.length = i) (hv : fsz v ≤ 10000)
  (c : callF T 422 [mD, .agg (celI x), ept Q, .sl (rowF D) .an] = some (.tup [efz v, .b true])) (hf : ¬ (sizF v : Int) ≤ L) :
  evX (orc T) T 1 l407_0 (stRun Q L code i D s p kd) = some (endR 6 i (cntS s) (cntP p v) L) := by
 have hf2 := fr_fits (T := T) s p L v hv
 rw [decide_eq_false hf] at hf2
 have hge := (List.getElem?_eq_some_iff.1 hg).2
 have ht : List.take i D = D := List.take_of_length_le (by omega)
 have hi' : (i : Int) < code.length := by omega
 generalize cntS s = s' at *
 generalize cntP p v = p' at *
 unfold stRun endR
 obtain ⟨⟨q0, q1, q2⟩, qy, qp⟩ := Q
 rcases hk with rfl | rfl <;> simp -implicitDefEqProofs [l407_0, hi, hi', hg, hge, c, hf2, hdl, ht]
theorem rn_end {kd : Kind} (hk : kd = .own ∨ kd = .sh) (Q : PoF) (L : Int) (code : List Ins) (D : List Fz) (s p : Int) : isEx (evX (orc T) T 1 l407_0 (stRun Q L code code.length D s p kd)) = true ∧
  finX 1 0 (.norm false [7, 8]) (evX (orc T) T 1 l407_0 (stRun Q L code code.length D s p kd)) = some (endN code.length D s p L kd) := by
 unfold stRun endN
 obtain ⟨⟨q0, q1, q2⟩, qy, qp⟩ := Q
 rcases hk with rfl | rfl <;> constructor <;> simp -implicitDefEqProofs [l407_0]
theorem rn_finr (kind at_ s p L : Int) : finX 1 0 (.norm false [7, 8]) (some (endR kind at_ s p L)) = some (endR kind at_ s p L) := by
 unfold endR
 simp -implicitDefEqProofs
def kdE (kd : Kind) (l : List Ins) : Kind := if l = [] then kd else .sh
def endRun (lim : Nat) (P : Po) (code l : List Ins) (D : List Rat) (s p : Int) (kd : Kind) : Ex × St :=
 if (runR lim P l D).2.1 = 0 then endN code.length (fzs (runR lim P l D).1) (runG lim P l D s p).1 (runG lim P l D s p).2 lim (kdE kd l)
 else endR (runR lim P l D).2.1 (runR lim P l D).2.2 (runG lim P l D s p).1 (runG lim P l D s p).2 lim
theorem run_loop (P : Po) (lim : Nat) (hlim : lim ≤ 4096) (t : Tp) (ht : OkTp t) (hn : ∀ i ∈ t.code, fsz i.n ≤ 1000) (hd : (P.y.length : Int) = t.dim) (hp : (P.p.length : Int) = t.par) (hP : PvS P 1000) (s p : Int) :
  loopN T 1 0 (.norm false [7, 8]) l407_0 (stRun P.f lim t.code 0 [] s p .own) = some (endRun lim P t.code t.code [] s p .own) := by
 have hc := ht.cl
 have key := loopN_eq (T := T) (k := 1) (id := 0) (g2 := .norm false [7, 8]) (c := l407_0) (fun x : Nat × List Rat × (Int × Int) × Kind => stRun P.f lim t.code x.1 (fzs x.2.1) x.2.2.1.1 x.2.2.1.2 x.2.2.2)
  (fun x => x.1 ≤ t.code.length ∧ x.2.1.length = x.1 ∧ (∀ q ∈ x.2.1, sz q ≤ 129) ∧ (x.2.2.2 = .own ∨ x.2.2.2 = .sh)) (fun x => t.code.length - x.1)
  (fun x => some (endRun lim P t.code (t.code.drop x.1) x.2.1 x.2.2.1.1 x.2.2.1.2 x.2.2.2)) ?_ (0, [], (s, p), .own) ⟨Nat.zero_le _, rfl, by simp, .inl rfl⟩
 ·exact key
 rintro ⟨i, D, ⟨s, p⟩, kd⟩ ⟨hi, hdl, hD, hk⟩
 dsimp only at *
 by_cases hlt : i < t.code.length
 ·have hg : t.code[i]? = some (t.code[i]'hlt) := List.getElem?_eq_getElem hlt
  have hmem := List.getElem_mem hlt
  have hm := ht.may i _ hg
  have hdr : t.code.drop i = t.code[i]'hlt :: t.code.drop (i + 1) := List.drop_eq_getElem_cons hlt
  generalize hx : t.code[i]'hlt = x at *
  have hm' : mayI t.dim t.par D.length x = true := by rw [hdl]; exact hm
  have c := run_step (T := T) x P D t.dim t.par hm' hd hp (hn x hmem) (fun q hq => Nat.le_trans (hD q hq) (by decide))
  have hvs : fsz (fz (valI P D x).1) ≤ 10000 := Nat.le_trans (valI_sz hm' hP (hn x hmem) hD) (by decide)
  have hfl : (fzs D).length = i := by rw [fzs_length, hdl]
  have hout : endRun lim P t.code (t.code.drop i) D s p kd = endRun lim P t.code (x :: t.code.drop (i + 1)) D s p kd := by rw [hdr]
  rw [hout]
  cases hok : (valI P D x).2 with
  | false =>
   right
   rw [hok] at c
   have e := rn_pole (T := T) hk x P.f lim t.code i (fzs D) s p _ hlt (by omega) hg hfl c
   rw [e, rn_finr]
   refine ⟨rfl, ?_⟩
   have hR : runR lim P (x :: t.code.drop (i + 1)) D = ([], 3, i) := by rw [runR_cons, if_pos hok, hdl]
   have hG : runG lim P (x :: t.code.drop (i + 1)) D s p = (s, p) := by rw [runG_cons, if_pos hok]
   unfold endRun
   rw [hR, hG]
   rfl
  | true =>
   rw [hok] at c
   by_cases hfit : sizQ (valI P D x).1 ≤ lim
   ·left
    have e := rn_round (T := T) hk x P.f lim t.code i (fzs D) s p _ hlt (by omega) hg hfl hvs c (by unfold sizQ at hfit; omega)
    refine ⟨(i + 1, D ++ [(valI P D x).1], (cntS s, cntP p (fz (valI P D x).1)), .sh), ⟨by omega, by simp [hdl], fun q hq => ?_, .inr rfl⟩, by show t.code.length - (i + 1) < t.code.length - i; omega, ?_, ?_⟩
    ·rcases List.mem_append.1 hq with h | h
     ·exact hD q h
     ·rw [List.mem_singleton.1 h]
      have := sizQ_sz hfit
      have : lim / 32 ≤ 128 := by omega
      omega
    ·rw [e]
     simp [fzs]
    ·dsimp only
     congr 1
     have hR : runR lim P (x :: t.code.drop (i + 1)) D = runR lim P (t.code.drop (i + 1)) (D ++ [(valI P D x).1]) := by rw [runR_cons, if_neg (by rw [hok]; decide), if_neg (by omega)]
     have hG : runG lim P (x :: t.code.drop (i + 1)) D s p = runG lim P (t.code.drop (i + 1)) (D ++ [(valI P D x).1]) (cntS s) (cntP p (fz (valI P D x).1)) := by rw [runG_cons, if_neg (by rw [hok]; decide), if_neg (by omega)]
     unfold endRun
     rw [hR, hG]
     have e1 : kdE kd (x :: t.code.drop (i + 1)) = .sh := by simp [kdE]
     have e2 : ∀ l, kdE .sh l = .sh := by intro l; simp [kdE]
     rw [e1, e2]
   ·right
    have e := rn_bits (T := T) hk x P.f lim t.code i (fzs D) s p _ hlt (by omega) hg hfl hvs c (by unfold sizQ at hfit; omega)
    rw [e, rn_finr]
    refine ⟨rfl, ?_⟩
    have hR : runR lim P (x :: t.code.drop (i + 1)) D = ([], 6, i) := by rw [runR_cons, if_neg (by rw [hok]; decide), if_pos (by omega), hdl]
    have hG : runG lim P (x :: t.code.drop (i + 1)) D s p = (cntS s, cntP p (fz (valI P D x).1)) := by rw [runG_cons, if_neg (by rw [hok]; decide), if_pos (by omega)]
    unfold endRun
    rw [hR, hG]
    rfl
 ·right
  have hi2 : i = t.code.length := by omega
  subst hi2
  have e := rn_end (T := T) hk P.f lim t.code (fzs D) s p
  refine ⟨e.1, ?_⟩
  rw [e.2, List.drop_length]
  unfold endRun
  simp [runR, runG, kdE]
end
end Go.Ab
end

section
namespace Go.Ab
def fitT (t : Tp) (y p : Nat) : Bool := okT t && decide ((y : Int) = t.dim) && decide ((p : Int) = t.par)
def tapeR (lim : Nat) (t : Tp) (P : Po) : List Rat × Nat × Nat := if fitT t P.y.length P.p.length = true then runR lim P t.code [] else ([], 2, 0)
def outsR (t : Tp) (D : List Rat) : List Rat := t.outs.map (gI D)
def fieldR (lim : Nat) (t : Tp) (P : Po) : List Rat × Nat × Nat := if (tapeR lim t P).2.1 = 0 then (outsR t (tapeR lim t P).1, 0, 0) else ([], (tapeR lim t P).2)
structure TpS (t : Tp) : Prop where
 small : Small t
 ns : ∀ i ∈ t.code, fsz i.n ≤ 1000
abbrev fltA (k s g a : Int) : AV := .agg [.i .i64 k, .i .i64 s, .i .i64 g, .i .i64 a]
theorem fitT_spec {t : Tp} {y p : Nat} (h : fitT t y p = true) : OkTp t ∧ (y : Int) = t.dim ∧ (p : Int) = t.par := by
 unfold fitT at h
 simp only [Bool.and_eq_true, decide_eq_true_eq] at h
 exact ⟨(okT_iff t).1 h.1.1, h.1.2, h.2⟩
section
variable {T : Tbl} [CLimb T] [CNat T] [CProd T] [CTwos T] [CQuot T] [CQuotD T] [CWhole T] [CCommon T] [CFrac T] [CFrac3 T] [CFrac5 T] [CPow T] [CTape T] [CGauge T] [CEval T] [CRun T] [CIfc T]
theorem run_bad (t : Tp) (Q : PoF) (hs : TpS t) (s p L : Int) (h : fitT t Q.y.length Q.p.length = false) :
  callH T 407 [.agg [.ptr (.bor 0) 0 3 0 0], etp t, ept Q] [(.bor 0, bxG 0 s p L)] = some (.tup [.sl [] .an, fltA 2 0 0 0], [(.bor 0, bxG 0 s p L)]) := by
 have hr := tape_right (T := T) t hs.small
 unfold fitT at h
 rw [f407 _ _ rfl, b407]
 obtain ⟨⟨q0, q1, q2⟩, qy, qp⟩ := Q
 dsimp only at h
 cases hok : okT t with
 | false =>
  rw [hok] at hr
  obtain ⟨code, outs, dim, par⟩ := t
  simp -implicitDefEqProofs [hr]
 | true =>
  rw [hok] at hr h
  obtain ⟨code, outs, dim, par⟩ := t
  dsimp only at *
  by_cases h1 : (qy.length : Int) = dim
  ·by_cases h2 : (qp.length : Int) = par
   ·simp [h1, h2] at h
   ·simp -implicitDefEqProofs [hr, h1, h2]
  ·simp -implicitDefEqProofs [hr, h1]
theorem run_good0 (t : Tp) (P : Po) (hs : TpS t) (lim : Nat) (hlim : lim ≤ 4096) (s p : Int) (hP : PvS P 1000) (h : fitT t P.y.length P.p.length = true) (hk : (runR lim P t.code []).2.1 = 0) :
  ∃ (s' p' : Int) (kd : Kind), (kd = .own ∨ kd = .sh) ∧ callH T 407 [.agg [.ptr (.bor 0) 0 3 0 0], etp t, ept P.f] [(.bor 0, bxG 0 s p lim)] =
   some (.tup [.bs (.loc 8) 3 3 0 t.code.length, fltA 0 0 0 0], [(.bor 0, bxG 0 s' p' lim), (.loc 8, ⟨3, kd, 3, rowF (fzs (runR lim P t.code []).1)⟩)]) := by
 obtain ⟨hok, h1, h2⟩ := fitT_spec h
 have hr := tape_right (T := T) t hs.small
 have hl := run_loop (T := T) P lim hlim t hok hs.ns h1 h2 hP s p
 rw [(okT_iff t).2 hok] at hr
 unfold endRun at hl
 rw [if_pos hk] at hl
 unfold stRun endN at hl
 simp only [Int.natCast_zero, rowF_nil] at hl
 have hkd : ∃ kd : Kind, kdE .own t.code = kd ∧ (kd = .own ∨ kd = .sh) := by
  unfold kdE
  split
  ·exact ⟨_, rfl, .inl rfl⟩
  ·exact ⟨_, rfl, .inr rfl⟩
 obtain ⟨kd, hkd1, hkd2⟩ := hkd
 rw [hkd1] at hl
 clear hkd1
 have hy : (fzs P.y).length = P.y.length := fzs_length _
 have hp' : (fzs P.p).length = P.p.length := fzs_length _
 unfold Po.f at *
 generalize (runG lim P t.code [] s p).1 = s' at *
 generalize (runG lim P t.code [] s p).2 = p' at *
 generalize fzs (runR lim P t.code []).1 = D at *
 generalize fzs P.y = Y at *
 generalize fzs P.p = PP at *
 generalize fz P.t = tt at *
 obtain ⟨code, outs, dim, par⟩ := t
 dsimp only at *
 refine ⟨s', p', kd, hkd2, ?_⟩
 rw [f407 _ _ rfl, b407]
 rcases hkd2 with rfl | rfl
 ·simp -implicitDefEqProofs [hr, h1, h2, hy, hp', hl]
 ·simp -implicitDefEqProofs [hr, h1, h2, hy, hp', hl]
theorem run_good1 (t : Tp) (P : Po) (hs : TpS t) (lim : Nat) (hlim : lim ≤ 4096) (s p : Int) (hP : PvS P 1000) (h : fitT t P.y.length P.p.length = true) (hk : ¬ (runR lim P t.code []).2.1 = 0) :
  ∃ (s' p' : Int), callH T 407 [.agg [.ptr (.bor 0) 0 3 0 0], etp t, ept P.f] [(.bor 0, bxG 0 s p lim)] =
   some (.tup [.sl [] .an, fltA (runR lim P t.code []).2.1 0 0 (runR lim P t.code []).2.2], [(.bor 0, bxG 0 s' p' lim)]) := by
 obtain ⟨hok, h1, h2⟩ := fitT_spec h
 have hr := tape_right (T := T) t hs.small
 have hl := run_loop (T := T) P lim hlim t hok hs.ns h1 h2 hP s p
 rw [(okT_iff t).2 hok] at hr
 unfold endRun at hl
 rw [if_neg hk] at hl
 unfold stRun endR at hl
 simp only [Int.natCast_zero, rowF_nil] at hl
 have hy : (fzs P.y).length = P.y.length := fzs_length _
 have hp' : (fzs P.p).length = P.p.length := fzs_length _
 unfold Po.f at *
 generalize (runG lim P t.code [] s p).1 = s' at *
 generalize (runG lim P t.code [] s p).2 = p' at *
 generalize (((runR lim P t.code []).2.1 : Nat) : Int) = kk at *
 generalize (((runR lim P t.code []).2.2 : Nat) : Int) = aa at *
 generalize fzs P.y = Y at *
 generalize fzs P.p = PP at *
 generalize fz P.t = tt at *
 obtain ⟨code, outs, dim, par⟩ := t
 dsimp only at *
 refine ⟨s', p', ?_⟩
 rw [f407 _ _ rfl, b407]
 simp -implicitDefEqProofs [hr, h1, h2, hy, hp', hl]
theorem pos_v {x : PoF} (h : PoS x 1000) : PvS x.v 1000 := by
 refine ⟨sz_fv h.t (by decide), fun q hq => ?_, fun q hq => ?_⟩
 ·obtain ⟨u, hu, rfl⟩ := List.mem_map.1 hq
  exact sz_fv (h.y u hu) (by decide)
 ·obtain ⟨u, hu, rfl⟩ := List.mem_map.1 hq
  exact sz_fv (h.p u hu) (by decide)
def limN (n : Int) : Nat := (limI n).toNat
theorem limN_I (n : Int) : limI n = (limN n : Int) ∧ limN n ≤ 4096 := by
 unfold limN limI
 split
 ·omega
 ·split <;> omega
theorem run_tape (t : Tp) (x : PoF) (bits : Int) (hs : TpS t) (hx : PoS x 1000) :
  callF T 384 [etp t, ept x, .i .i64 bits] = some (.tup [.sl (rowF (fzs (tapeR (limN bits) t x.v).1)) .an, fltA (tapeR (limN bits) t x.v).2.1 0 0 (tapeR (limN bits) t x.v).2.2]) := by
 have hn := eval_norm (T := T) x hx
 have hg := gauge_new (T := T) bits
 obtain ⟨hl1, hl2⟩ := limN_I bits
 rw [hl1] at hg
 have hP := pos_v hx
 have hlen : x.v.f.y.length = x.v.y.length ∧ x.v.f.p.length = x.v.p.length := ⟨fzs_length _, fzs_length _⟩
 unfold tapeR
 cases hf : fitT t x.v.y.length x.v.p.length with
 | false =>
  have hm := run_bad (T := T) t x.v.f hs 0 0 (limN bits) (by rw [hlen.1, hlen.2]; exact hf)
  simp only [Bool.false_eq_true, if_false]
  have e0 : fzs [] = [] := rfl
  rw [e0, f384 _ rfl, b384]
  generalize x.v.f = Q at *
  obtain ⟨code, outs, dim, par⟩ := t
  obtain ⟨⟨q0, q1, q2⟩, qy, qp⟩ := Q
  obtain ⟨⟨x0, x1, x2⟩, xy, xp⟩ := x
  dsimp only at *
  simp -implicitDefEqProofs [hn, hg, hm]
 | true =>
  simp only [if_true]
  by_cases hk : (runR (limN bits) x.v t.code []).2.1 = 0
  ·obtain ⟨s', p', kd, hkd, hm⟩ := run_good0 (T := T) t x.v hs (limN bits) hl2 0 0 hP hf hk
   have e2 := (runR_ok _ _ _ _ hk).1
   have el : (runR (limN bits) x.v t.code []).1.length = t.code.length := by
    obtain ⟨E, h1, h2⟩ := (runR_ok _ _ _ _ hk).2
    rw [h1]; simpa using h2
   rw [hk, e2]
   have hfl : (fzs (runR (limN bits) x.v t.code []).1).length = t.code.length := by rw [fzs_length, el]
   clear el e2 hk
   generalize fzs (runR (limN bits) x.v t.code []).1 = D at *
   have ht : List.take t.code.length D = D := List.take_of_length_le (by omega)
   rw [f384 _ rfl, b384]
   generalize x.v.f = Q at *
   obtain ⟨code, outs, dim, par⟩ := t
   obtain ⟨⟨q0, q1, q2⟩, qy, qp⟩ := Q
   obtain ⟨⟨x0, x1, x2⟩, xy, xp⟩ := x
   dsimp only at *
   rcases hkd with rfl | rfl
   ·simp -implicitDefEqProofs [hn, hg, hm, hfl, ht]
   ·simp -implicitDefEqProofs [hn, hg, hm, hfl, ht]
  ·obtain ⟨s', p', hm⟩ := run_good1 (T := T) t x.v hs (limN bits) hl2 0 0 hP hf hk
   have e1 := (runR_at _ _ _ _ hk).1
   have e0 : fzs [] = [] := rfl
   rw [e1, e0]
   clear e1 hk
   generalize (((runR (limN bits) x.v t.code []).2.1 : Nat) : Int) = kk at *
   generalize (((runR (limN bits) x.v t.code []).2.2 : Nat) : Int) = aa at *
   rw [f384 _ rfl, b384]
   generalize x.v.f = Q at *
   obtain ⟨code, outs, dim, par⟩ := t
   obtain ⟨⟨q0, q1, q2⟩, qy, qp⟩ := Q
   obtain ⟨⟨x0, x1, x2⟩, xy, xp⟩ := x
   dsimp only at *
   simp -implicitDefEqProofs [hn, hg, hm]
def stOu (D : List Fz) (outs : List Int) (E : List Fz) (i : Nat) (kd : Kind) : St :=
 ⟨[(1, .sl (rowF D) .an), (5, .bs (.loc 5) 1 3 0 i), (20, .sl (ints outs) .an), (21, .i .i64 outs.length), (22, .i .i64 i)], [(.loc 5, ⟨1, .own, 3, rowF (E.take i)⟩)], 3⟩
theorem runR_sz {lim : Nat} {P : Po} (hlim : lim ≤ 4096) : ∀ (l : List Ins) (D : List Rat), (∀ q ∈ D, sz q ≤ 129) → ∀ q ∈ (runR lim P l D).1, sz q ≤ 129
 | [], D, h => h
 | i :: r, D, h => by
  rw [runR_cons]
  split
  ·simp
  ·split
   ·simp
   ·rename_i hf
    refine runR_sz hlim r _ fun q hq => ?_
    rcases List.mem_append.1 hq with hq | hq
    ·exact h q hq
    ·rw [List.mem_singleton.1 hq]
     have := sizQ_sz (q := (valI P D i).1) (b := lim) (by omega)
     omega
end
end Go.Ab
end

section
namespace Go.Ab
def headT (t : Tp) (n : Nat) : Tp := ⟨t.code.take n, List.replicate t.outs.length 0, t.dim, t.par⟩
theorem headT_ok {t : Tp} {n : Nat} (h : OkTp t) (hn : 1 ≤ n) (hnc : n ≤ t.code.length) : OkTp (headT t n) := by
 obtain ⟨a1, a2, a3, a4, a5, a6, a7, a8⟩ := h
 refine ⟨a1, a2, a3, a4, ?_, ?_, fun k i hk => ?_, fun o ho => ?_⟩
 ·simpa [headT] using a5
 ·simp [headT]; omega
 ·refine a7 k i ?_
  unfold headT at hk
  dsimp only at hk
  rw [List.getElem?_take] at hk
  split at hk
  ·exact hk
  ·cases hk
 ·unfold headT at ho ⊢
  dsimp only at ho ⊢
  rw [List.eq_of_mem_replicate ho, List.length_take]
  omega
theorem sm_of {t : Tp} {many words : Nat} (h : longT t many words = false) (hm : many ≤ 1000) (hw : words ≤ 1000) (d1 : -9223372036854775808 ≤ t.dim) (d2 : t.dim < 9223372036854775808) : TpS t := by
 obtain ⟨h1, h2, h3⟩ := longT_false h
 exact ⟨⟨by omega, by omega, fun i hi => by have := h3 i hi; omega, d1, d2⟩, fun i hi => by have := h3 i hi; omega⟩
theorem headT_s {t : Tp} (h : TpS t) (n : Nat) : TpS (headT t n) := by
 obtain ⟨⟨a1, a2, a3, a4, a5⟩, a6⟩ := h
 refine ⟨⟨?_, ?_, fun i hi => a3 i (List.mem_of_mem_take hi), a4, a5⟩, fun i hi => a6 i (List.mem_of_mem_take hi)⟩
 ·simp [headT]; omega
 ·simpa [headT] using a2
def t62 : Tp := ⟨[⟨3, 0, 0, (false, [], [])⟩, ⟨2, 0, 0, (false, [], [])⟩, ⟨10, 0, 1, (false, [], [])⟩], [2], 1, 0⟩
def p62 : PoF := ⟨fz 2, [fz 6], []⟩
def p60 : PoF := ⟨(false, [], []), [fz 6], []⟩
theorem ints_rep (n : Nat) : List.replicate n [AV.i .i64 0] = ints (List.replicate n 0) := by simp [ints]
section
variable {T : Tbl} [CLimb T] [CNat T] [CProd T] [CTwos T] [CQuot T] [CQuotD T] [CWhole T] [CCommon T] [CFrac T] [CFrac3 T] [CFrac5 T] [CPow T] [CTape T] [CGauge T] [CEval T] [CRun T] [CIfc T] [CDigits T] [CText T] [CJoin T] [CRow T]
variable [CRef02 T] [CRef04 T] [CRef05 T] [CRef07 T] [CRef06 T] [CRef08 T] [CRef09 T] [CRef11 T] [CLaw09 T] [CLaw11 T] [CLaw24 T] [CLaw26 T]
theorem law26_works : callF T 381 [] = some (.b true) := by
 have k6 := frac_of (T := T) 6 (by decide) (by decide)
 have k2 := frac_of (T := T) 2 (by decide) (by decide)
 have q6 : ((6 : Int) : Rat) = 6 := rfl
 have q2 : ((2 : Int) : Rat) = 2 := rfl
 rw [q6] at k6
 rw [q2] at k2
 have hs : TpS t62 := ⟨⟨by decide, by decide, fun i hi => by
  simp only [t62, List.mem_cons, List.not_mem_nil, or_false] at hi
  rcases hi with rfl | rfl | rfl <;> decide, by decide, by decide⟩, fun i hi => by
  simp only [t62, List.mem_cons, List.not_mem_nil, or_false] at hi
  rcases hi with rfl | rfl | rfl <;> decide⟩
 have f6 : fsz (fz 6) ≤ 1000 := by decide +kernel
 have f2 : fsz (fz 2) ≤ 1000 := by decide +kernel
 have h6 : ∀ u ∈ [fz 6], fsz u ≤ 1000 := fun u hu => by rw [List.mem_singleton.1 hu]; exact f6
 have a1 := run_tape (T := T) t62 p62 100 hs ⟨f2, h6, by simp [p62], by decide, by decide⟩
 have a2 := run_tape (T := T) t62 p60 100 hs ⟨by decide, h6, by simp [p60], by decide, by decide⟩
 have e1 : tapeR (limN 100) t62 p62.v = ([6, 2, 3], 0, 0) := by decide +kernel
 have e2 : tapeR (limN 100) t62 p60.v = ([], 3, 2) := by decide +kernel
 rw [e1] at a1
 rw [e2] at a2
 have s1 : ∀ q ∈ [(6 : Rat), 2, 3], sz q ≤ 1 := by
  intro q hq
  simp only [List.mem_cons, List.not_mem_nil, or_false] at hq
  rcases hq with rfl | rfl | rfl <;> exact szle1 (by decide) (by decide)
 have tx := row_text (T := T) (fzs [6, 2, 3]) (by decide) (fun x hx => Nat.le_trans (fzs_sz s1 x hx) (by decide))
 have et : List.intercalate [44] (txts (fzs [6, 2, 3])) = [54, 44, 50, 44, 51] := by decide +kernel
 rw [et] at tx
 have e0 : fzs [] = [] := rfl
 rw [e0] at a2
 clear e1 e2 s1 et e0 hs f6 f2 h6 q6 q2
 unfold p62 at a1
 unfold p60 at a2
 generalize fzs [6, 2, 3] = A at *
 generalize fz 6 = F6 at *
 generalize fz 2 = F2 at *
 replace a1 : callF T 384 [.agg [.sl [[.i .i64 3, .i .i64 0, .i .i64 0, .b false, .sl [] .an, .sl [] .an], [.i .i64 2, .i .i64 0, .i .i64 0, .b false, .sl [] .an, .sl [] .an], [.i .i64 10, .i .i64 0, .i .i64 1, .b false, .sl [] .an, .sl [] .an]] .an, .sl [[.i .i64 2]] .an, .i .i64 1, .i .i64 0],
  .agg [.b F2.1, .sl (u32s F2.2.1) .an, .sl (u32s F2.2.2) .an, .sl [[.b F6.1, .sl (u32s F6.2.1) .an, .sl (u32s F6.2.2) .an]] .an, .sl [] .an], .i .i64 100] = some (.tup [.sl (rowF A) .an, fltA 0 0 0 0]) := a1
 replace a2 : callF T 384 [.agg [.sl [[.i .i64 3, .i .i64 0, .i .i64 0, .b false, .sl [] .an, .sl [] .an], [.i .i64 2, .i .i64 0, .i .i64 0, .b false, .sl [] .an, .sl [] .an], [.i .i64 10, .i .i64 0, .i .i64 1, .b false, .sl [] .an, .sl [] .an]] .an, .sl [[.i .i64 2]] .an, .i .i64 1, .i .i64 0],
  .agg [.b false, .sl [] .an, .sl [] .an, .sl [[.b F6.1, .sl (u32s F6.2.1) .an, .sl (u32s F6.2.2) .an]] .an, .sl [] .an], .i .i64 100] = some (.tup [.sl [] .an, fltA 3 0 0 2]) := a2
 rw [f381 _ rfl, b381]
 simp -implicitDefEqProofs [a1, a2, tx, k6, k2]
 done
theorem law26_ahead (t : Tp) (x : PoF) (n : Int) (d1 : -9223372036854775808 ≤ t.dim) (d2 : t.dim < 9223372036854775808) :
  callF T 372 [etp t, ept x, .i .i64 n] = some (.b true) := by
 have c1 : callF T 379 [etp t, .i .i64 15, .i .i64 2] = some (.b (longT t 15 2)) := ref24_long (T := T) t 15 2 (by decide)
 have c2 : callF T 380 [ept x, .i .i64 6, .i .i64 2] = some (.b (longP x 6 2)) := ref21_long (T := T) x 6 2 (by decide)
 have cw := law26_works (T := T)
 cases hL1 : longT t 15 2 with
 | true =>
  rw [hL1] at c1
  clear hL1 c2
  obtain ⟨code, outs, dim, par⟩ := t
  obtain ⟨⟨x0, x1, x2⟩, xy, xp⟩ := x
  rw [f372 _ rfl, b372]
  simp -implicitDefEqProofs [c1, cw]
 | false =>
 have hs := sm_of hL1 (by decide) (by decide) d1 d2
 obtain ⟨hc1, hc2, _⟩ := longT_false hL1
 rw [hL1] at c1
 clear hL1
 cases hL2 : longP x 6 2 with
 | true =>
  rw [hL2] at c2
  clear hL2
  obtain ⟨code, outs, dim, par⟩ := t
  obtain ⟨⟨x0, x1, x2⟩, xy, xp⟩ := x
  rw [f372 _ rfl, b372]
  simp -implicitDefEqProofs [c1, c2, cw]
 | false =>
 have hx0 := longP_false hL2 (by decide)
 have hx : PoS x 1000 := ⟨Nat.le_trans hx0.t (by decide), fun u hu => Nat.le_trans (hx0.y u hu) (by decide), fun u hu => Nat.le_trans (hx0.p u hu) (by decide), hx0.yl, hx0.pl⟩
 rw [hL2] at c2
 clear hL2
 by_cases hn1 : n < 1
 ·clear hs hc1 hc2
  obtain ⟨code, outs, dim, par⟩ := t
  obtain ⟨⟨x0, x1, x2⟩, xy, xp⟩ := x
  rw [f372 _ rfl, b372]
  simp -implicitDefEqProofs [c1, c2, cw, hn1]
 by_cases hn2 : (t.code.length : Int) < n
 ·clear hs hc1 hc2
  obtain ⟨code, outs, dim, par⟩ := t
  obtain ⟨⟨x0, x1, x2⟩, xy, xp⟩ := x
  dsimp only at *
  rw [f372 _ rfl, b372]
  simp -implicitDefEqProofs [c1, c2, cw, hn1, hn2]
 obtain ⟨m, rfl⟩ : ∃ m : Nat, n = m := ⟨n.toNat, by omega⟩
 have hm1 : 1 ≤ m := by omega
 have hm2 : m ≤ t.code.length := by omega
 have c3 := law24_to (T := T) t (by omega) (by omega)
 have c4 := law21_to (T := T) x hx.yl hx.pl
 have ct1 := run_tape (T := T) t x 400 hs hx
 have ct2 := run_tape (T := T) (headT t m) x 400 (headT_s hs m) hx
 have hlim : limN 400 = 400 := by decide
 rw [hlim] at ct1 ct2
 have hr : List.replicate t.outs.length [AV.i .i64 0] = ints (List.replicate t.outs.length 0) := ints_rep _
 have hrl : (t.outs.length : Int) ≤ 4294967296 := by omega
 have hml : (t.code.take m).length = m := by simp; omega
 cases hf : fitT t x.v.y.length x.v.p.length with
 | false =>
  have e1 : tapeR 400 t x.v = ([], 2, 0) := by unfold tapeR; rw [hf]; rfl
  have e0 : fzs [] = [] := rfl
  rw [e1, e0] at ct1
  clear e1 e0 hf hx hx0 hs hlim
  generalize fzs (tapeR 400 (headT t m) x.v).1 = D at *
  generalize (((tapeR 400 (headT t m) x.v).2.1 : Nat) : Int) = kk at *
  generalize (((tapeR 400 (headT t m) x.v).2.2 : Nat) : Int) = aa at *
  unfold headT at ct2
  obtain ⟨code, outs, dim, par⟩ := t
  obtain ⟨⟨x0, x1, x2⟩, xy, xp⟩ := x
  dsimp only at *
  rw [f372 _ rfl, b372]
  simp -implicitDefEqProofs [c1, c2, cw, hn1, hn2, c3, c4, ct1, ct2, hr, hrl, hml, hm2, rowZ_I]
  done
 | true =>
  obtain ⟨hok, hfy, hfp⟩ := fitT_spec hf
  have hf2 : fitT (headT t m) x.v.y.length x.v.p.length = true := by
   unfold fitT
   rw [(okT_iff _).2 (headT_ok hok hm1 hm2)]
   simp only [Bool.true_and, Bool.and_eq_true, decide_eq_true_eq]
   exact ⟨hfy, hfp⟩
  have e1 : tapeR 400 t x.v = runR 400 x.v t.code [] := by unfold tapeR; rw [hf]; rfl
  have e2 : tapeR 400 (headT t m) x.v = runR 400 x.v (t.code.take m) [] := by unfold tapeR; rw [hf2]; rfl
  have hah := runR_ahead 400 x.v t.code m hm2
  have hsz := runR_sz (lim := 400) (P := x.v) (by decide) t.code [] (by simp)
  have hkd := runR_kind 400 x.v t.code []
  rw [e1] at ct1
  rw [e2] at ct2
  clear e1 e2 hf hf2 hok hfy hfp hx hx0 hs hlim
  by_cases h0 : (runR 400 x.v t.code []).2.1 = 0
  ·obtain ⟨g1, g2, g3⟩ := hah.1 h0
   have h02 : (runR 400 x.v t.code []).2.2 = 0 := (runR_ok _ _ _ _ h0).1
   have hsame : callF T 265 [.sl (rowF (fzs ((runR 400 x.v t.code []).1.take m))) .an, .sl (rowF ((fzs (runR 400 x.v t.code []).1).take m)) .an] = some (.b true) := by
    have e : fzs ((runR 400 x.v t.code []).1.take m) = (fzs (runR 400 x.v t.code []).1).take m := List.map_take ..
    rw [e]
    have hz : ∀ u ∈ (fzs (runR 400 x.v t.code []).1).take m, fsz u ≤ 1000 := fun u hu => Nat.le_trans (fzs_sz hsz u (List.mem_of_mem_take hu)) (by decide)
    have := row_same (T := T) ((fzs (runR 400 x.v t.code []).1).take m) ((fzs (runR 400 x.v t.code []).1).take m) (by simp; omega) hz hz
    rw [this]
    simp
   rw [g1, g2] at ct2
   rw [h0, h02] at ct1
   have hfl : (fzs (runR 400 x.v t.code []).1).length = t.code.length := by rw [fzs_length, g3]
   clear hah h0 h02 hsz hkd g1 g2 g3
   generalize fzs ((runR 400 x.v t.code []).1.take m) = E at *
   generalize fzs (runR 400 x.v t.code []).1 = D at *
   unfold headT at ct2
   obtain ⟨code, outs, dim, par⟩ := t
   obtain ⟨⟨x0, x1, x2⟩, xy, xp⟩ := x
   dsimp only at *
   rw [f372 _ rfl, b372]
   simp -implicitDefEqProofs [c1, c2, cw, hn1, hn2, c3, c4, ct1, ct2, hr, hrl, hml, hm2, rowZ_I, hfl, hsame, rowF_head]
   done
  ·obtain ⟨g1, g2⟩ := hah.2 h0
   have e0 : (runR 400 x.v t.code []).1 = [] := (runR_at _ _ _ _ h0).1
   have e00 : fzs [] = [] := rfl
   by_cases hlt : (runR 400 x.v t.code []).2.2 < m
   ·have hlt' : (((runR 400 x.v t.code []).2.2 : Nat) : Int) < m := by omega
    rw [g1 hlt] at ct2
    rw [e0, e00] at ct1 ct2
    clear hah hsz g1 g2 hlt e0
    obtain ⟨kk, hk⟩ : ∃ kk : Int, kk = ((runR 400 x.v t.code []).2.1 : Nat) := ⟨_, rfl⟩
    have h1 : ¬ kk = 0 := by omega
    have h2 : ¬ kk = 2 := by omega
    rw [← hk] at ct1 ct2
    clear hk hkd h0
    generalize (((runR 400 x.v t.code []).2.2 : Nat) : Int) = aa at *
    unfold headT at ct2
    obtain ⟨code, outs, dim, par⟩ := t
    obtain ⟨⟨x0, x1, x2⟩, xy, xp⟩ := x
    dsimp only at *
    rw [f372 _ rfl, b372]
    simp -implicitDefEqProofs [c1, c2, cw, hn1, hn2, c3, c4, ct1, ct2, hr, hrl, hml, hm2, rowZ_I, h1, h2, hlt']
    done
   ·have hlt' : ¬ (((runR 400 x.v t.code []).2.2 : Nat) : Int) < m := by omega
    have hle' : (m : Int) ≤ (((runR 400 x.v t.code []).2.2 : Nat) : Int) := by omega
    rw [g2 (by omega)] at ct2
    rw [e0, e00] at ct1
    clear hah hsz g1 g2 hlt e0
    obtain ⟨kk, hk⟩ : ∃ kk : Int, kk = ((runR 400 x.v t.code []).2.1 : Nat) := ⟨_, rfl⟩
    have h1 : ¬ kk = 0 := by omega
    have h2 : ¬ kk = 2 := by omega
    rw [← hk] at ct1
    clear hk hkd h0
    generalize (((runR 400 x.v t.code []).2.2 : Nat) : Int) = aa at *
    generalize fzs (runR 400 x.v (List.take m t.code) []).1 = E at *
    unfold headT at ct2
    obtain ⟨code, outs, dim, par⟩ := t
    obtain ⟨⟨x0, x1, x2⟩, xy, xp⟩ := x
    dsimp only at *
    rw [f372 _ rfl, b372]
    simp -implicitDefEqProofs [c1, c2, cw, hn1, hn2, c3, c4, ct1, ct2, hr, hrl, hml, hm2, rowZ_I, h1, h2, hlt', hle']
    done
end
end Go.Ab
end
