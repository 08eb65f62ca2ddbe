/-
  A calculus of values, boxes and code, and what functions of the program compute, proved in it.
  Conditions: none beyond those that the theorems state. (Part 5: GpRef05, GpRef05d, GcRef07, GcRef06, GpRef07, GcRef08, GcRef09, GcRef11, GcRef12, GcLaw09, GcLaw11, GcLaw12, Ax10.)
-/
import Derived.Test.YtefdnbbfkhkjeaaGreatDoorPart4

set_option linter.unusedSectionVars false
set_option linter.unusedVariables false
set_option linter.unusedSimpArgs false
set_option linter.unnecessarySimpa false

section
namespace Go.Ab
section
variable {T : Tbl} [CRef05 T]
def stDb (a : List UInt32) (y : Nat × Nat × List UInt32) : St :=
  ⟨[(0, .bs (.bor 0) 0 1 0 a.length), (4, u32 y.2.1), (5, .i .i64 y.1)], [(.bor 0, ⟨0, .own, 1, u32s (y.2.2 ++ a.drop y.1)⟩)], 4⟩
theorem db_step {p m c c' w s x k : Nat} (h : m + p * c = 2 * s + k) (e : w + 4294967296 * c' = 2 * x + c) : (m + p * w) + p * 4294967296 * c' = 2 * (s + p * x) + k := by
  have e2 : p * w + p * 4294967296 * c' = p * (2 * x) + p * c := by rw [Nat.mul_assoc, ← Nat.mul_add, e, Nat.mul_add]
  have e3 : p * (2 * x) = 2 * (p * x) := by rw [← Nat.mul_assoc, Nat.mul_comm p 2, Nat.mul_assoc]
  omega
end
section
variable {T : Tbl}
theorem db_loop (a : List UInt32) (c0 : Nat) (hl : a.length ≤ 1000000) : ∀ y : Nat × Nat × List UInt32,
    (y.1 ≤ a.length ∧ y.2.1 ≤ 1 ∧ y.2.2.length = y.1 ∧ val y.2.2 + 4294967296 ^ y.1 * y.2.1 = 2 * val (a.take y.1) + c0) →
    ∃ r, (∃ (c : Nat) (m : List UInt32), r = (Ex.n, (⟨[], [(.bor 0, ⟨0, .own, 1, u32s m⟩)], 4⟩ : St)) ∧
      m.length = a.length ∧ c ≤ 1 ∧ val m + 4294967296 ^ a.length * c = 2 * val a + c0) ∧ loopN T 1 0 (.norm false []) l96_0 (stDb a y) = some r := by
  refine loopN_ex _ _ (fun y => a.length - y.1) _ ?_
  rintro ⟨i, c, m⟩ ⟨hi, hc, hm, hv⟩
  simp only at hi hc hm hv
  by_cases h0 : i < a.length
  · left
    have ha : a[i]? = some (a[i]'h0) := List.getElem?_eq_getElem h0
    have hg := get_mid (P := []) hm h0
    have hw : IntKind.wrap .i64 ((i : Int) + 1) = ((i + 1 : Nat) : Int) := wrap_i64 _ (by omega)
    have hlx := u32_lt (a[i]'h0)
    have hset := set_mid (P := []) (w32 ((a[i]'h0).toNat * 2 % 4294967296 + c)) hm h0
    simp at hg hset
    have m1 : ((a[i]'h0).toNat * 2 % 4294967296 + c) % 4294967296 = (a[i]'h0).toNat * 2 % 4294967296 + c := Nat.mod_eq_of_lt (by omega)
    have m2 : (a[i]'h0).toNat / 2147483648 < 4294967296 := by omega
    have m3 : (a[i]'h0).toNat * 2 % 4294967296 + c < 4294967296 := by omega
    refine ⟨(i + 1, (a[i]'h0).toNat / 2147483648, m ++ [w32 ((a[i]'h0).toNat * 2 % 4294967296 + c)]), ⟨h0, by simp only; omega, by simp [hm], ?_⟩, by simp only; omega, ?_⟩
    · simp only
      rw [val_append, val_take_succ ha, Nat.pow_succ, hm]
      simp only [val_cons, val_nil, Nat.mul_zero, Nat.add_zero, w32_mod]
      exact db_step hv (by omega)
    · simp -implicitDefEqProofs [l96_0, stDb, h0, hw, hg, hset, m1, m2, u32s_set _ _ _ m3]
  · right
    have : i = a.length := by omega
    subst this
    rw [List.take_of_length_le (Nat.le_refl a.length)] at hv
    refine ⟨_, ⟨c, m, rfl, hm, hc, hv⟩, ?_, ?_⟩ <;> simp -implicitDefEqProofs [l96_0, stDb]
end
section
variable {T : Tbl} [CRef05 T]
theorem ref05_double (a : List UInt32) (v : Bool) (hl : a.length ≤ 1000000) :
    ∃ (c : Nat) (m : List UInt32), m.length = a.length ∧ c ≤ 1 ∧ val m + 4294967296 ^ a.length * c = 2 * val a + (if v then 1 else 0) ∧
      callH T 96 [.bs (.bor 0) 0 1 0 a.length, .b v] [(.bor 0, ⟨0, .own, 1, u32s a⟩)] = some (.tup [], [(.bor 0, ⟨0, .own, 1, u32s m⟩)]) := by
  obtain ⟨_, ⟨c, m, rfl, hm, hc, hv⟩, hr⟩ := db_loop (T := T) a (if v then 1 else 0) hl (0, (if v then 1 else 0), []) ⟨Nat.zero_le _, by cases v <;> simp, rfl, by cases v <;> simp⟩
  refine ⟨c, m, hm, hc, hv, ?_⟩
  unfold stDb at hr
  simp at hr
  rw [f96 _ _ rfl, b96]
  cases v
  · simp at hr
    simp -implicitDefEqProofs [hr]
  · simp at hr
    simp -implicitDefEqProofs [hr]
def stLs (a b : List UInt32) (y : Nat × Nat × List UInt32) : St :=
  ⟨[(0, .bs (.bor 0) 0 1 0 a.length), (1, .sl (u32s b) .an), (4, u64 y.2.1), (5, .i .i64 y.1)], [(.bor 0, ⟨0, .own, 1, u32s (y.2.2 ++ a.drop y.1)⟩)], 4⟩
theorem ls_loop (a b : List UInt32) (hl : a.length ≤ 1000000) (hb : b.length ≤ 1000000) : ∀ y : Nat × Nat × List UInt32,
    (y.1 ≤ a.length ∧ y.2.1 ≤ 1 ∧ y.2.2.length = y.1 ∧ val y.2.2 + val (b.take y.1) = val (a.take y.1) + 4294967296 ^ y.1 * y.2.1) →
    ∃ r, (∃ (c : Nat) (m : List UInt32), r = (Ex.n, (⟨[], [(.bor 0, ⟨0, .own, 1, u32s m⟩)], 4⟩ : St)) ∧
      m.length = a.length ∧ c ≤ 1 ∧ val m + val (b.take a.length) = val a + 4294967296 ^ a.length * c) ∧ loopN T 1 0 (.norm false []) l97_0 (stLs a b y) = some r := by
  refine loopN_ex _ _ (fun y => a.length - y.1) _ ?_
  rintro ⟨i, c, m⟩ ⟨hi, hc, hm, hv⟩
  simp only at hi hc hm hv
  by_cases h0 : i < a.length
  · left
    have ha : a[i]? = some (a[i]'h0) := List.getElem?_eq_getElem h0
    have hg := get_mid (P := []) hm h0
    have hw : IntKind.wrap .i64 ((i : Int) + 1) = ((i + 1 : Nat) : Int) := wrap_i64 _ (by omega)
    have cb := ref02_at (T := T) b i hb
    have la := u32_lt (a[i]'h0)
    have lb := atW_lt b i
    have e1 := val_take_succ ha
    have e2 := val_take_atW b i
    simp at hg
    have m1 : (a[i]'h0).toNat % 18446744073709551616 = (a[i]'h0).toNat := Nat.mod_eq_of_lt (by omega)
    have m2 : atW b i % 18446744073709551616 = atW b i := Nat.mod_eq_of_lt (by omega)
    have m3 : (atW b i + c) % 18446744073709551616 = atW b i + c := Nat.mod_eq_of_lt (by omega)
    have m4 : ((a[i]'h0).toNat + 4294967296) % 18446744073709551616 = (a[i]'h0).toNat + 4294967296 := Nat.mod_eq_of_lt (by omega)
    have fin : ∀ s d : Nat, d ≤ 1 → s < 4294967296 → s + (atW b i + c) = (a[i]'h0).toNat + 4294967296 * d →
        val (m ++ [w32 s]) + val (b.take (i + 1)) = val (a.take (i + 1)) + 4294967296 ^ (i + 1) * d := by
      intro s d hd hs h
      rw [val_append, hm, e1, e2, Nat.pow_succ]
      simp only [val_cons, val_nil, Nat.mul_zero, Nat.add_zero, w32_of_lt hs]
      generalize 4294967296 ^ i = p at *
      have e3 : p * s + p * (atW b i + c) = p * (a[i]'h0).toNat + p * 4294967296 * d := by rw [← Nat.mul_add, h, Nat.mul_add, Nat.mul_assoc]
      rw [Nat.mul_add] at e3
      omega
    by_cases h1 : (a[i]'h0).toNat < atW b i + c
    · have hs : sub64 ((a[i]'h0).toNat + 4294967296) (atW b i + c) = (a[i]'h0).toNat + 4294967296 - (atW b i + c) := sub64_le (by omega) (by omega)
      have m5 : (a[i]'h0).toNat + 4294967296 - (atW b i + c) < 4294967296 := by omega
      have hset := set_mid (P := []) (w32 ((a[i]'h0).toNat + 4294967296 - (atW b i + c))) hm h0
      simp at hset
      refine ⟨(i + 1, 1, m ++ [w32 ((a[i]'h0).toNat + 4294967296 - (atW b i + c))]), ⟨h0, Nat.le_refl _, by simp [hm], fin _ 1 (by omega) (by omega) (by omega)⟩, by simp only; omega, ?_⟩
      simp -implicitDefEqProofs [l97_0, stLs, h0, cb, m1, m2, m3, m4, h1, hs, hg, hw, hset]
    · have hs : sub64 (a[i]'h0).toNat (atW b i + c) = (a[i]'h0).toNat - (atW b i + c) := sub64_le (by omega) (by omega)
      have m5 : (a[i]'h0).toNat - (atW b i + c) < 4294967296 := by omega
      have hset := set_mid (P := []) (w32 ((a[i]'h0).toNat - (atW b i + c))) hm h0
      simp at hset
      refine ⟨(i + 1, 0, m ++ [w32 ((a[i]'h0).toNat - (atW b i + c))]), ⟨h0, Nat.zero_le _, by simp [hm], fin _ 0 (by omega) (by omega) (by omega)⟩, by simp only; omega, ?_⟩
      simp -implicitDefEqProofs [l97_0, stLs, h0, cb, m1, m2, m3, h1, hs, hg, hw, hset]
  · right
    have : i = a.length := by omega
    subst this
    rw [List.take_of_length_le (Nat.le_refl a.length)] at hv
    refine ⟨_, ⟨c, m, rfl, hm, hc, hv⟩, ?_, ?_⟩ <;> simp -implicitDefEqProofs [l97_0, stLs]
theorem ref05_less (a b : List UInt32) (hl : a.length ≤ 1000000) (hb : b.length ≤ a.length) (hab : val b ≤ val a) :
    ∃ m : List UInt32, m.length = a.length ∧ val m = val a - val b ∧
      callH T 97 [.bs (.bor 0) 0 1 0 a.length, .sl (u32s b) .an] [(.bor 0, ⟨0, .own, 1, u32s a⟩)] = some (.tup [], [(.bor 0, ⟨0, .own, 1, u32s m⟩)]) := by
  obtain ⟨_, ⟨c, m, rfl, hm, hc, hv⟩, hr⟩ := ls_loop (T := T) a b hl (by omega) (0, 0, []) ⟨Nat.zero_le _, Nat.zero_le _, rfl, by simp⟩
  rw [List.take_of_length_le hb] at hv
  have hlo := val_lt m
  rw [hm] at hlo
  have hval : val m = val a - val b := by
    rcases Nat.eq_zero_or_pos c with h1 | h1
    · subst h1; omega
    · have : c = 1 := by omega
      subst this
      omega
  refine ⟨m, hm, hval, ?_⟩
  unfold stLs at hr
  simp at hr
  rw [f97 _ _ rfl, b97]
  simp -implicitDefEqProofs [hr]
def stHs (x i : Nat) (y : Nat) : St := ⟨[(1, .i .i64 i), (5, u32 (x / 2 ^ y)), (6, .i .i64 y)], [], 2⟩
end
section
variable {T : Tbl}
theorem hs_loop (x i : Nat) (_hi : i ≤ 100000000) (hx : x < 4294967296) : ∀ y : Nat, y ≤ i % 32 →
    ∃ r, (r = (Ex.n, (⟨[(5, u32 (x / 2 ^ (i % 32)))], [], 2⟩ : St))) ∧ loopN T 0 0 (.norm false [5]) l122_0 (stHs x i y) = some r := by
  refine loopN_ex _ _ (fun y => i % 32 - y) _ ?_
  intro j hj
  have hm : ((i : Int).tmod 32) = ((i % 32 : Nat) : Int) := rfl
  have hlt : x / 2 ^ j < 4294967296 := Nat.lt_of_le_of_lt (Nat.div_le_self _ _) hx
  by_cases h0 : j < i % 32
  · left
    have hw : IntKind.wrap .i64 ((j : Int) + 1) = ((j + 1 : Nat) : Int) := wrap_i64 _ (by omega)
    have hd : x / 2 ^ j / 2 = x / 2 ^ (j + 1) := by rw [Nat.div_div_eq_div_mul, Nat.pow_succ]
    have hd2 : x / 2 ^ (j + 1) % 4294967296 = x / 2 ^ (j + 1) := Nat.mod_eq_of_lt (Nat.lt_of_le_of_lt (Nat.div_le_self _ _) hx)
    refine ⟨j + 1, h0, by omega, ?_⟩
    have hj2 : (j : Int) < (i : Int) % 32 := by omega
    simp -implicitDefEqProofs [l122_0, stHs, hm, hw, hd, hd2, hj2]
  · right
    have : j = i % 32 := by omega
    subst this
    refine ⟨_, rfl, ?_, ?_⟩ <;> simp -implicitDefEqProofs [l122_0, stHs, hm]
end
section
variable {T : Tbl} [CRef05 T]
theorem ref03_has (a : List UInt32) (i : Nat) (hl : a.length ≤ 1000000) (hi : i < 32 * a.length) :
    callF T 122 [.sl (u32s a) .an, .i .i64 i] = some (.b (decide (val a / 2 ^ i % 2 = 1))) := by
  have h1 : i / 32 < a.length := by omega
  have ha : a[i / 32]? = some (a[i / 32]'h1) := List.getElem?_eq_getElem h1
  obtain ⟨_, rfl, hr⟩ := hs_loop (T := T) (a[i / 32]'h1).toNat i (by omega) (u32_lt _) 0 (Nat.zero_le _)
  unfold stHs at hr
  simp at hr
  have hq : IntKind.wrap .i64 ((i : Int) / 32) = (i : Int) / 32 := wrap_i64 (i / 32) (by omega)
  have hq1 : ((i : Int) / 32).toNat = i / 32 := by omega
  have hq2 : (0 : Int) ≤ (i : Int) / 32 := by omega
  have hq3 : (i : Int) / 32 < (a.length : Int) := by omega
  have hq4 : ¬ (a.length : Int) ≤ (i : Int) / 32 := by omega
  have hb := val_bit ha
  have hlt : (a[i / 32]'h1).toNat / 2 ^ (i % 32) < 4294967296 := Nat.lt_of_le_of_lt (Nat.div_le_self _ _) (u32_lt _)
  rw [f122 _ rfl, b122]
  simp -implicitDefEqProofs [hr, hq, hq1, hq2, hq3, hq4, h1, hb]
def stLn (a : List UInt32) (y : Nat) : St := ⟨[(0, .sl (u32s a) .an), (3, .i .i64 y)], [], 2⟩
theorem ln_loop (a : List UInt32) (hl : a.length ≤ 1000000) : ∀ y : Nat, (y ≤ 32 * a.length ∧ val a < 2 ^ y) →
    ∃ r, (∃ n : Nat, r = (Ex.n, (⟨[(3, .i .i64 n)], [], 2⟩ : St)) ∧ n ≤ 32 * a.length ∧ val a < 2 ^ n) ∧ loopN T 0 0 (.norm false [3]) l95_0 (stLn a y) = some r := by
  refine loopN_ex _ _ (fun y => y) _ ?_
  rintro k ⟨hk, hv⟩
  by_cases h0 : k = 0
  · right
    subst h0
    refine ⟨_, ⟨0, rfl, Nat.zero_le _, hv⟩, ?_, ?_⟩ <;> simp -implicitDefEqProofs [l95_0, stLn]
  · obtain ⟨j, rfl⟩ : ∃ j, k = j + 1 := ⟨k - 1, by omega⟩
    have hw : IntKind.wrap .i64 (j : Int) = (j : Int) := wrap_i64 _ (by omega)
    have hh := ref03_has (T := T) a j hl (by omega)
    have hp : (0 : Int) < (j : Int) + 1 := by omega
    by_cases h1 : val a / 2 ^ j % 2 = 1
    · right
      refine ⟨_, ⟨j + 1, rfl, hk, hv⟩, ?_, ?_⟩ <;> simp -implicitDefEqProofs [l95_0, stLn, hw, hh, hp, h1]
    · left
      refine ⟨j, ⟨by omega, lt_of_bit hv (by generalize val a / 2 ^ j = q at *; omega)⟩, by omega, ?_⟩
      simp -implicitDefEqProofs [l95_0, stLn, hw, hh, hp, h1]
theorem ref03_len (a : List UInt32) (hl : a.length ≤ 1000000) : ∃ n : Nat, n ≤ 32 * a.length ∧ val a < 2 ^ n ∧ callF T 95 [.sl (u32s a) .an] = some (.i .i64 n) := by
  obtain ⟨_, ⟨n, rfl, hn, hv⟩, hr⟩ := ln_loop (T := T) a hl (32 * a.length) ⟨Nat.le_refl _, by rw [← pow32]; exact val_lt a⟩
  refine ⟨n, hn, hv, ?_⟩
  unfold stLn at hr
  simp at hr
  have hw : IntKind.wrap .i64 (32 * (a.length : Int)) = 32 * (a.length : Int) := by
    have := wrap_i64 (32 * a.length) (by omega)
    simpa using this
  rw [f95 _ rfl, b95]
  simp -implicitDefEqProofs [hr, hw]
end
end Go.Ab
end

section
namespace Go.Ab
section
variable {T : Tbl} [CRef05 T]
theorem shl1_u32 (n : Nat) (h : n < 32) : binV .shl (u32 1) (.i .i64 (n : Int)) = some (u32 (2 ^ n)) := by
  have h1 : ¬ (n : Int) < 0 := by omega
  have h2 : 2 ^ n < 4294967296 := by
    have : 2 ^ n < 2 ^ 32 := Nat.pow_lt_pow_right (by decide) h
    simpa using this
  have h3 : min n IntKind.u32.bits = n := by
    have : IntKind.u32.bits = 32 := rfl
    rw [this]; omega
  have h4 : ((1 : Nat) : Int) * 2 ^ n = ((2 ^ n : Nat) : Int) := by simp
  unfold u32
  simp only [binV, if_neg h1, Int.toNat_natCast, h3, h4, wrap_u32, Nat.mod_eq_of_lt h2]
theorem dv_law {v b Q L : Nat} (hb : 0 < b) (hq : Q = v / 2 / b) (hr : L = v / 2 % b) :
    (b ≤ 2 * L + v % 2 → v / b = 2 * Q + 1 ∧ v % b = 2 * L + v % 2 - b) ∧ (2 * L + v % 2 < b → v / b = 2 * Q ∧ v % b = 2 * L + v % 2) := by
  have h1 := Nat.div_add_mod (v / 2) b
  have h2 : L < b := by rw [hr]; exact Nat.mod_lt _ hb
  rw [← hq, ← hr] at h1
  have h3 : v = b * (2 * Q) + (2 * L + v % 2) := by
    rw [← Nat.mul_assoc, Nat.mul_comm b 2, Nat.mul_assoc]
    omega
  have ht : v % 2 < 2 := Nat.mod_lt _ (by decide)
  clear h1 hq hr
  generalize v % 2 = t at *
  rw [h3]
  constructor
  · intro h
    have e : b * (2 * Q) + (2 * L + t) = (2 * L + t - b) + b * (2 * Q + 1) := by rw [Nat.mul_add, Nat.mul_one]; omega
    rw [e, Nat.add_mul_div_left _ _ hb, Nat.add_mul_mod_self_left, Nat.div_eq_of_lt (by omega), Nat.mod_eq_of_lt (by omega)]
    omega
  · intro h
    rw [Nat.add_comm, Nat.add_mul_div_left _ _ hb, Nat.add_mul_mod_self_left, Nat.div_eq_of_lt h, Nat.mod_eq_of_lt h]
    omega
theorem val_inc {a : List UInt32} {x : UInt32} (h : a[0]? = some x) (hx : x.toNat + 1 < 4294967296) : val (a.set 0 (w32 (x.toNat + 1))) = val a + 1 := by
  cases a with
  | nil => cases h
  | cons y l =>
    cases h
    simp only [List.set_cons_zero, val_cons, w32_of_lt hx]
    omega
def stDv (a b : List UInt32) (y : Nat × List UInt32 × List UInt32) : St :=
  ⟨[(0, .sl (u32s a) .an), (1, .sl (u32s b) .an), (6, .bs (.loc 11) 1 1 0 a.length), (7, .bs (.loc 15) 2 1 0 (b.length + 1)), (8, .i .i64 ((y.1 : Int) - 1))], [(.loc 11, ⟨1, .own, 1, u32s y.2.1⟩), (.loc 15, ⟨2, .own, 1, u32s y.2.2⟩)], 4⟩
theorem dv_loop (a b : List UInt32) (ha : a.length ≤ 100000) (hb : b.length ≤ 100000) (h0b : 0 < val b) : ∀ y : Nat × List UInt32 × List UInt32,
    (y.1 ≤ 32 * a.length ∧ y.2.1.length = a.length ∧ y.2.2.length = b.length + 1 ∧ val y.2.1 = val a / 2 ^ y.1 / val b ∧ val y.2.2 = val a / 2 ^ y.1 % val b) →
    ∃ r, (∃ Q L : List UInt32, r = (Ex.n, (⟨[(6, .bs (.loc 11) 1 1 0 a.length), (7, .bs (.loc 15) 2 1 0 (b.length + 1))], [(.loc 11, ⟨1, .own, 1, u32s Q⟩), (.loc 15, ⟨2, .own, 1, u32s L⟩)], 4⟩ : St)) ∧
      Q.length = a.length ∧ L.length = b.length + 1 ∧ val Q = val a / val b ∧ val L = val a % val b) ∧ loopN T 0 0 (.norm false [6, 7]) l63_0 (stDv a b y) = some r := by
  refine loopN_ex _ _ (fun y => y.1) _ ?_
  rintro ⟨k, Q, L⟩ ⟨hk, hQ, hL, hq, hr⟩
  simp only at hk hQ hL hq hr
  cases k with
  | zero =>
    right
    rw [Nat.pow_zero, Nat.div_one] at hq hr
    refine ⟨_, ⟨Q, L, rfl, hQ, hL, hq, hr⟩, ?_, ?_⟩ <;> simp -implicitDefEqProofs [l63_0, stDv]
  | succ j =>
    left
    have h1 : j / 32 < a.length := by omega
    have hag : a[j / 32]? = some (a[j / 32]'h1) := List.getElem?_eq_getElem h1
    have hbit := val_bit hag
    have hw : IntKind.wrap .i64 ((j : Int) - 1) = (j : Int) - 1 := wrap_i64 _ (by omega)
    have hsh : binV .shl (u32 1) (.i .i64 ((j : Int) % 32)) = some (u32 (2 ^ (j % 32))) := shl1_u32 (j % 32) (Nat.mod_lt _ (by decide))
    have hm : ((j : Int).tmod 32) = ((j % 32 : Nat) : Int) := rfl
    have hj0 : IntKind.wrap .i64 ((j : Int) / 32) = (j : Int) / 32 := wrap_i64 (j / 32) (by omega)
    have hj1 : ((j : Int) / 32).toNat = j / 32 := by omega
    have hj2 : (0 : Int) ≤ (j : Int) / 32 := by omega
    have hj3 : (j : Int) / 32 < (a.length : Int) := by omega
    have hxl := u32_lt (a[j / 32]'h1)
    obtain ⟨cL, L2, hL2, hcL, hvL, hrL⟩ := ref05_double (T := T) L (decide ((a[j / 32]'h1).toNat / 2 ^ (j % 32) % 2 = 1)) (by omega)
    obtain ⟨cQ, Q2, hQ2, hcQ, hvQ, hrQ⟩ := ref05_double (T := T) Q false (by omega)
    have hcmp := ref02_cmp (T := T) L2 b (by omega) (by omega)
    have hpq : (2 ^ (j % 32)) ≠ 0 := Nat.ne_of_gt (Nat.pow_pos (by decide))
    rw [hL] at hrL
    rw [hQ] at hrQ
    rw [hL] at hL2
    rw [hQ] at hQ2
    have htL : List.take (b.length + 1) L2 = L2 := List.take_of_length_le (by omega)
    have hres : ∃ Q3 L3 : List UInt32, Q3.length = a.length ∧ L3.length = b.length + 1 ∧ val Q3 = val a / 2 ^ j / val b ∧ val L3 = val a / 2 ^ j % val b ∧
        (evX (orc T) T 0 l63_0 (stDv a b (j + 1, Q, L)) = some (Ex.n, stDv a b (j, Q3, L3))) := by
      have hvb := val_lt b
      have hva := val_lt a
      have hLb : val L < val b := by rw [hr]; exact Nat.mod_lt _ h0b
      have hv2 : val a / 2 ^ (j + 1) = val a / 2 ^ j / 2 := by rw [Nat.pow_succ, Nat.div_div_eq_div_mul]
      rw [hv2] at hq hr
      have hlaw := dv_law h0b hq hr
      have hva2 : val a / 2 ^ j ≤ val a := Nat.div_le_self _ _
      have hq2 : 2 * val Q ≤ val a / 2 ^ j := by
        have h2 : val a / 2 ^ j / 2 / val b ≤ val a / 2 ^ j / 2 := Nat.div_le_self _ _
        omega
      have hL0 : val L2 = 2 * val L + val a / 2 ^ j % 2 := by
        have hb2 : (if decide ((a[j / 32]'h1).toNat / 2 ^ (j % 32) % 2 = 1) = true then 1 else 0) = val a / 2 ^ j % 2 := by
          rw [hbit]
          simp only [decide_eq_true_eq]
          split <;> omega
        rw [hb2, hL, Nat.pow_succ] at hvL
        have ht : val a / 2 ^ j % 2 < 2 := Nat.mod_lt _ (by decide)
        generalize val a / 2 ^ j % 2 = t at *
        generalize 4294967296 ^ b.length = p at *
        rcases Nat.eq_zero_or_pos cL with h | h
        · rw [h, Nat.mul_zero, Nat.add_zero] at hvL
          exact hvL
        · have := Nat.mul_le_mul_left (p * 4294967296) h
          generalize p * 4294967296 * cL = u at *
          omega
      have hQ0 : val Q2 = 2 * val Q := by
        rw [hQ] at hvQ
        simp at hvQ
        generalize 4294967296 ^ a.length = p at *
        rcases Nat.eq_zero_or_pos cQ with h | h
        · rw [h, Nat.mul_zero, Nat.add_zero] at hvQ
          exact hvQ
        · have := Nat.mul_le_mul_left p h
          generalize p * cQ = u at *
          omega
      rw [← hL0] at hlaw
      by_cases hle : val b ≤ val L2
      · have hc : (0 : Int) ≤ cmpN (val L2) (val b) := by unfold cmpN; split; · omega
                                                          · split <;> omega
        obtain ⟨L3, hL3, hvL3, hrL3⟩ := ref05_less (T := T) L2 b (by omega) (by omega) hle
        rw [hL2] at hrL3 hL3
        have h0Q : 0 < Q2.length := by omega
        have hQg : Q2[0]? = some (Q2[0]'h0Q) := List.getElem?_eq_getElem h0Q
        have hev : (Q2[0]'h0Q).toNat + 1 < 4294967296 := by
          have := u32_lt (Q2[0]'h0Q)
          have hc : val Q2 = (Q2[0]'h0Q).toNat + 4294967296 * val (Q2.drop 1) := by
            conv => lhs; rw [← List.drop_zero (l := Q2), List.drop_eq_getElem_cons h0Q, val_cons]
          omega
        have h0a : 0 < a.length := by omega
        have hQg' := hQg
        have hev' := hev
        generalize hqq : (Q2[0]'h0Q).toNat = qq at hev'
        refine ⟨Q2.set 0 (w32 ((Q2[0]'h0Q).toNat + 1)), L3, by simp [hQ2], hL3, by rw [val_inc hQg hev, hQ0, (hlaw.1 hle).1], by rw [hvL3, (hlaw.1 hle).2], ?_⟩
        simp -implicitDefEqProofs [l63_0, stDv, hw, hsh, hm, hj0, hj1, hj2, hj3, h1, hrL, hrQ, hL2, htL, hcmp, hc, hrL3, hQ2, h0a]
      · have hc : ¬ (0 : Int) ≤ cmpN (val L2) (val b) := by unfold cmpN; rw [if_pos (by omega)]; decide
        have hlt : val L2 < val b := by omega
        refine ⟨Q2, L2, hQ2, hL2, by rw [hQ0, (hlaw.2 hlt).1], by rw [(hlaw.2 hlt).2], ?_⟩
        simp -implicitDefEqProofs [l63_0, stDv, hw, hsh, hm, hj0, hj1, hj2, hj3, h1, hrL, hrQ, hL2, htL, hcmp, hc]
    obtain ⟨Q3, L3, e1, e2, e3, e4, e5⟩ := hres
    exact ⟨(j, Q3, L3), ⟨by simp only; omega, e1, e2, e3, e4⟩, Nat.lt_succ_self j, e5⟩
theorem ref05_div (a b : List UInt32) (ha : a.length ≤ 100000) (hb : b.length ≤ 100000) (h0b : 0 < val b) :
    callF T 63 [.sl (u32s a) .an, .sl (u32s b) .an] = some (.tup [.sl (u32s (ofN (val a / val b))) .an, .sl (u32s (ofN (val a % val b))) .an]) := by
  obtain ⟨n, hn, hvn, hln⟩ := ref03_len (T := T) a (by omega)
  have hd0 : val a / 2 ^ n = 0 := Nat.div_eq_of_lt hvn
  obtain ⟨_, ⟨Q, L, rfl, hQ, hL, hq, hr⟩, hlp⟩ := dv_loop (T := T) a b ha hb h0b (n, List.replicate a.length 0, List.replicate (b.length + 1) 0)
    ⟨hn, by simp, by simp, by simp [val_replicate, hd0], by simp only [hd0, Nat.zero_mod]; exact val_replicate _⟩
  have hw : IntKind.wrap .i64 ((n : Int) - 1) = (n : Int) - 1 := wrap_i64 _ (by omega)
  have hw2 : IntKind.wrap .i64 ((b.length : Int) + 1) = ((b.length + 1 : Nat) : Int) := wrap_i64 _ (by omega)
  have h1 : (a.length : Int) ≤ 4294967296 := by omega
  have h2 : (b.length : Int) + 1 ≤ 4294967296 := by omega
  have hn1 := ref02_norm (T := T) Q (by omega)
  have hn2 := ref02_norm (T := T) L (by omega)
  have t1 : List.take a.length Q = Q := List.take_of_length_le (by omega)
  have t2 : List.take (b.length + 1) L = L := List.take_of_length_le (by omega)
  unfold stDv at hlp
  simp at hlp
  rw [f63 _ rfl, b63]
  simp -implicitDefEqProofs [hln, hw, hw2, h1, h2, hlp, hQ, hL, t1, t2, hn1, hn2, hq, hr]
end
end Go.Ab
end

section
namespace Go.Ab
def l2043_0 : AX :=
 (.note
 (.seq
  (.seq
   (.reg [⟨(some 6), none, .mov (.t 3)⟩,
     ⟨(some 7), none, .bin .gtr (.t 6) (.c (.i .i64 0))⟩,
     ⟨(some 8), none, .mov (.t 7)⟩,
     ⟨(some 9), (some (8, true)), .mov (.t 0)⟩,
     ⟨(some 10), (some (8, true)), .mov (.t 3)⟩,
     ⟨(some 11), (some (8, true)), .bin .sub (.t 10) (.c (.i .i64 1))⟩,
     ⟨(some 12), (some (8, true)), .iad 1 (.t 9) (.t 11)⟩,
     ⟨(some 13), (some (8, true)), .load none (.t 12)⟩,
     ⟨(some 14), (some (8, true)), .bin .eql (.t 13) (.c (u32 0))⟩,
     ⟨(some 15), none, .pick (.t 8) (.t 14) (.c (.b false))⟩])
   (.cond (.t 15)
    .skip
    (.exit 0)))
  (.block 1
   (.reg [⟨(some 16), none, .mov (.t 3)⟩,
     ⟨(some 17), none, .bin .sub (.t 16) (.c (.i .i64 1))⟩,
     ⟨(some 3), none, .mov (.t 17)⟩])))
 (.norm false [0, 3]))
def b2043 : AX :=
 (.seq
  (.reg [⟨(some 2), none, .mov (.c (.sl [] .nl))⟩])
  (.seq
   (.reg [⟨(some 4), none, .mov (.t 0)⟩,
     ⟨(some 5), none, .len (.t 4)⟩,
     ⟨(some 3), none, .mov (.t 5)⟩])
   (.seq
    (.lp 0 (.norm false [0, 3]) l2043_0 (.norm false [0, 3]))
    (.seq
     (.reg [⟨(some 18), none, .bsl 1 [(u32 0)] 0 []⟩,
       ⟨(some 19), none, .mov (.t 0)⟩,
       ⟨(some 20), none, .mov (.t 3)⟩,
       ⟨(some 21), none, .slc 1 (.t 19) none (some (.t 20)) none⟩,
       ⟨(some 22), none, .app 1 (.t 18) (.t 21)⟩,
       ⟨(some 2), none, .mov (.t 22)⟩])
     (.pre (.norm false [2]) .ret)))))
class CRef07 (T : Tbl) : Prop extends CRef05 T where
  h2043 : T 2043 = some ⟨1, 23, [.t 2], b2043, (some [false]), false⟩
section
variable {T : Tbl} [CRef07 T] {d : Option Nat} {st : St}
@[simp] theorem x2043 (xs : List AV) : callX (orc T) T 2043 xs d st = bL (frzM st.heap [false] xs) fun ys => lentX ys (shareIds (refsM [false] xs) st.heap) (reach (shareIds (refsM [false] xs) st.heap) 40 (rootsM [false] xs) []) T 2043 false d st := callX_lent CRef07.h2043
theorem f2043 (xs : List AV) (hb : Heap) (hn : xs.length = 1) : callH T 2043 xs hb = retH [.t 2] false hb.length (evX (orc T) T hb.length b2043 ⟨argEnv xs, hb, hb.length + 1⟩) := callH_eq CRef07.h2043 hn
end
end Go.Ab
end

section
namespace Go.Ab
def l224_0 : AX :=
 (.note
 (.seq
 (.seq
 (.reg [mv 6 0, rg 7 (.bin .rem (.t 6) (.c (u32 2))), rg 8 (.bin .eql (.t 7) (.c (u32 0)))])
 (.cond (.t 8)
 .skip
 (.exit 0)))
 (.block 1
 (.seq
 (.reg [mv 9 0, rg 10 (.bin .quo (.t 9) (.c (u32 2))), mv 0 10])
 (.reg [mv 11 3, rg 12 (.bin .add (.t 11) (.c (.i .i64 1))), mv 3 12]))))
 (.norm false [0, 3]))
def b224 : AX :=
 (.seq
 (.reg [rg 2 (.mov (.c (.i .i64 0)))])
 (.seq
 (.seq
 (.reg [mv 4 0, rg 5 (.bin .eql (.t 4) (.c (u32 0)))])
 (.cond (.t 5)
 (.seq
 (.reg [rg 2 (.mov (.c (.i .i64 32)))])
 (.pre (.norm false [2]) .ret))
 .skip))
 (.seq
 (.reg [rg 3 (.mov (.c (.i .i64 0)))])
 (.seq
 (.lp 0 (.norm false [0, 3]) l224_0 (.norm false [3]))
 (.seq
 (.reg [mv 13 3, mv 2 13])
 (.pre (.norm false [2]) .ret))))))
def l225_0 : AX :=
 (.note
 (.seq
 (.seq
 (.reg [mv 7 5, mv 8 0, rg 9 (.len (.t 8)), rg 10 (.bin .lss (.t 7) (.t 9))])
 (.cond (.t 10)
 .skip
 (.exit 0)))
 (.seq
 (.block 1
 (.seq
 (.reg [rg 6 (.mov (.c (u64 0)))])
 (.seq
 (.seq
 (.reg [mv 13 5, rg 14 (.bin .add (.t 13) (.c (.i .i64 1))), mv 15 0, rg 16 (.len (.t 15)), rg 17 (.bin .lss (.t 14) (.t 16))])
 (.cond (.t 17)
 (.reg [mv 18 0, mv 19 5, rg 20 (.bin .add (.t 19) (.c (.i .i64 1))), rg 21 (.iad 1 (.t 18) (.t 20)), rg 22 (.load none (.t 21)), rg 23 (.conv .u64 (.t 22)),
 mv 6 23])
 .skip))
 (.reg [mv 24 0, mv 25 5, mv 26 6, rg 27 (.bin .mul (.t 26) (.c (u64 4294967296))), mv 28 0, mv 29 5, rg 30 (.iad 1 (.t 28) (.t 29)), rg 31 (.load none (.t 30)),
 rg 32 (.conv .u64 (.t 31)), rg 33 (.bin .add (.t 27) (.t 32)), mv 34 1, rg 35 (.bin .shr (.t 33) (.t 34)), rg 36 (.conv .u32 (.t 35)),
 rg 37 (.iad 1 (.t 24) (.t 25)), so (.store 1 (.t 37) (.t 36))]))))
 (.reg [mv 11 5, rg 12 (.bin .add (.t 11) (.c (.i .i64 1))), mv 5 12])))
 (.norm false [0, 1, 5]))
def l225_1 : AX :=
 (.note
 (.seq
 (.seq
 (.reg [mv 38 0, rg 39 (.len (.t 38)), rg 40 (.bin .gtr (.t 39) (.c (.i .i64 0))), mv 41 40, gd 42 41 true (.mov (.t 0)), gd 43 41 true (.mov (.t 0)),
 gd 44 41 true (.len (.t 43)), gd 45 41 true (.bin .sub (.t 44) (.c (.i .i64 1))), gd 46 41 true (.iad 1 (.t 42) (.t 45)),
 gd 47 41 true (.load none (.t 46)), gd 48 41 true (.bin .eql (.t 47) (.c (u32 0))), rg 49 (.pick (.t 41) (.t 48) (.c (.b false)))])
 (.cond (.t 49)
 .skip
 (.exit 2)))
 (.block 3
 (.reg [mv 50 0, mv 51 0, rg 52 (.len (.t 51)), rg 53 (.bin .sub (.t 52) (.c (.i .i64 1))), rg 54 (.slc 1 (.t 50) none (some (.t 53)) none), mv 0 54])))
 (.norm false [0]))
def b225 : AX :=
 (.seq
 (.reg [rg 4 (.mov (.c (.sl [] .nl)))])
 (.seq
 (.seq
 (.reg [rg 5 (.mov (.c (.i .i64 0)))])
 (.lp 0 (.norm false [0, 1, 5]) l225_0 (.norm false [0])))
 (.seq
 (.lp 2 (.norm false [0]) l225_1 (.norm false [0]))
 (.seq
 (.reg [mv 55 0, mv 4 55])
 (.pre (.norm false [4]) .ret)))))
def l226_0 : AX :=
 (.note
 (.seq
 (.seq
 (.reg [mv 6 0, rg 7 (.iad 1 (.t 6) (.c (.i .i64 0))), rg 8 (.load none (.t 7)), rg 9 (.bin .eql (.t 8) (.c (u32 0)))])
 (.cond (.t 9)
 .skip
 (.exit 0)))
 (.block 1
 (.seq
 (.reg [mv 10 0, rg 11 (.slc 1 (.t 10) (some (.c (.i .i64 1))) none none), mv 0 11])
 (.reg [mv 12 4, rg 13 (.bin .add (.t 12) (.c (.i .i64 32))), mv 4 13]))))
 (.norm false [0, 4]))
def b226 : AX :=
 (.seq
 (.reg [rg 2 (.mov (.c (.sl [] .nl))), rg 3 (.mov (.c (.i .i64 0)))])
 (.seq
 (.reg [rg 4 (.mov (.c (.i .i64 0)))])
 (.seq
 (.lp 0 (.norm false [0, 4]) l226_0 (.norm false [0, 4]))
 (.seq
 (.reg [mv 14 0, rg 15 (.iad 1 (.t 14) (.c (.i .i64 0))), rg 16 (.load none (.t 15)), rg 17 (.call 224 [(.t 16)]), mv 5 17])
 (.seq
 (.reg [mv 18 0, mv 19 5, rg 20 (.call 225 [(.t 18), (.t 19)]), mv 21 4, mv 22 5, rg 23 (.bin .add (.t 21) (.t 22)), mv 2 20, mv 3 23])
 (.pre (.norm false [2, 3]) .ret))))))
def b227 : AX :=
 (.seq
 (.reg [rg 4 (.mov (.c (.sl [] .nl)))])
 (.seq
 (.reg [mv 6 1, rg 7 (.bin .quo (.t 6) (.c (.i .i64 32))), rg 8 (.mks 1 [(u32 0)] (.t 7) (.t 7)), mv 9 0, rg 10 (.app 1 (.t 8) (.t 9)), mv 5 10])
 (.seq
 (.reg [mv 11 5, mv 12 1, rg 13 (.bin .rem (.t 12) (.c (.i .i64 32))), rg 14 (.bin .shl (.c (u32 1)) (.t 13)), rg 15 (.bsl 1 [(u32 0)] 1 [(0, (.t 14))]),
 rg 16 (.call 61 [(.t 11), (.t 15)]), mv 4 16])
 (.pre (.norm false [4]) .ret))))
def l228_0 : AX :=
 (.note
 (.block 1
 (.seq
 (.reg [mv 33 5, mv 34 6, rg 35 (.call 52 [(.t 33), (.t 34)]), mv 9 35])
 (.seq
 (.seq
 (.reg [mv 36 9, rg 37 (.bin .eql (.t 36) (.c (.i .i64 0)))])
 (.cond (.t 37)
 (.exit 0)
 .skip))
 (.seq
 (.seq
 (.reg [mv 38 9, rg 39 (.bin .lss (.t 38) (.c (.i .i64 0)))])
 (.cond (.t 39)
 (.seq
 (.reg [mv 40 5, mv 10 40])
 (.seq
 (.reg [mv 41 6, mv 5 41])
 (.reg [mv 42 10, mv 6 42])))
 .skip))
 (.seq
 (.reg [mv 43 5, mv 44 6, rg 45 (.call 2097 [(.t 43), (.t 44)])])
 (.reg [mv 47 5, rg 48 (.call 226 [(.t 47)]), mv 46 48, rg 49 (.ext (.t 46) 0), rg 50 (.ext (.t 46) 1), mv 5 49]))))))
 (.norm false [5, 6, 7, 8]))
def b228 : AX :=
 (.seq
 (.reg [rg 4 (.mov (.c (.sl [] .nl)))])
 (.seq
 (.reg [mv 11 0, rg 12 (.call 2043 [(.t 11)]), mv 5 12])
 (.seq
 (.reg [mv 13 1, rg 14 (.call 2043 [(.t 13)]), mv 6 14])
 (.seq
 (.seq
 (.reg [mv 15 5, rg 16 (.len (.t 15)), rg 17 (.bin .eql (.t 16) (.c (.i .i64 0)))])
 (.cond (.t 17)
 (.seq
 (.reg [mv 18 6, mv 4 18])
 (.pre (.norm false [4]) .ret))
 .skip))
 (.seq
 (.seq
 (.reg [mv 19 6, rg 20 (.len (.t 19)), rg 21 (.bin .eql (.t 20) (.c (.i .i64 0)))])
 (.cond (.t 21)
 (.seq
 (.reg [mv 22 5, mv 4 22])
 (.pre (.norm false [4]) .ret))
 .skip))
 (.seq
 (.reg [mv 24 5, rg 25 (.call 226 [(.t 24)]), mv 23 25, rg 26 (.ext (.t 23) 0), rg 27 (.ext (.t 23) 1), mv 5 26, mv 7 27])
 (.seq
 (.reg [mv 29 6, rg 30 (.call 226 [(.t 29)]), mv 28 30, rg 31 (.ext (.t 28) 0), rg 32 (.ext (.t 28) 1), mv 6 31, mv 8 32])
 (.seq
 (.lp 0 (.norm false [5, 6, 7, 8]) l228_0 (.norm false [5, 7, 8]))
 (.seq
 (.reg [mv 51 5, mv 52 7, mv 53 8, rg 54 (.mm false [(.t 52), (.t 53)]), rg 55 (.call 227 [(.t 51), (.t 54)]), mv 4 55])
 (.pre (.norm false [4]) .ret))))))))))
def b229 : AX :=
 (.seq
 (.reg [rg 2 (.mov (.c (.b false)))])
 (.seq
 (.reg [mv 3 0, rg 4 (.len (.t 3)), rg 5 (.bin .eql (.t 4) (.c (.i .i64 1))), mv 6 5, gd 7 6 true (.mov (.t 0)), gd 8 6 true (.iad 1 (.t 7) (.c (.i .i64 0))),
 gd 9 6 true (.load none (.t 8)), gd 10 6 true (.bin .eql (.t 9) (.c (u32 1))), rg 11 (.pick (.t 6) (.t 10) (.c (.b false))), mv 2 11])
 (.pre (.norm false [2]) .ret)))
def b230 : AX :=
 (.seq
 (.reg [rg 4 (.mov (.c (.sl [] .nl)))])
 (.seq
 (.seq
 (.reg [mv 7 1, rg 8 (.call 229 [(.t 7)])])
 (.cond (.t 8)
 (.seq
 (.reg [mv 9 0, rg 10 (.call 43 [(.t 9)]), mv 4 10])
 (.pre (.norm false [4]) .ret))
 .skip))
 (.seq
 (.reg [mv 12 0, mv 13 1, rg 14 (.call 63 [(.t 12), (.t 13)]), mv 11 14, rg 15 (.ext (.t 11) 0), rg 16 (.ext (.t 11) 1), mv 5 15, mv 6 16])
 (.seq
 (.reg [mv 17 5, mv 4 17])
 (.pre (.norm false [4]) .ret)))))
def l2097_0 : AX :=
 (.note
 (.seq
 (.seq
 (.reg [mv 8 5, mv 9 0, rg 10 (.len (.t 9)), rg 11 (.bin .lss (.t 8) (.t 10))])
 (.cond (.t 11)
 .skip
 (.exit 0)))
 (.seq
 (.block 1
 (.seq
 (.reg [mv 14 0, mv 15 5, rg 16 (.iad 1 (.t 14) (.t 15)), rg 17 (.load none (.t 16)), rg 18 (.conv .u64 (.t 17)), mv 6 18])
 (.seq
 (.reg [mv 19 1, mv 20 5, rg 21 (.call 84 [(.t 19), (.t 20)]), rg 22 (.conv .u64 (.t 21)), mv 23 4, rg 24 (.bin .add (.t 22) (.t 23)), mv 7 24])
 (.seq
 (.reg [rg 4 (.mov (.c (u64 0)))])
 (.seq
 (.seq
 (.reg [mv 25 6, mv 26 7, rg 27 (.bin .lss (.t 25) (.t 26))])
 (.cond (.t 27)
 (.seq
 (.reg [mv 28 6, rg 29 (.bin .add (.t 28) (.c (u64 4294967296))), mv 6 29])
 (.reg [rg 4 (.mov (.c (u64 1)))]))
 .skip))
 (.reg [mv 30 0, mv 31 5, mv 32 6, mv 33 7, rg 34 (.bin .sub (.t 32) (.t 33)), rg 35 (.conv .u32 (.t 34)), rg 36 (.iad 1 (.t 30) (.t 31)),
 so (.store 1 (.t 36) (.t 35))]))))))
 (.reg [mv 12 5, rg 13 (.bin .add (.t 12) (.c (.i .i64 1))), mv 5 13])))
 (.norm false [0, 1, 4, 5]))
def b2097 : AX :=
 (.seq
 (.reg [rg 4 (.mov (.c (u64 0)))])
 (.seq
 (.reg [rg 5 (.mov (.c (.i .i64 0)))])
 (.lp 0 (.norm false [0, 1, 4, 5]) l2097_0 (.norm false []))))
class CRef06 (T : Tbl) : Prop where
  h224 : T 224 = some ⟨1, 14, [.t 2], b224, none, false⟩
  h225 : T 225 = some ⟨2, 56, [.t 4], b225, (some [true, false]), false⟩
  h226 : T 226 = some ⟨1, 24, [.t 2, .t 3], b226, (some [true]), false⟩
  h227 : T 227 = some ⟨2, 17, [.t 4], b227, none, false⟩
  h228 : T 228 = some ⟨2, 56, [.t 4], b228, none, false⟩
  h229 : T 229 = some ⟨1, 12, [.t 2], b229, none, false⟩
  h230 : T 230 = some ⟨2, 18, [.t 4], b230, none, false⟩
  h2097 : T 2097 = some ⟨2, 37, [], b2097, (some [true, true]), false⟩
section
variable {T : Tbl} [CRef06 T] {d : Option Nat} {st : St} {xs : List AV} {ps : List Opd} {e : Env} {h : Heap} {ol : List Heap}
@[simp] theorem x224 : callX (orc T) T 224 xs d st = cP T 224 false xs d st := callX_pure CRef06.h224
theorem f224 (xs : List AV) (hn : xs.length = 1) : callF T 224 xs = retF [.t 2] false (evX (orc T) T 0 b224 ⟨argEnv xs, [], 1⟩) := callF_eq CRef06.h224 hn
@[simp] theorem x225 : callX (orc T) T 225 xs d st = cL T 225 false [true, false] xs d st := callX_lent CRef06.h225
theorem f225 (xs : List AV) (hb : Heap) (hn : xs.length = 2) : callH T 225 xs hb = retH [.t 4] false hb.length (evX (orc T) T hb.length b225 ⟨argEnv xs, hb, hb.length + 1⟩) := callH_eq CRef06.h225 hn
@[simp] theorem x226 : callX (orc T) T 226 xs d st = cL T 226 false [true] xs d st := callX_lent CRef06.h226
theorem f226 (xs : List AV) (hb : Heap) (hn : xs.length = 1) : callH T 226 xs hb = retH [.t 2, .t 3] false hb.length (evX (orc T) T hb.length b226 ⟨argEnv xs, hb, hb.length + 1⟩) := callH_eq CRef06.h226 hn
@[simp] theorem x227 : callX (orc T) T 227 xs d st = cP T 227 false xs d st := callX_pure CRef06.h227
theorem f227 (xs : List AV) (hn : xs.length = 2) : callF T 227 xs = retF [.t 4] false (evX (orc T) T 0 b227 ⟨argEnv xs, [], 1⟩) := callF_eq CRef06.h227 hn
@[simp] theorem x228 : callX (orc T) T 228 xs d st = cP T 228 false xs d st := callX_pure CRef06.h228
theorem f228 (xs : List AV) (hn : xs.length = 2) : callF T 228 xs = retF [.t 4] false (evX (orc T) T 0 b228 ⟨argEnv xs, [], 1⟩) := callF_eq CRef06.h228 hn
@[simp] theorem x229 : callX (orc T) T 229 xs d st = cP T 229 false xs d st := callX_pure CRef06.h229
theorem f229 (xs : List AV) (hn : xs.length = 1) : callF T 229 xs = retF [.t 2] false (evX (orc T) T 0 b229 ⟨argEnv xs, [], 1⟩) := callF_eq CRef06.h229 hn
@[simp] theorem x230 : callX (orc T) T 230 xs d st = cP T 230 false xs d st := callX_pure CRef06.h230
theorem f230 (xs : List AV) (hn : xs.length = 2) : callF T 230 xs = retF [.t 4] false (evX (orc T) T 0 b230 ⟨argEnv xs, [], 1⟩) := callF_eq CRef06.h230 hn
@[simp] theorem x2097 : callX (orc T) T 2097 xs d st = cL T 2097 false [true, true] xs d st := callX_lent CRef06.h2097
theorem f2097 (xs : List AV) (hb : Heap) (hn : xs.length = 2) : callH T 2097 xs hb = retH [] false hb.length (evX (orc T) T hb.length b2097 ⟨argEnv xs, hb, hb.length + 1⟩) := callH_eq CRef06.h2097 hn
end
end Go.Ab
end

section
namespace Go.Ab
section
variable {T : Tbl} [CRef07 T]
theorem ref02_norm_own (a : List UInt32) (hl : a.length ≤ 1000000) : callH T 2043 [.sl (u32s a) .an] [] =
    some (.bs (.loc 22) 1 1 0 (ofN (val a)).length, [(.loc 22, ⟨1, .own, 1, u32s (ofN (val a))⟩)]) := by
  obtain ⟨n, h1, h2, h3, h4⟩ := ofN_take a
  have hr := ref02_norm_loop (T := T) a (by omega) h1 h3 h4 a.length ⟨h1, Nat.le_refl _⟩
  rw [show l43_0 = l2043_0 from rfl] at hr
  have hlen : (ofN (val a)).length = n := by rw [← h2]; simp; omega
  have hb : n ≤ 4294967296 := by omega
  rw [f2043 _ _ rfl, b2043]
  simp -implicitDefEqProofs [hr, h1, h2, hb, hlen]
def stTen (N : Nat) (y : Nat × Nat × List UInt32) (P : List UInt32) : St :=
  ⟨[(0, .bs (.bor 0) 0 1 0 N), (3, u64 y.2.1), (4, .i .i64 ((y.1 : Int) - 1))], [(.bor 0, ⟨0, .own, 1, u32s (P.take y.1 ++ y.2.2)⟩)], 4⟩
end
section
variable {T : Tbl} [CRef07 T]
def stTx (b : BId) (x : List UInt32) (s : List UInt8) : St := ⟨[(3, .bs b 1 1 0 x.length), (4, .s s)], [(b, ⟨1, .own, 1, u32s x⟩)], 3⟩
end
end Go.Ab
end

section
namespace Go.Ab
def b39 : AX :=
 (.seq
  (.reg [⟨(some 1), none, .xop (.box 2) [(.t 0)]⟩,
    ⟨(some 2), none, .alloc [(.b false), (.sl [] .nl)]⟩])
  (.seq
   (.reg [⟨(some 4), none, .fad 1 (.t 1)⟩,
     ⟨(some 5), none, .load none (.t 4)⟩,
     ⟨(some 6), none, .call 43 [(.t 5)]⟩,
     ⟨(some 3), none, .mov (.t 6)⟩])
   (.seq
    (.reg [⟨(some 7), none, .fad 0 (.t 1)⟩,
      ⟨(some 8), none, .load none (.t 7)⟩,
      ⟨(some 9), none, .mov (.t 8)⟩,
      ⟨(some 10), (some (9, true)), .mov (.t 3)⟩,
      ⟨(some 11), (some (9, true)), .len (.t 10)⟩,
      ⟨(some 12), (some (9, true)), .bin .gtr (.t 11) (.c (.i .i64 0))⟩,
      ⟨(some 13), none, .pick (.t 9) (.t 12) (.c (.b false))⟩,
      ⟨(some 14), none, .mov (.t 3)⟩,
      ⟨(some 15), none, .build [(.b false), (.sl [] .nl)] [(0, 1, (.t 13)), (1, 1, (.t 14))]⟩,
      ⟨none, none, .store 2 (.t 2) (.t 15)⟩])
    (.pre (.norm false [2]) .ret))))
def b24 : AX :=
 (.seq
  (.reg [⟨(some 2), none, .xop (.box 2) [(.t 0)]⟩,
    ⟨(some 3), none, .xop (.box 2) [(.t 1)]⟩,
    ⟨(some 4), none, .alloc [(.b false), (.sl [] .nl)]⟩])
  (.seq
   (.seq
    (.reg [⟨(some 5), none, .fad 0 (.t 2)⟩,
      ⟨(some 6), none, .load none (.t 5)⟩,
      ⟨(some 7), none, .fad 0 (.t 3)⟩,
      ⟨(some 8), none, .load none (.t 7)⟩,
      ⟨(some 9), none, .eqb false (.t 6) (.t 8)⟩])
    (.cond (.t 9)
     (.seq
      (.drawT [⟨(some 10), none, .fad 0 (.t 2)⟩,
        ⟨(some 11), none, .load none (.t 10)⟩,
        ⟨(some 12), none, .fad 1 (.t 2)⟩,
        ⟨(some 13), none, .load none (.t 12)⟩,
        ⟨(some 14), none, .fad 1 (.t 3)⟩,
        ⟨(some 15), none, .load none (.t 14)⟩,
        ⟨(some 16), none, .call 58 [(.t 13), (.t 15)]⟩]
       [⟨(some 17), none, .build [(.b false), (.sl [] .nl)] [(0, 1, (.t 11)), (1, 1, (.t 16))]⟩,
        ⟨(some 18), none, .call 39 [(.t 17)]⟩,
        ⟨none, none, .store 2 (.t 4) (.t 18)⟩])
      (.pre (.norm false [4]) .ret))
     .skip))
   (.seq
    (.seq
     (.reg [⟨(some 19), none, .fad 1 (.t 2)⟩,
       ⟨(some 20), none, .load none (.t 19)⟩,
       ⟨(some 21), none, .fad 1 (.t 3)⟩,
       ⟨(some 22), none, .load none (.t 21)⟩,
       ⟨(some 23), none, .call 52 [(.t 20), (.t 22)]⟩,
       ⟨(some 24), none, .bin .lss (.t 23) (.c (.i .i64 0))⟩])
     (.cond (.t 24)
      (.seq
       (.drawT [⟨(some 25), none, .fad 0 (.t 3)⟩,
         ⟨(some 26), none, .load none (.t 25)⟩,
         ⟨(some 27), none, .fad 1 (.t 3)⟩,
         ⟨(some 28), none, .load none (.t 27)⟩,
         ⟨(some 29), none, .fad 1 (.t 2)⟩,
         ⟨(some 30), none, .load none (.t 29)⟩,
         ⟨(some 31), none, .call 59 [(.t 28), (.t 30)]⟩]
        [⟨(some 32), none, .build [(.b false), (.sl [] .nl)] [(0, 1, (.t 26)), (1, 1, (.t 31))]⟩,
         ⟨(some 33), none, .call 39 [(.t 32)]⟩,
         ⟨none, none, .store 2 (.t 4) (.t 33)⟩])
       (.pre (.norm false [4]) .ret))
      .skip))
    (.seq
     (.drawT [⟨(some 34), none, .fad 0 (.t 2)⟩,
       ⟨(some 35), none, .load none (.t 34)⟩,
       ⟨(some 36), none, .fad 1 (.t 2)⟩,
       ⟨(some 37), none, .load none (.t 36)⟩,
       ⟨(some 38), none, .fad 1 (.t 3)⟩,
       ⟨(some 39), none, .load none (.t 38)⟩,
       ⟨(some 40), none, .call 59 [(.t 37), (.t 39)]⟩]
      [⟨(some 41), none, .build [(.b false), (.sl [] .nl)] [(0, 1, (.t 35)), (1, 1, (.t 40))]⟩,
       ⟨(some 42), none, .call 39 [(.t 41)]⟩,
       ⟨none, none, .store 2 (.t 4) (.t 42)⟩])
     (.pre (.norm false [4]) .ret)))))
class CRef08 (T : Tbl) : Prop extends CRef07 T where
  h39 : T 39 = some ⟨1, 16, [.cell 2 (some 2)], b39, none, false⟩
  h24 : T 24 = some ⟨2, 43, [.cell 4 (some 2)], b24, none, false⟩
section
variable {T : Tbl} [CRef08 T] {d : Option Nat} {st : St}
@[simp] theorem x39 (xs : List AV) : callX (orc T) T 39 xs d st = bL (frzL st.heap xs) fun ys => cR (callF T 39 (ys.map (wkIf false))) xs d st := callX_pure CRef08.h39
theorem f39 (xs : List AV) (hn : xs.length = 1) : callF T 39 xs = retF [.cell 2 (some 2)] false (evX (orc T) T 0 b39 ⟨argEnv xs, [], 1⟩) := callF_eq CRef08.h39 hn
@[simp] theorem x24 (xs : List AV) : callX (orc T) T 24 xs d st = bL (frzL st.heap xs) fun ys => cR (callF T 24 (ys.map (wkIf false))) xs d st := callX_pure CRef08.h24
theorem f24 (xs : List AV) (hn : xs.length = 2) : callF T 24 xs = retF [.cell 4 (some 2)] false (evX (orc T) T 0 b24 ⟨argEnv xs, [], 1⟩) := callF_eq CRef08.h24 hn
end
end Go.Ab
end

section
namespace Go.Ab
def b231 : AX :=
 (.seq
 (.reg [rg 1 (.xop (.box 3) [(.t 0)]), rg 2 (.alloc [(.b false), (.sl [] .nl), (.sl [] .nl)])])
 (.seq
 (.reg [rg 6 (.fad 2 (.t 1)), rg 7 (.load none (.t 6)), rg 8 (.call 43 [(.t 7)]), mv 3 8])
 (.seq
 (.reg [rg 9 (.fad 1 (.t 1)), rg 10 (.load none (.t 9)), rg 11 (.call 43 [(.t 10)]), mv 4 11])
 (.seq
 (.seq
 (.reg [mv 12 3, rg 13 (.len (.t 12)), rg 14 (.bin .eql (.t 13) (.c (.i .i64 0))), mv 15 14, gd 16 15 false (.mov (.t 4)), gd 17 15 false (.len (.t 16)),
 gd 18 15 false (.bin .eql (.t 17) (.c (.i .i64 0))), rg 19 (.pick (.t 15) (.c (.b true)) (.t 18))])
 (.cond (.t 19)
 (.seq
 (.reg [rg 20 (.bsl 1 [(u32 0)] 0 []), rg 21 (.bsl 1 [(u32 0)] 1 [(0, (.c (u32 1)))]),
 rg 22 (.build [(.b false), (.sl [] .nl), (.sl [] .nl)] [(1, 1, (.t 20)), (2, 1, (.t 21))]), so (.store 3 (.t 2) (.t 22))])
 (.pre (.norm false [2]) .ret))
 .skip))
 (.seq
 (.seq
 (.reg [mv 23 3, rg 24 (.call 229 [(.t 23)]), rg 25 (.un .not (.t 24))])
 (.cond (.t 25)
 (.seq
 (.reg [mv 26 4, mv 27 3, rg 28 (.call 228 [(.t 26), (.t 27)]), mv 5 28])
 (.seq
 (.reg [mv 29 4, mv 30 5, rg 31 (.call 230 [(.t 29), (.t 30)]), mv 4 31])
 (.reg [mv 32 3, mv 33 5, rg 34 (.call 230 [(.t 32), (.t 33)]), mv 3 34])))
 .skip))
 (.seq
 (.reg [rg 35 (.fad 0 (.t 1)), rg 36 (.load none (.t 35)), mv 37 4, mv 38 3,
 rg 39 (.build [(.b false), (.sl [] .nl), (.sl [] .nl)] [(0, 1, (.t 36)), (1, 1, (.t 37)), (2, 1, (.t 38))]), so (.store 3 (.t 2) (.t 39))])
 (.pre (.norm false [2]) .ret)))))))
def b232 : AX :=
 (.seq
 (.reg [rg 2 (.alloc [(.b false), (.sl [] .nl), (.sl [] .nl)])])
 (.seq
 (.seq
 (.reg [mv 3 0, rg 4 (.bin .lss (.t 3) (.c (.i .i64 0)))])
 (.cond (.t 4)
 (.seq
 (.reg [mv 5 0, rg 6 (.bin .add (.t 5) (.c (.i .i64 1))), rg 7 (.un .neg (.t 6)), rg 8 (.conv .u64 (.t 7)), rg 9 (.call 353 [(.t 8)]),
 rg 10 (.bsl 1 [(u32 0)] 1 [(0, (.c (u32 1)))]), rg 11 (.call 58 [(.t 9), (.t 10)]), rg 12 (.bsl 1 [(u32 0)] 1 [(0, (.c (u32 1)))]),
 rg 13 (.build [(.b false), (.sl [] .nl), (.sl [] .nl)] [(0, 1, (.c (.b true))), (1, 1, (.t 11)), (2, 1, (.t 12))]), rg 14 (.call 231 [(.t 13)]),
 so (.store 3 (.t 2) (.t 14))])
 (.pre (.norm false [2]) .ret))
 .skip))
 (.seq
 (.reg [mv 15 0, rg 16 (.conv .u64 (.t 15)), rg 17 (.call 353 [(.t 16)]), rg 18 (.bsl 1 [(u32 0)] 1 [(0, (.c (u32 1)))]),
 rg 19 (.build [(.b false), (.sl [] .nl), (.sl [] .nl)] [(1, 1, (.t 17)), (2, 1, (.t 18))]), rg 20 (.call 231 [(.t 19)]), so (.store 3 (.t 2) (.t 20))])
 (.pre (.norm false [2]) .ret))))
def b233 : AX :=
 (.seq
 (.reg [rg 2 (.xop (.box 3) [(.t 0)]), rg 3 (.xop (.box 3) [(.t 1)]), rg 4 (.mov (.c (.b false)))])
 (.seq
 (.reg [rg 5 (.fad 0 (.t 2)), rg 6 (.load none (.t 5)), rg 7 (.fad 0 (.t 3)), rg 8 (.load none (.t 7)), rg 9 (.eqb false (.t 6) (.t 8)), mv 10 9,
 gd 11 10 true (.fad 1 (.t 2)), gd 12 10 true (.load none (.t 11)), gd 13 10 true (.fad 1 (.t 3)), gd 14 10 true (.load none (.t 13)),
 gd 15 10 true (.call 54 [(.t 12), (.t 14)]), rg 16 (.pick (.t 10) (.t 15) (.c (.b false))), mv 17 16, gd 18 17 true (.fad 2 (.t 2)),
 gd 19 17 true (.load none (.t 18)), gd 20 17 true (.fad 2 (.t 3)), gd 21 17 true (.load none (.t 20)), gd 22 17 true (.call 54 [(.t 19), (.t 21)]),
 rg 23 (.pick (.t 17) (.t 22) (.c (.b false))), mv 4 23])
 (.pre (.norm false [4]) .ret)))
def b239 : AX :=
 (.seq
 (.reg [rg 2 (.xop (.box 3) [(.t 0)]), rg 3 (.xop (.box 3) [(.t 1)]), rg 4 (.alloc [(.b false), (.sl [] .nl), (.sl [] .nl)])])
 (.seq
 (.draw [⟨rg 8 (.fad 0 (.t 2)), 0, 1⟩, ⟨rg 9 (.load none (.t 8)), 0, 1⟩, ⟨rg 10 (.fad 1 (.t 2)), 0, 1⟩, ⟨rg 11 (.load none (.t 10)), 0, 1⟩,
 ⟨rg 12 (.fad 2 (.t 3)), 0, 1⟩, ⟨rg 13 (.load none (.t 12)), 0, 1⟩, ⟨rg 14 (.call 61 [(.t 11), (.t 13)]), 0, 1⟩,
 ⟨rg 15 (.build [(.b false), (.sl [] .nl)] [(0, 1, (.t 9)), (1, 1, (.t 14))]), 0, 1⟩, ⟨rg 5 (.alloc [(.b false), (.sl [] .nl)]), 0, 1⟩,
 ⟨so (.store 2 (.t 5) (.t 15)), 1, 2⟩])
 (.seq
 (.draw [⟨rg 16 (.fad 0 (.t 3)), 0, 1⟩, ⟨rg 17 (.load none (.t 16)), 0, 1⟩, ⟨rg 18 (.fad 1 (.t 3)), 0, 1⟩, ⟨rg 19 (.load none (.t 18)), 0, 1⟩,
 ⟨rg 20 (.fad 2 (.t 2)), 0, 1⟩, ⟨rg 21 (.load none (.t 20)), 0, 1⟩, ⟨rg 22 (.call 61 [(.t 19), (.t 21)]), 0, 1⟩,
 ⟨rg 23 (.build [(.b false), (.sl [] .nl)] [(0, 1, (.t 17)), (1, 1, (.t 22))]), 0, 1⟩, ⟨rg 6 (.alloc [(.b false), (.sl [] .nl)]), 0, 1⟩,
 ⟨so (.store 2 (.t 6) (.t 23)), 1, 2⟩])
 (.seq
 (.reg [rg 24 (.load (some 2) (.t 5)), rg 25 (.load (some 2) (.t 6)), rg 26 (.call 24 [(.t 24), (.t 25)]), rg 7 (.alloc [(.b false), (.sl [] .nl)]),
 so (.store 2 (.t 7) (.t 26))])
 (.seq
 (.drawT [rg 27 (.fad 0 (.t 7)), rg 28 (.load none (.t 27)), rg 29 (.fad 1 (.t 7)), rg 30 (.load none (.t 29)), rg 31 (.fad 2 (.t 2)), rg 32 (.load none (.t 31)),
 rg 33 (.fad 2 (.t 3)), rg 34 (.load none (.t 33)), rg 35 (.call 61 [(.t 32), (.t 34)])]
  [rg 36 (.build [(.b false), (.sl [] .nl), (.sl [] .nl)] [(0, 1, (.t 28)), (1, 1, (.t 30)), (2, 1, (.t 35))]), rg 37 (.call 231 [(.t 36)]),
 so (.store 3 (.t 4) (.t 37))])
 (.pre (.norm false [4]) .ret))))))
def b241 : AX :=
 (.seq
 (.reg [rg 2 (.xop (.box 3) [(.t 0)]), rg 3 (.xop (.box 3) [(.t 1)]), rg 4 (.alloc [(.b false), (.sl [] .nl), (.sl [] .nl)])])
 (.seq
 (.drawT [rg 5 (.fad 0 (.t 2)), rg 6 (.load none (.t 5)), rg 7 (.fad 0 (.t 3)), rg 8 (.load none (.t 7)), rg 9 (.eqb true (.t 6) (.t 8)), rg 10 (.fad 1 (.t 2)),
 rg 11 (.load none (.t 10)), rg 12 (.fad 1 (.t 3)), rg 13 (.load none (.t 12)), rg 14 (.call 61 [(.t 11), (.t 13)]), rg 15 (.fad 2 (.t 2)),
 rg 16 (.load none (.t 15)), rg 17 (.fad 2 (.t 3)), rg 18 (.load none (.t 17)), rg 19 (.call 61 [(.t 16), (.t 18)])]
  [rg 20 (.build [(.b false), (.sl [] .nl), (.sl [] .nl)] [(0, 1, (.t 9)), (1, 1, (.t 14)), (2, 1, (.t 19))]), rg 21 (.call 231 [(.t 20)]),
 so (.store 3 (.t 4) (.t 21))])
 (.pre (.norm false [4]) .ret)))
def b247 : AX :=
 (.seq
 (.reg [rg 2 (.xop (.box 3) [(.t 0)]), rg 4 (.mov (.c (.b false)))])
 (.seq
 (.reg [rg 5 (.fad 1 (.t 2)), rg 6 (.load none (.t 5)), rg 7 (.len (.t 6)), mv 8 1, rg 9 (.bin .gtr (.t 7) (.t 8)), mv 10 9, gd 11 10 false (.fad 2 (.t 2)),
 gd 12 10 false (.load none (.t 11)), gd 13 10 false (.len (.t 12)), gd 14 10 false (.mov (.t 1)), gd 15 10 false (.bin .gtr (.t 13) (.t 14)),
 rg 16 (.pick (.t 10) (.c (.b true)) (.t 15)), mv 4 16])
 (.pre (.norm false [4]) .ret)))
def b353 : AX :=
 (.seq
 (.reg [rg 2 (.mov (.c (.sl [] .nl)))])
 (.seq
 (.reg [mv 3 0, rg 4 (.bin .rem (.t 3) (.c (u64 4294967296))), rg 5 (.conv .u32 (.t 4)), mv 6 0, rg 7 (.bin .quo (.t 6) (.c (u64 4294967296))),
 rg 8 (.conv .u32 (.t 7)), rg 9 (.bsl 1 [(u32 0)] 2 [(0, (.t 5)), (1, (.t 8))]), rg 10 (.call 43 [(.t 9)]), mv 2 10])
 (.pre (.norm false [2]) .ret)))
class CRef09 (T : Tbl) : Prop where
  h231 : T 231 = some ⟨1, 40, [.cell 2 (some 3)], b231, none, false⟩
  h232 : T 232 = some ⟨1, 21, [.cell 2 (some 3)], b232, none, false⟩
  h233 : T 233 = some ⟨2, 24, [.t 4], b233, none, false⟩
  h239 : T 239 = some ⟨2, 38, [.cell 4 (some 3)], b239, none, false⟩
  h241 : T 241 = some ⟨2, 22, [.cell 4 (some 3)], b241, none, false⟩
  h247 : T 247 = some ⟨2, 17, [.t 4], b247, none, false⟩
  h353 : T 353 = some ⟨1, 11, [.t 2], b353, none, false⟩
section
variable {T : Tbl} [CRef09 T] {d : Option Nat} {st : St} {xs : List AV} {ps : List Opd} {e : Env} {h : Heap} {ol : List Heap}
@[simp] theorem x231 : callX (orc T) T 231 xs d st = cP T 231 false xs d st := callX_pure CRef09.h231
theorem f231 (xs : List AV) (hn : xs.length = 1) : callF T 231 xs = retF [.cell 2 (some 3)] false (evX (orc T) T 0 b231 ⟨argEnv xs, [], 1⟩) := callF_eq CRef09.h231 hn
@[simp] theorem x232 : callX (orc T) T 232 xs d st = cP T 232 false xs d st := callX_pure CRef09.h232
theorem f232 (xs : List AV) (hn : xs.length = 1) : callF T 232 xs = retF [.cell 2 (some 3)] false (evX (orc T) T 0 b232 ⟨argEnv xs, [], 1⟩) := callF_eq CRef09.h232 hn
@[simp] theorem x233 : callX (orc T) T 233 xs d st = cP T 233 false xs d st := callX_pure CRef09.h233
theorem f233 (xs : List AV) (hn : xs.length = 2) : callF T 233 xs = retF [.t 4] false (evX (orc T) T 0 b233 ⟨argEnv xs, [], 1⟩) := callF_eq CRef09.h233 hn
@[simp] theorem x239 : callX (orc T) T 239 xs d st = cP T 239 false xs d st := callX_pure CRef09.h239
@[simp] theorem y239 : opD (orc T) T (.call 239 ps) e h ol = dP T 239 false ps e := opD_call CRef09.h239
theorem f239 (xs : List AV) (hn : xs.length = 2) : callF T 239 xs = retF [.cell 4 (some 3)] false (evX (orc T) T 0 b239 ⟨argEnv xs, [], 1⟩) := callF_eq CRef09.h239 hn
@[simp] theorem y241 : opD (orc T) T (.call 241 ps) e h ol = dP T 241 false ps e := opD_call CRef09.h241
theorem f241 (xs : List AV) (hn : xs.length = 2) : callF T 241 xs = retF [.cell 4 (some 3)] false (evX (orc T) T 0 b241 ⟨argEnv xs, [], 1⟩) := callF_eq CRef09.h241 hn
@[simp] theorem x247 : callX (orc T) T 247 xs d st = cP T 247 false xs d st := callX_pure CRef09.h247
theorem f247 (xs : List AV) (hn : xs.length = 2) : callF T 247 xs = retF [.t 4] false (evX (orc T) T 0 b247 ⟨argEnv xs, [], 1⟩) := callF_eq CRef09.h247 hn
@[simp] theorem x353 : callX (orc T) T 353 xs d st = cP T 353 false xs d st := callX_pure CRef09.h353
theorem f353 (xs : List AV) (hn : xs.length = 1) : callF T 353 xs = retF [.t 2] false (evX (orc T) T 0 b353 ⟨argEnv xs, [], 1⟩) := callF_eq CRef09.h353 hn
end
end Go.Ab
end

section
namespace Go.Ab
def b277 : AX :=
 (.seq
 (.reg [rg 4 (.mov (.c (.sl [] .nl)))])
 (.seq
 (.reg [mv 6 0, rg 7 (.call 2276 [(.t 6)]), mv 5 7])
 (.seq
 (.seq
 (.reg [mv 8 1, rg 9 (.bin .geq (.t 8) (.c (.i .i64 0))), mv 10 9, gd 11 10 true (.mov (.t 1)), gd 12 10 true (.mov (.t 5)), gd 13 10 true (.len (.t 12)),
 gd 14 10 true (.bin .lss (.t 11) (.t 13)), rg 15 (.pick (.t 10) (.t 14) (.c (.b false)))])
 (.cond (.t 15)
 (.reg [mv 16 5, mv 17 1, rg 18 (.call 232 [(.c (.i .i64 1))]), rg 19 (.iad 3 (.t 16) (.t 17)), so (.store 3 (.t 19) (.t 18))])
 .skip))
 (.seq
 (.reg [mv 20 5, mv 4 20])
 (.pre (.norm false [4]) .ret)))))
def l278_0 : AX :=
 (.note
 (.seq
 (.seq
 (.reg [mv 5 4, mv 6 0, rg 7 (.len (.t 6)), rg 8 (.bin .lss (.t 5) (.t 7))])
 (.cond (.t 8)
 .skip
 (.exit 0)))
 (.seq
 (.block 1
 (.reg [mv 11 3, mv 12 0, mv 13 4, rg 14 (.iad 3 (.t 12) (.t 13)), rg 15 (.load (some 3) (.t 14)), rg 16 (.call 231 [(.t 15)]),
 rg 17 (.bsl 3 [(.b false), (.sl [] .nl), (.sl [] .nl)] 1 [(0, (.t 16))]), rg 18 (.app 3 (.t 11) (.t 17)), mv 3 18]))
 (.reg [mv 9 4, rg 10 (.bin .add (.t 9) (.c (.i .i64 1))), mv 4 10])))
 (.norm false [0, 3, 4]))
def b278 : AX :=
 (.seq
 (.reg [rg 2 (.mov (.c (.sl [] .nl)))])
 (.seq
 (.note (.reg [rg 3 (.mov (.c (.sl [] .nl)))]) (.nil 3 3))
 (.seq
 (.seq
 (.reg [rg 4 (.mov (.c (.i .i64 0)))])
 (.lp 0 (.norm false [0, 3, 4]) l278_0 (.norm false [3])))
 (.seq
 (.reg [mv 19 3, mv 2 19])
 (.pre (.norm false [2]) .ret)))))
def l279_0 : AX :=
 (.note
 (.seq
 (.seq
 (.reg [mv 11 5, mv 12 0, rg 13 (.len (.t 12)), rg 14 (.bin .lss (.t 11) (.t 13))])
 (.cond (.t 14)
 .skip
 (.exit 0)))
 (.seq
 (.block 1
 (.seq
 (.drawT [mv 17 0, mv 18 5, rg 19 (.iad 3 (.t 17) (.t 18)), rg 20 (.load (some 3) (.t 19)), mv 21 1, mv 22 5, rg 23 (.iad 3 (.t 21) (.t 22)),
 rg 24 (.load (some 3) (.t 23))]
  [rg 25 (.call 233 [(.t 20), (.t 24)]), rg 26 (.un .not (.t 25))])
 (.cond (.t 26)
 (.seq
 (.reg [rg 4 (.mov (.c (.b false)))])
 (.pre (.norm false [4]) .ret))
 .skip)))
 (.reg [mv 15 5, rg 16 (.bin .add (.t 15) (.c (.i .i64 1))), mv 5 16])))
 (.norm false [0, 1, 5]))
def b279 : AX :=
 (.seq
 (.reg [rg 4 (.mov (.c (.b false)))])
 (.seq
 (.seq
 (.reg [mv 6 0, rg 7 (.len (.t 6)), mv 8 1, rg 9 (.len (.t 8)), rg 10 (.bin .neq (.t 7) (.t 9))])
 (.cond (.t 10)
 (.seq
 (.reg [rg 4 (.mov (.c (.b false)))])
 (.pre (.norm false [4]) .ret))
 .skip))
 (.seq
 (.seq
 (.reg [rg 5 (.mov (.c (.i .i64 0)))])
 (.lp 0 (.norm false [0, 1, 5]) l279_0 (.norm false [])))
 (.seq
 (.reg [rg 4 (.mov (.c (.b true)))])
 (.pre (.norm false [4]) .ret)))))
def l280_0 : AX :=
 (.note
 (.seq
 (.seq
 (.reg [mv 7 6, mv 8 0, rg 9 (.len (.t 8)), rg 10 (.bin .lss (.t 7) (.t 9))])
 (.cond (.t 10)
 .skip
 (.exit 0)))
 (.seq
 (.block 1
 (.drawT [mv 13 5, mv 14 0, mv 15 6, rg 16 (.iad 3 (.t 14) (.t 15)), rg 17 (.load (some 3) (.t 16)), mv 18 1, mv 19 6, rg 20 (.iad 3 (.t 18) (.t 19)),
 rg 21 (.load (some 3) (.t 20)), rg 22 (.call 239 [(.t 17), (.t 21)]), rg 23 (.bsl 3 [(.b false), (.sl [] .nl), (.sl [] .nl)] 1 [(0, (.t 22))])]
  [rg 24 (.app 3 (.t 13) (.t 23)), mv 5 24]))
 (.reg [mv 11 6, rg 12 (.bin .add (.t 11) (.c (.i .i64 1))), mv 6 12])))
 (.norm false [0, 1, 5, 6]))
def b280 : AX :=
 (.seq
 (.reg [rg 4 (.mov (.c (.sl [] .nl)))])
 (.seq
 (.note (.reg [rg 5 (.mov (.c (.sl [] .nl)))]) (.nil 5 3))
 (.seq
 (.seq
 (.reg [rg 6 (.mov (.c (.i .i64 0)))])
 (.lp 0 (.norm false [0, 1, 5, 6]) l280_0 (.norm false [5])))
 (.seq
 (.reg [mv 25 5, mv 4 25])
 (.pre (.norm false [4]) .ret)))))
def l282_0 : AX :=
 (.note
 (.seq
 (.seq
 (.reg [mv 8 6, mv 9 0, rg 10 (.len (.t 9)), rg 11 (.bin .lss (.t 8) (.t 10))])
 (.cond (.t 11)
 .skip
 (.exit 0)))
 (.seq
 (.block 1
 (.drawT [rg 14 (.load (some 3) (.t 5)), mv 15 0, mv 16 6, rg 17 (.iad 3 (.t 15) (.t 16)), rg 18 (.load (some 3) (.t 17)), mv 19 1, mv 20 6,
 rg 21 (.iad 3 (.t 19) (.t 20)), rg 22 (.load (some 3) (.t 21)), rg 23 (.call 241 [(.t 18), (.t 22)])]
  [rg 24 (.call 239 [(.t 14), (.t 23)]), so (.store 3 (.t 5) (.t 24))]))
 (.reg [mv 12 6, rg 13 (.bin .add (.t 12) (.c (.i .i64 1))), mv 6 13])))
 (.norm false [0, 1, 4, 5, 6]))
def b282 : AX :=
 (.seq
 (.reg [rg 4 (.alloc [(.b false), (.sl [] .nl), (.sl [] .nl)])])
 (.seq
 (.reg [rg 7 (.call 232 [(.c (.i .i64 0))]), rg 5 (.alloc [(.b false), (.sl [] .nl), (.sl [] .nl)]), so (.store 3 (.t 5) (.t 7))])
 (.seq
 (.seq
 (.reg [rg 6 (.mov (.c (.i .i64 0)))])
 (.lp 0 (.norm false [0, 1, 4, 5, 6]) l282_0 (.norm false [4, 5])))
 (.seq
 (.reg [rg 25 (.load (some 3) (.t 5)), so (.store 3 (.t 4) (.t 25))])
 (.pre (.norm false [4]) .ret)))))
def l286_0 : AX :=
 (.note
 (.seq
 (.seq
 (.reg [mv 8 7, mv 9 0, rg 10 (.len (.t 9)), rg 11 (.bin .lss (.t 8) (.t 10)), mv 12 11, gd 13 12 true (.mov (.t 7)), gd 14 12 true (.mov (.t 1)),
 gd 15 12 true (.bin .lss (.t 13) (.t 14)), rg 16 (.pick (.t 12) (.t 15) (.c (.b false)))])
 (.cond (.t 16)
 .skip
 (.exit 0)))
 (.seq
 (.block 1
 (.seq
 (.reg [mv 19 0, mv 20 7, rg 21 (.iad 3 (.t 19) (.t 20)), rg 22 (.load (some 3) (.t 21)), mv 23 2, rg 24 (.call 247 [(.t 22), (.t 23)])])
 (.cond (.t 24)
 (.seq
 (.reg [rg 6 (.mov (.c (.b true)))])
 (.pre (.norm false [6]) .ret))
 .skip)))
 (.reg [mv 17 7, rg 18 (.bin .add (.t 17) (.c (.i .i64 1))), mv 7 18])))
 (.norm false [0, 1, 2, 7]))
def b286 : AX :=
 (.seq
 (.reg [rg 6 (.mov (.c (.b false)))])
 (.seq
 (.seq
 (.reg [rg 7 (.mov (.c (.i .i64 0)))])
 (.lp 0 (.norm false [0, 1, 2, 7]) l286_0 (.norm false [0, 1])))
 (.seq
 (.reg [mv 25 0, rg 26 (.len (.t 25)), mv 27 1, rg 28 (.bin .gtr (.t 26) (.t 27)), mv 6 28])
 (.pre (.norm false [6]) .ret))))
def l2276_0 : AX :=
 (.note
 (.seq
 (.seq
 (.reg [mv 5 4, mv 6 0, rg 7 (.bin .lss (.t 5) (.t 6)), mv 8 7, gd 9 8 true (.mov (.t 4)), gd 10 8 true (.bin .lss (.t 9) (.c (.i .i64 300))),
 rg 11 (.pick (.t 8) (.t 10) (.c (.b false)))])
 (.cond (.t 11)
 .skip
 (.exit 0)))
 (.seq
 (.block 1
 (.reg [mv 14 3, rg 15 (.call 232 [(.c (.i .i64 0))]), rg 16 (.bsl 3 [(.b false), (.sl [] .nl), (.sl [] .nl)] 1 [(0, (.t 15))]), rg 17 (.app 3 (.t 14) (.t 16)),
 mv 3 17]))
 (.reg [mv 12 4, rg 13 (.bin .add (.t 12) (.c (.i .i64 1))), mv 4 13])))
 (.norm false [0, 3, 4]))
def b2276 : AX :=
 (.seq
 (.reg [rg 2 (.mov (.c (.sl [] .nl)))])
 (.seq
 (.note (.reg [rg 3 (.mov (.c (.sl [] .nl)))]) (.nil 3 3))
 (.seq
 (.seq
 (.reg [rg 4 (.mov (.c (.i .i64 0)))])
 (.lp 0 (.norm false [0, 3, 4]) l2276_0 (.norm false [3])))
 (.seq
 (.reg [mv 18 3, mv 2 18])
 (.pre (.norm false [2]) .ret)))))
class CRef11 (T : Tbl) : Prop where
  h277 : T 277 = some ⟨2, 21, [.t 4], b277, none, false⟩
  h278 : T 278 = some ⟨1, 20, [.t 2], b278, none, false⟩
  h279 : T 279 = some ⟨2, 27, [.t 4], b279, none, false⟩
  h280 : T 280 = some ⟨2, 26, [.t 4], b280, none, false⟩
  h282 : T 282 = some ⟨2, 26, [.cell 4 (some 3)], b282, none, false⟩
  h286 : T 286 = some ⟨3, 29, [.t 6], b286, none, false⟩
  h2276 : T 2276 = some ⟨1, 19, [.t 2], b2276, (some [false]), false⟩
section
variable {T : Tbl} [CRef11 T] {d : Option Nat} {st : St} {xs : List AV} {ps : List Opd} {e : Env} {h : Heap} {ol : List Heap}
@[simp] theorem x278 : callX (orc T) T 278 xs d st = cP T 278 false xs d st := callX_pure CRef11.h278
theorem f278 (xs : List AV) (hn : xs.length = 1) : callF T 278 xs = retF [.t 2] false (evX (orc T) T 0 b278 ⟨argEnv xs, [], 1⟩) := callF_eq CRef11.h278 hn
@[simp] theorem x279 : callX (orc T) T 279 xs d st = cP T 279 false xs d st := callX_pure CRef11.h279
theorem f279 (xs : List AV) (hn : xs.length = 2) : callF T 279 xs = retF [.t 4] false (evX (orc T) T 0 b279 ⟨argEnv xs, [], 1⟩) := callF_eq CRef11.h279 hn
@[simp] theorem y280 : opD (orc T) T (.call 280 ps) e h ol = dP T 280 false ps e := opD_call CRef11.h280
theorem f280 (xs : List AV) (hn : xs.length = 2) : callF T 280 xs = retF [.t 4] false (evX (orc T) T 0 b280 ⟨argEnv xs, [], 1⟩) := callF_eq CRef11.h280 hn
@[simp] theorem x282 : callX (orc T) T 282 xs d st = cP T 282 false xs d st := callX_pure CRef11.h282
theorem f282 (xs : List AV) (hn : xs.length = 2) : callF T 282 xs = retF [.cell 4 (some 3)] false (evX (orc T) T 0 b282 ⟨argEnv xs, [], 1⟩) := callF_eq CRef11.h282 hn
@[simp] theorem x286 : callX (orc T) T 286 xs d st = cP T 286 false xs d st := callX_pure CRef11.h286
theorem f286 (xs : List AV) (hn : xs.length = 3) : callF T 286 xs = retF [.t 6] false (evX (orc T) T 0 b286 ⟨argEnv xs, [], 1⟩) := callF_eq CRef11.h286 hn
end
end Go.Ab
end

section
namespace Go.Ab
def b299 : AX :=
 (.seq
 (.reg [rg 2 (.mov (.c (.i .i64 0)))])
 (.seq
 (.seq
 (.reg [mv 3 0, rg 4 (.len (.t 3)), rg 5 (.bin .eql (.t 4) (.c (.i .i64 0)))])
 (.cond (.t 5)
 (.seq
 (.reg [rg 2 (.mov (.c (.i .i64 0)))])
 (.pre (.norm false [2]) .ret))
 .skip))
 (.seq
 (.reg [mv 6 0, rg 7 (.iad 1 (.t 6) (.c (.i .i64 0))), rg 8 (.load none (.t 7)), rg 9 (.len (.t 8)), mv 2 9])
 (.pre (.norm false [2]) .ret))))
def l300_0 : AX :=
 (.note
 (.seq
 (.seq
 (.reg [mv 4 3, mv 5 0, rg 6 (.len (.t 5)), rg 7 (.bin .lss (.t 4) (.t 6))])
 (.cond (.t 7)
 .skip
 (.exit 0)))
 (.seq
 (.block 1
 (.seq
 (.drawT [mv 10 0, mv 11 3, rg 12 (.iad 1 (.t 10) (.t 11)), rg 13 (.load none (.t 12)), rg 14 (.len (.t 13)), mv 15 0, rg 16 (.iad 1 (.t 15) (.c (.i .i64 0))),
 rg 17 (.load none (.t 16)), rg 18 (.len (.t 17))]
  [rg 19 (.bin .neq (.t 14) (.t 18))])
 (.cond (.t 19)
 (.seq
 (.reg [rg 2 (.mov (.c (.b false)))])
 (.pre (.norm false [2]) .ret))
 .skip)))
 (.reg [mv 8 3, rg 9 (.bin .add (.t 8) (.c (.i .i64 1))), mv 3 9])))
 (.norm false [0, 3]))
def b300 : AX :=
 (.seq
 (.reg [rg 2 (.mov (.c (.b false)))])
 (.seq
 (.seq
 (.reg [rg 3 (.mov (.c (.i .i64 0)))])
 (.lp 0 (.norm false [0, 3]) l300_0 (.norm false [])))
 (.seq
 (.reg [rg 2 (.mov (.c (.b true)))])
 (.pre (.norm false [2]) .ret))))
def l301_0 : AX :=
 (.note
 (.seq
 (.seq
 (.reg [mv 5 4, mv 6 0, rg 7 (.len (.t 6)), rg 8 (.bin .lss (.t 5) (.t 7))])
 (.cond (.t 8)
 .skip
 (.exit 0)))
 (.seq
 (.block 1
 (.reg [mv 11 3, mv 12 0, mv 13 4, rg 14 (.iad 1 (.t 12) (.t 13)), rg 15 (.load none (.t 14)), rg 16 (.call 278 [(.t 15)]),
 rg 17 (.bsl 1 [(.sl [] .nl)] 1 [(0, (.t 16))]), rg 18 (.app 1 (.t 11) (.t 17)), mv 3 18]))
 (.reg [mv 9 4, rg 10 (.bin .add (.t 9) (.c (.i .i64 1))), mv 4 10])))
 (.norm false [0, 3, 4]))
def b301 : AX :=
 (.seq
 (.reg [rg 2 (.mov (.c (.sl [] .nl)))])
 (.seq
 (.note (.reg [rg 3 (.mov (.c (.sl [] .nl)))]) (.nil 3 1))
 (.seq
 (.seq
 (.reg [rg 4 (.mov (.c (.i .i64 0)))])
 (.lp 0 (.norm false [0, 3, 4]) l301_0 (.norm false [3])))
 (.seq
 (.reg [mv 19 3, mv 2 19])
 (.pre (.norm false [2]) .ret)))))
def l302_0 : AX :=
 (.note
 (.seq
 (.seq
 (.reg [mv 11 5, mv 12 0, rg 13 (.len (.t 12)), rg 14 (.bin .lss (.t 11) (.t 13))])
 (.cond (.t 14)
 .skip
 (.exit 0)))
 (.seq
 (.block 1
 (.seq
 (.drawT [mv 17 0, mv 18 5, rg 19 (.iad 1 (.t 17) (.t 18)), rg 20 (.load none (.t 19)), mv 21 1, mv 22 5, rg 23 (.iad 1 (.t 21) (.t 22)),
 rg 24 (.load none (.t 23))]
  [rg 25 (.call 279 [(.t 20), (.t 24)]), rg 26 (.un .not (.t 25))])
 (.cond (.t 26)
 (.seq
 (.reg [rg 4 (.mov (.c (.b false)))])
 (.pre (.norm false [4]) .ret))
 .skip)))
 (.reg [mv 15 5, rg 16 (.bin .add (.t 15) (.c (.i .i64 1))), mv 5 16])))
 (.norm false [0, 1, 5]))
def b302 : AX :=
 (.seq
 (.reg [rg 4 (.mov (.c (.b false)))])
 (.seq
 (.seq
 (.reg [mv 6 0, rg 7 (.len (.t 6)), mv 8 1, rg 9 (.len (.t 8)), rg 10 (.bin .neq (.t 7) (.t 9))])
 (.cond (.t 10)
 (.seq
 (.reg [rg 4 (.mov (.c (.b false)))])
 (.pre (.norm false [4]) .ret))
 .skip))
 (.seq
 (.seq
 (.reg [rg 5 (.mov (.c (.i .i64 0)))])
 (.lp 0 (.norm false [0, 1, 5]) l302_0 (.norm false [])))
 (.seq
 (.reg [rg 4 (.mov (.c (.b true)))])
 (.pre (.norm false [4]) .ret)))))
def l303_0 : AX :=
 (.note
 (.seq
 (.seq
 (.reg [mv 5 4, mv 6 0, rg 7 (.bin .lss (.t 5) (.t 6)), mv 8 7, gd 9 8 true (.mov (.t 4)), gd 10 8 true (.bin .lss (.t 9) (.c (.i .i64 6))),
 rg 11 (.pick (.t 8) (.t 10) (.c (.b false)))])
 (.cond (.t 11)
 .skip
 (.exit 0)))
 (.seq
 (.block 1
 (.reg [mv 14 3, mv 15 0, rg 16 (.mm false [(.t 15), (.c (.i .i64 6))]), mv 17 4, rg 18 (.call 277 [(.t 16), (.t 17)]),
 rg 19 (.bsl 1 [(.sl [] .nl)] 1 [(0, (.t 18))]), rg 20 (.app 1 (.t 14) (.t 19)), mv 3 20]))
 (.reg [mv 12 4, rg 13 (.bin .add (.t 12) (.c (.i .i64 1))), mv 4 13])))
 (.norm false [0, 3, 4]))
def b303 : AX :=
 (.seq
 (.reg [rg 2 (.mov (.c (.sl [] .nl)))])
 (.seq
 (.note (.reg [rg 3 (.mov (.c (.sl [] .nl)))]) (.nil 3 1))
 (.seq
 (.seq
 (.reg [rg 4 (.mov (.c (.i .i64 0)))])
 (.lp 0 (.norm false [0, 3, 4]) l303_0 (.norm false [3])))
 (.seq
 (.reg [mv 21 3, mv 2 21])
 (.pre (.norm false [2]) .ret)))))
def l304_0 : AX :=
 (.note
 (.seq
 (.seq
 (.reg [mv 13 6, mv 14 0, rg 15 (.len (.t 14)), rg 16 (.bin .lss (.t 13) (.t 15))])
 (.cond (.t 16)
 .skip
 (.exit 2)))
 (.seq
 (.block 3
 (.reg [mv 19 5, mv 20 0, mv 21 6, rg 22 (.iad 1 (.t 20) (.t 21)), rg 23 (.load none (.t 22)), mv 24 4, rg 25 (.iad 3 (.t 23) (.t 24)),
 rg 26 (.load (some 3) (.t 25)), rg 27 (.bsl 3 [(.b false), (.sl [] .nl), (.sl [] .nl)] 1 [(0, (.t 26))]), rg 28 (.app 3 (.t 19) (.t 27)), mv 5 28]))
 (.reg [mv 17 6, rg 18 (.bin .add (.t 17) (.c (.i .i64 1))), mv 6 18])))
 (.norm false [0, 3, 4, 5, 6]))
def l304_1 : AX :=
 (.note
 (.seq
 (.seq
 (.reg [mv 7 4, mv 8 0, rg 9 (.call 299 [(.t 8)]), rg 10 (.bin .lss (.t 7) (.t 9))])
 (.cond (.t 10)
 .skip
 (.exit 0)))
 (.seq
 (.block 1
 (.seq
 (.note (.reg [rg 5 (.mov (.c (.sl [] .nl)))]) (.nil 5 3))
 (.seq
 (.seq
 (.reg [rg 6 (.mov (.c (.i .i64 0)))])
 (.lp 2 (.norm false [0, 3, 4, 5, 6]) l304_0 (.norm false [0, 3, 4, 5])))
 (.reg [mv 29 3, mv 30 5, rg 31 (.bsl 1 [(.sl [] .nl)] 1 [(0, (.t 30))]), rg 32 (.app 1 (.t 29) (.t 31)), mv 3 32]))))
 (.reg [mv 11 4, rg 12 (.bin .add (.t 11) (.c (.i .i64 1))), mv 4 12])))
 (.norm false [0, 3, 4]))
def b304 : AX :=
 (.seq
 (.reg [rg 2 (.mov (.c (.sl [] .nl)))])
 (.seq
 (.note (.reg [rg 3 (.mov (.c (.sl [] .nl)))]) (.nil 3 1))
 (.seq
 (.seq
 (.reg [rg 4 (.mov (.c (.i .i64 0)))])
 (.lp 0 (.norm false [0, 3, 4]) l304_1 (.norm false [3])))
 (.seq
 (.reg [mv 33 3, mv 2 33])
 (.pre (.norm false [2]) .ret)))))
def l305_0 : AX :=
 (.note
 (.seq
 (.seq
 (.reg [mv 7 6, mv 8 0, rg 9 (.len (.t 8)), rg 10 (.bin .lss (.t 7) (.t 9))])
 (.cond (.t 10)
 .skip
 (.exit 0)))
 (.seq
 (.block 1
 (.reg [mv 13 5, mv 14 0, mv 15 6, rg 16 (.iad 1 (.t 14) (.t 15)), rg 17 (.load none (.t 16)), mv 18 1, rg 19 (.call 282 [(.t 17), (.t 18)]),
 rg 20 (.bsl 3 [(.b false), (.sl [] .nl), (.sl [] .nl)] 1 [(0, (.t 19))]), rg 21 (.app 3 (.t 13) (.t 20)), mv 5 21]))
 (.reg [mv 11 6, rg 12 (.bin .add (.t 11) (.c (.i .i64 1))), mv 6 12])))
 (.norm false [0, 1, 5, 6]))
def b305 : AX :=
 (.seq
 (.reg [rg 4 (.mov (.c (.sl [] .nl)))])
 (.seq
 (.note (.reg [rg 5 (.mov (.c (.sl [] .nl)))]) (.nil 5 3))
 (.seq
 (.seq
 (.reg [rg 6 (.mov (.c (.i .i64 0)))])
 (.lp 0 (.norm false [0, 1, 5, 6]) l305_0 (.norm false [5])))
 (.seq
 (.reg [mv 22 5, mv 4 22])
 (.pre (.norm false [4]) .ret)))))
def b306 : AX :=
 (.seq
 (.reg [rg 4 (.mov (.c (.sl [] .nl)))])
 (.seq
 (.reg [mv 5 1, rg 6 (.call 304 [(.t 5)]), mv 7 0, rg 8 (.call 305 [(.t 6), (.t 7)]), mv 4 8])
 (.pre (.norm false [4]) .ret)))
def l307_0 : AX :=
 (.note
 (.seq
 (.seq
 (.reg [mv 8 7, mv 9 0, rg 10 (.len (.t 9)), rg 11 (.bin .lss (.t 8) (.t 10)), mv 12 11, gd 13 12 true (.mov (.t 7)), gd 14 12 true (.mov (.t 1)),
 gd 15 12 true (.bin .lss (.t 13) (.t 14)), rg 16 (.pick (.t 12) (.t 15) (.c (.b false)))])
 (.cond (.t 16)
 .skip
 (.exit 0)))
 (.seq
 (.block 1
 (.seq
 (.reg [mv 19 0, mv 20 7, rg 21 (.iad 1 (.t 19) (.t 20)), rg 22 (.load none (.t 21)), mv 23 1, mv 24 2, rg 25 (.call 286 [(.t 22), (.t 23), (.t 24)])])
 (.cond (.t 25)
 (.seq
 (.reg [rg 6 (.mov (.c (.b true)))])
 (.pre (.norm false [6]) .ret))
 .skip)))
 (.reg [mv 17 7, rg 18 (.bin .add (.t 17) (.c (.i .i64 1))), mv 7 18])))
 (.norm false [0, 1, 2, 7]))
def b307 : AX :=
 (.seq
 (.reg [rg 6 (.mov (.c (.b false)))])
 (.seq
 (.seq
 (.reg [rg 7 (.mov (.c (.i .i64 0)))])
 (.lp 0 (.norm false [0, 1, 2, 7]) l307_0 (.norm false [0, 1])))
 (.seq
 (.reg [mv 26 0, rg 27 (.len (.t 26)), mv 28 1, rg 29 (.bin .gtr (.t 27) (.t 28)), mv 6 29])
 (.pre (.norm false [6]) .ret))))
class CRef12 (T : Tbl) : Prop where
  h299 : T 299 = some ⟨1, 10, [.t 2], b299, none, false⟩
  h300 : T 300 = some ⟨1, 20, [.t 2], b300, none, false⟩
  h301 : T 301 = some ⟨1, 20, [.t 2], b301, none, false⟩
  h302 : T 302 = some ⟨2, 27, [.t 4], b302, none, false⟩
  h303 : T 303 = some ⟨1, 22, [.t 2], b303, none, false⟩
  h304 : T 304 = some ⟨1, 34, [.t 2], b304, none, false⟩
  h305 : T 305 = some ⟨2, 23, [.t 4], b305, none, false⟩
  h306 : T 306 = some ⟨2, 9, [.t 4], b306, none, false⟩
  h307 : T 307 = some ⟨3, 30, [.t 6], b307, none, false⟩
section
variable {T : Tbl} [CRef12 T] {d : Option Nat} {st : St} {xs : List AV} {ps : List Opd} {e : Env} {h : Heap} {ol : List Heap}
@[simp] theorem x299 : callX (orc T) T 299 xs d st = cP T 299 false xs d st := callX_pure CRef12.h299
theorem f299 (xs : List AV) (hn : xs.length = 1) : callF T 299 xs = retF [.t 2] false (evX (orc T) T 0 b299 ⟨argEnv xs, [], 1⟩) := callF_eq CRef12.h299 hn
@[simp] theorem x300 : callX (orc T) T 300 xs d st = cP T 300 false xs d st := callX_pure CRef12.h300
theorem f300 (xs : List AV) (hn : xs.length = 1) : callF T 300 xs = retF [.t 2] false (evX (orc T) T 0 b300 ⟨argEnv xs, [], 1⟩) := callF_eq CRef12.h300 hn
@[simp] theorem x301 : callX (orc T) T 301 xs d st = cP T 301 false xs d st := callX_pure CRef12.h301
theorem f301 (xs : List AV) (hn : xs.length = 1) : callF T 301 xs = retF [.t 2] false (evX (orc T) T 0 b301 ⟨argEnv xs, [], 1⟩) := callF_eq CRef12.h301 hn
@[simp] theorem x304 : callX (orc T) T 304 xs d st = cP T 304 false xs d st := callX_pure CRef12.h304
theorem f304 (xs : List AV) (hn : xs.length = 1) : callF T 304 xs = retF [.t 2] false (evX (orc T) T 0 b304 ⟨argEnv xs, [], 1⟩) := callF_eq CRef12.h304 hn
@[simp] theorem x305 : callX (orc T) T 305 xs d st = cP T 305 false xs d st := callX_pure CRef12.h305
theorem f305 (xs : List AV) (hn : xs.length = 2) : callF T 305 xs = retF [.t 4] false (evX (orc T) T 0 b305 ⟨argEnv xs, [], 1⟩) := callF_eq CRef12.h305 hn
@[simp] theorem x306 : callX (orc T) T 306 xs d st = cP T 306 false xs d st := callX_pure CRef12.h306
theorem f306 (xs : List AV) (hn : xs.length = 2) : callF T 306 xs = retF [.t 4] false (evX (orc T) T 0 b306 ⟨argEnv xs, [], 1⟩) := callF_eq CRef12.h306 hn
@[simp] theorem x307 : callX (orc T) T 307 xs d st = cP T 307 false xs d st := callX_pure CRef12.h307
theorem f307 (xs : List AV) (hn : xs.length = 3) : callF T 307 xs = retF [.t 6] false (evX (orc T) T 0 b307 ⟨argEnv xs, [], 1⟩) := callF_eq CRef12.h307 hn
end
end Go.Ab
end

section
namespace Go.Ab
def b248 : AX :=
 (.seq
 (.reg [rg 1 (.xop (.box 3) [(.t 0)]), rg 2 (.alloc [(.b false), (.sl [] .nl), (.sl [] .nl)])])
 (.seq
 (.reg [rg 3 (.fad 0 (.t 1)), rg 4 (.load none (.t 3)), rg 5 (.fad 1 (.t 1)), rg 6 (.load none (.t 5)),
 rg 7 (.build [(.b false), (.sl [] .nl)] [(0, 1, (.t 4)), (1, 1, (.t 6))]), rg 8 (.fad 2 (.t 1)), rg 9 (.load none (.t 8)),
 rg 10 (.build [(.b false), (.sl [] .nl), (.sl [] .nl)] [(0, 2, (.t 7)), (2, 1, (.t 9))]), so (.store 3 (.t 2) (.t 10))])
 (.pre (.norm false [2]) .ret)))
def b249 : AX :=
 (.seq
 (.reg [rg 1 (.xop (.box 3) [(.t 0)]), rg 2 (.alloc [(.b false), (.sl [] .nl), (.sl [] .nl)])])
 (.seq
 (.reg [rg 3 (.fad 0 (.t 1)), rg 4 (.fad 0 (.t 3)), rg 5 (.load none (.t 4)), rg 6 (.fad 0 (.t 1)), rg 7 (.fad 1 (.t 6)), rg 8 (.load none (.t 7)),
 rg 9 (.fad 2 (.t 1)), rg 10 (.load none (.t 9)),
 rg 11 (.build [(.b false), (.sl [] .nl), (.sl [] .nl)] [(0, 1, (.t 5)), (1, 1, (.t 8)), (2, 1, (.t 10))]), so (.store 3 (.t 2) (.t 11))])
 (.pre (.norm false [2]) .ret)))
class CLaw09 (T : Tbl) : Prop where
  h248 : T 248 = some ⟨1, 11, [.cell 2 (some 3)], b248, none, false⟩
  h249 : T 249 = some ⟨1, 12, [.cell 2 (some 3)], b249, none, false⟩
section
variable {T : Tbl} [CLaw09 T] {d : Option Nat} {st : St} {xs : List AV} {ps : List Opd} {e : Env} {h : Heap} {ol : List Heap}
@[simp] theorem x248 : callX (orc T) T 248 xs d st = cP T 248 false xs d st := callX_pure CLaw09.h248
theorem f248 (xs : List AV) (hn : xs.length = 1) : callF T 248 xs = retF [.cell 2 (some 3)] false (evX (orc T) T 0 b248 ⟨argEnv xs, [], 1⟩) := callF_eq CLaw09.h248 hn
@[simp] theorem x249 : callX (orc T) T 249 xs d st = cP T 249 false xs d st := callX_pure CLaw09.h249
theorem f249 (xs : List AV) (hn : xs.length = 1) : callF T 249 xs = retF [.cell 2 (some 3)] false (evX (orc T) T 0 b249 ⟨argEnv xs, [], 1⟩) := callF_eq CLaw09.h249 hn
end
end Go.Ab
end

section
namespace Go.Ab
def l287_0 : AX :=
 (.note
 (.seq
 (.seq
 (.reg [mv 5 4, mv 6 0, rg 7 (.len (.t 6)), rg 8 (.bin .lss (.t 5) (.t 7))])
 (.cond (.t 8)
 .skip
 (.exit 0)))
 (.seq
 (.block 1
 (.reg [mv 11 3, mv 12 0, mv 13 4, rg 14 (.iad 3 (.t 12) (.t 13)), rg 15 (.load (some 3) (.t 14)), rg 16 (.call 248 [(.t 15)]),
 rg 17 (.bsl 3 [(.b false), (.sl [] .nl), (.sl [] .nl)] 1 [(0, (.t 16))]), rg 18 (.app 3 (.t 11) (.t 17)), mv 3 18]))
 (.reg [mv 9 4, rg 10 (.bin .add (.t 9) (.c (.i .i64 1))), mv 4 10])))
 (.norm false [0, 3, 4]))
def b287 : AX :=
 (.seq
 (.reg [rg 2 (.mov (.c (.sl [] .nl)))])
 (.seq
 (.note (.reg [rg 3 (.mov (.c (.sl [] .nl)))]) (.nil 3 3))
 (.seq
 (.seq
 (.reg [rg 4 (.mov (.c (.i .i64 0)))])
 (.lp 0 (.norm false [0, 3, 4]) l287_0 (.norm false [3])))
 (.seq
 (.reg [mv 19 3, mv 2 19])
 (.pre (.norm false [2]) .ret)))))
def l288_0 : AX :=
 (.note
 (.seq
 (.seq
 (.reg [mv 5 4, mv 6 0, rg 7 (.len (.t 6)), rg 8 (.bin .lss (.t 5) (.t 7))])
 (.cond (.t 8)
 .skip
 (.exit 0)))
 (.seq
 (.block 1
 (.reg [mv 11 3, mv 12 0, mv 13 4, rg 14 (.iad 3 (.t 12) (.t 13)), rg 15 (.load (some 3) (.t 14)), rg 16 (.call 249 [(.t 15)]),
 rg 17 (.bsl 3 [(.b false), (.sl [] .nl), (.sl [] .nl)] 1 [(0, (.t 16))]), rg 18 (.app 3 (.t 11) (.t 17)), mv 3 18]))
 (.reg [mv 9 4, rg 10 (.bin .add (.t 9) (.c (.i .i64 1))), mv 4 10])))
 (.norm false [0, 3, 4]))
def b288 : AX :=
 (.seq
 (.reg [rg 2 (.mov (.c (.sl [] .nl)))])
 (.seq
 (.note (.reg [rg 3 (.mov (.c (.sl [] .nl)))]) (.nil 3 3))
 (.seq
 (.seq
 (.reg [rg 4 (.mov (.c (.i .i64 0)))])
 (.lp 0 (.norm false [0, 3, 4]) l288_0 (.norm false [3])))
 (.seq
 (.reg [mv 19 3, mv 2 19])
 (.pre (.norm false [2]) .ret)))))
def b289 : AX :=
 (.seq
 (.reg [rg 4 (.mov (.c (.b false)))])
 (.seq
 (.reg [mv 5 0, rg 6 (.call 288 [(.t 5)]), mv 7 1, rg 8 (.call 279 [(.t 6), (.t 7)]), mv 4 8])
 (.pre (.norm false [4]) .ret)))
class CLaw11 (T : Tbl) : Prop where
  h287 : T 287 = some ⟨1, 20, [.t 2], b287, none, false⟩
  h288 : T 288 = some ⟨1, 20, [.t 2], b288, none, false⟩
  h289 : T 289 = some ⟨2, 9, [.t 4], b289, none, false⟩
section
variable {T : Tbl} [CLaw11 T] {d : Option Nat} {st : St} {xs : List AV} {ps : List Opd} {e : Env} {h : Heap} {ol : List Heap}
@[simp] theorem x287 : callX (orc T) T 287 xs d st = cP T 287 false xs d st := callX_pure CLaw11.h287
theorem f287 (xs : List AV) (hn : xs.length = 1) : callF T 287 xs = retF [.t 2] false (evX (orc T) T 0 b287 ⟨argEnv xs, [], 1⟩) := callF_eq CLaw11.h287 hn
@[simp] theorem x288 : callX (orc T) T 288 xs d st = cP T 288 false xs d st := callX_pure CLaw11.h288
theorem f288 (xs : List AV) (hn : xs.length = 1) : callF T 288 xs = retF [.t 2] false (evX (orc T) T 0 b288 ⟨argEnv xs, [], 1⟩) := callF_eq CLaw11.h288 hn
@[simp] theorem x289 : callX (orc T) T 289 xs d st = cP T 289 false xs d st := callX_pure CLaw11.h289
theorem f289 (xs : List AV) (hn : xs.length = 2) : callF T 289 xs = retF [.t 4] false (evX (orc T) T 0 b289 ⟨argEnv xs, [], 1⟩) := callF_eq CLaw11.h289 hn
end
end Go.Ab
end

section
namespace Go.Ab
def l308_0 : AX :=
 (.note
 (.seq
 (.seq
 (.reg [mv 5 4, mv 6 0, rg 7 (.len (.t 6)), rg 8 (.bin .lss (.t 5) (.t 7))])
 (.cond (.t 8)
 .skip
 (.exit 0)))
 (.seq
 (.block 1
 (.reg [mv 11 3, mv 12 0, mv 13 4, rg 14 (.iad 1 (.t 12) (.t 13)), rg 15 (.load none (.t 14)), rg 16 (.call 287 [(.t 15)]),
 rg 17 (.bsl 1 [(.sl [] .nl)] 1 [(0, (.t 16))]), rg 18 (.app 1 (.t 11) (.t 17)), mv 3 18]))
 (.reg [mv 9 4, rg 10 (.bin .add (.t 9) (.c (.i .i64 1))), mv 4 10])))
 (.norm false [0, 3, 4]))
def b308 : AX :=
 (.seq
 (.reg [rg 2 (.mov (.c (.sl [] .nl)))])
 (.seq
 (.note (.reg [rg 3 (.mov (.c (.sl [] .nl)))]) (.nil 3 1))
 (.seq
 (.seq
 (.reg [rg 4 (.mov (.c (.i .i64 0)))])
 (.lp 0 (.norm false [0, 3, 4]) l308_0 (.norm false [3])))
 (.seq
 (.reg [mv 19 3, mv 2 19])
 (.pre (.norm false [2]) .ret)))))
def l309_0 : AX :=
 (.note
 (.seq
 (.seq
 (.reg [mv 11 5, mv 12 0, rg 13 (.len (.t 12)), rg 14 (.bin .lss (.t 11) (.t 13))])
 (.cond (.t 14)
 .skip
 (.exit 0)))
 (.seq
 (.block 1
 (.seq
 (.drawT [mv 17 0, mv 18 5, rg 19 (.iad 1 (.t 17) (.t 18)), rg 20 (.load none (.t 19)), mv 21 1, mv 22 5, rg 23 (.iad 1 (.t 21) (.t 22)),
 rg 24 (.load none (.t 23))]
  [rg 25 (.call 289 [(.t 20), (.t 24)]), rg 26 (.un .not (.t 25))])
 (.cond (.t 26)
 (.seq
 (.reg [rg 4 (.mov (.c (.b false)))])
 (.pre (.norm false [4]) .ret))
 .skip)))
 (.reg [mv 15 5, rg 16 (.bin .add (.t 15) (.c (.i .i64 1))), mv 5 16])))
 (.norm false [0, 1, 5]))
def b309 : AX :=
 (.seq
 (.reg [rg 4 (.mov (.c (.b false)))])
 (.seq
 (.seq
 (.reg [mv 6 0, rg 7 (.len (.t 6)), mv 8 1, rg 9 (.len (.t 8)), rg 10 (.bin .neq (.t 7) (.t 9))])
 (.cond (.t 10)
 (.seq
 (.reg [rg 4 (.mov (.c (.b false)))])
 (.pre (.norm false [4]) .ret))
 .skip))
 (.seq
 (.seq
 (.reg [rg 5 (.mov (.c (.i .i64 0)))])
 (.lp 0 (.norm false [0, 1, 5]) l309_0 (.norm false [])))
 (.seq
 (.reg [rg 4 (.mov (.c (.b true)))])
 (.pre (.norm false [4]) .ret)))))
def b310 : AX :=
 (.seq
 (.reg [rg 0 (.mov (.c (.b false)))])
 (.seq
 (.reg [rg 7 (.call 264 [(.c (.i .i64 2)), (.c (.i .i64 0))]), mv 1 7])
 (.seq
 (.reg [mv 8 1, rg 9 (.call 205 [(.c (.i .i64 3))]), mv 10 1, rg 11 (.call 269 [(.t 9), (.t 10)]), rg 12 (.bsl 1 [(.sl [] .nl)] 2 [(0, (.t 8)), (1, (.t 11))]),
 mv 2 12])
 (.seq
 (.reg [rg 14 (.call 292 [(.c (.i .i64 2))]), mv 15 2, rg 16 (.call 297 [(.t 14), (.t 15)]), mv 13 16, rg 17 (.ext (.t 13) 0), rg 18 (.ext (.t 13) 1), mv 3 17,
 mv 4 18])
 (.seq
 (.reg [rg 20 (.call 205 [(.c (.i .i64 1))]), rg 21 (.call 205 [(.c (.i .i64 1))]),
 rg 22 (.bsl 3 [(.b false), (.sl [] .nl), (.sl [] .nl)] 2 [(0, (.t 20)), (1, (.t 21))]), mv 23 2, rg 24 (.call 295 [(.t 22), (.t 23)]), mv 19 24,
 rg 25 (.ext (.t 19) 0), rg 26 (.ext (.t 19) 1), mv 5 25, mv 6 26])
 (.seq
 (.reg [mv 27 4, mv 28 27, gd 29 28 true (.mov (.t 3)), gd 30 28 true (.mov (.t 2)), gd 31 28 true (.call 293 [(.t 29), (.t 30)]),
 rg 32 (.pick (.t 28) (.t 31) (.c (.b false))), mv 33 32, gd 34 33 true (.mov (.t 6)), rg 35 (.pick (.t 33) (.t 34) (.c (.b false))), mv 36 35,
 gd 37 36 true (.mov (.t 5)), gd 38 36 true (.call 274 [(.t 37)]), gd 39 36 true (.bin .eql (.t 38) (.c (.s [52, 44, 48]))),
 rg 40 (.pick (.t 36) (.t 39) (.c (.b false))), mv 0 40])
 (.pre (.norm false [0]) .ret)))))))
def l312_0 : AX :=
 (.note
 (.seq
 (.seq
 (.reg [mv 99 16, mv 100 0, rg 101 (.len (.t 100)), rg 102 (.bin .lss (.t 99) (.t 101))])
 (.cond (.t 102)
 .skip
 (.exit 0)))
 (.seq
 (.block 1
 (.seq
 (.seq
 (.reg [mv 105 10])
 (.cond (.t 105)
 (.reg [mv 106 12, mv 107 14, mv 108 16, rg 109 (.iad 1 (.t 107) (.t 108)), rg 110 (.load none (.t 109)), mv 111 15, rg 112 (.call 306 [(.t 110), (.t 111)]),
 rg 113 (.bsl 1 [(.sl [] .nl)] 1 [(0, (.t 112))]), rg 114 (.app 1 (.t 106) (.t 113)), mv 12 114])
 .skip))
 (.seq
 (.reg [mv 115 11])
 (.cond (.t 115)
 (.drawT [mv 116 13, mv 117 14, mv 118 16, rg 119 (.iad 1 (.t 117) (.t 118)), rg 120 (.load none (.t 119)), mv 121 15, mv 122 16,
 rg 123 (.iad 1 (.t 121) (.t 122)), rg 124 (.load none (.t 123)), rg 125 (.call 280 [(.t 120), (.t 124)]),
 rg 126 (.bsl 1 [(.sl [] .nl)] 1 [(0, (.t 125))])]
  [rg 127 (.app 1 (.t 116) (.t 126)), mv 13 127])
 .skip))))
 (.reg [mv 103 16, rg 104 (.bin .add (.t 103) (.c (.i .i64 1))), mv 16 104])))
 (.norm false [0, 5, 7, 10, 11, 12, 13, 14, 15, 16]))
def b312 : AX :=
 (.seq
 (.reg [rg 4 (.mov (.c (.b false)))])
 (.seq
 (.seq
 (.reg [mv 17 0, rg 18 (.call 307 [(.t 17), (.c (.i .i64 6)), (.c (.i .i64 3))]), mv 19 18, gd 20 19 false (.mov (.t 1)),
 gd 21 19 false (.call 307 [(.t 20), (.c (.i .i64 6)), (.c (.i .i64 3))]), rg 22 (.pick (.t 19) (.c (.b true)) (.t 21))])
 (.cond (.t 22)
 (.seq
 (.reg [rg 23 (.call 310 []), mv 4 23])
 (.pre (.norm false [4]) .ret))
 .skip))
 (.seq
 (.reg [mv 25 0, rg 26 (.call 308 [(.t 25)]), mv 27 1, rg 28 (.call 308 [(.t 27)]), rg 29 (.call 297 [(.t 26), (.t 28)]), mv 24 29, rg 30 (.ext (.t 24) 0),
 rg 31 (.ext (.t 24) 1), mv 5 30, mv 6 31])
 (.seq
 (.reg [mv 33 0, rg 34 (.call 308 [(.t 33)]), mv 35 1, rg 36 (.call 308 [(.t 35)]), rg 37 (.call 298 [(.t 34), (.t 36)]), mv 32 37, rg 38 (.ext (.t 32) 0),
 rg 39 (.ext (.t 32) 1), mv 7 38, mv 8 39])
 (.seq
 (.reg [mv 40 0, rg 41 (.call 300 [(.t 40)]), mv 42 41, gd 43 42 true (.mov (.t 1)), gd 44 42 true (.call 300 [(.t 43)]),
 rg 45 (.pick (.t 42) (.t 44) (.c (.b false))), mv 9 45])
 (.seq
 (.reg [mv 46 9, mv 47 46, gd 48 47 true (.mov (.t 0)), gd 49 47 true (.call 299 [(.t 48)]), gd 50 47 true (.mov (.t 1)), gd 51 47 true (.len (.t 50)),
 gd 52 47 true (.bin .eql (.t 49) (.t 51)), rg 53 (.pick (.t 47) (.t 52) (.c (.b false))), mv 10 53])
 (.seq
 (.reg [mv 54 9, mv 55 54, gd 56 55 true (.mov (.t 0)), gd 57 55 true (.len (.t 56)), gd 58 55 true (.mov (.t 1)), gd 59 55 true (.len (.t 58)),
 gd 60 55 true (.bin .eql (.t 57) (.t 59)), rg 61 (.pick (.t 55) (.t 60) (.c (.b false))), mv 62 61, gd 63 62 true (.mov (.t 0)),
 gd 64 62 true (.call 299 [(.t 63)]), gd 65 62 true (.mov (.t 1)), gd 66 62 true (.call 299 [(.t 65)]), gd 67 62 true (.bin .eql (.t 64) (.t 66)),
 rg 68 (.pick (.t 62) (.t 67) (.c (.b false))), mv 11 68])
 (.seq
 (.seq
 (.reg [mv 69 6, mv 70 10, rg 71 (.eqb true (.t 69) (.t 70)), mv 72 71, gd 73 72 false (.mov (.t 8)), gd 74 72 false (.mov (.t 11)),
 gd 75 72 false (.eqb true (.t 73) (.t 74)), rg 76 (.pick (.t 72) (.c (.b true)) (.t 75)), mv 77 76, gd 78 77 false (.mov (.t 10)),
 gd 79 77 false (.un .not (.t 78)), gd 80 77 false (.mov (.t 79)), gd 81 80 true (.mov (.t 5)), gd 82 80 true (.len (.t 81)),
 gd 83 80 true (.bin .neq (.t 82) (.c (.i .i64 0))), gd 84 77 false (.pick (.t 80) (.t 83) (.c (.b false))), rg 85 (.pick (.t 77) (.c (.b true)) (.t 84)),
 mv 86 85, gd 87 86 false (.mov (.t 11)), gd 88 86 false (.un .not (.t 87)), gd 89 86 false (.mov (.t 88)), gd 90 89 true (.mov (.t 7)),
 gd 91 89 true (.len (.t 90)), gd 92 89 true (.bin .neq (.t 91) (.c (.i .i64 0))), gd 93 86 false (.pick (.t 89) (.t 92) (.c (.b false))),
 rg 94 (.pick (.t 86) (.c (.b true)) (.t 93))])
 (.cond (.t 94)
 (.seq
 (.reg [rg 4 (.mov (.c (.b false)))])
 (.pre (.norm false [4]) .ret))
 .skip))
 (.seq
 (.note (.reg [rg 12 (.mov (.c (.sl [] .nl)))]) (.nil 12 1))
 (.seq
 (.note (.reg [rg 13 (.mov (.c (.sl [] .nl)))]) (.nil 13 1))
 (.seq
 (.reg [mv 95 0, rg 96 (.call 301 [(.t 95)]), mv 14 96])
 (.seq
 (.reg [mv 97 1, rg 98 (.call 301 [(.t 97)]), mv 15 98])
 (.seq
 (.seq
 (.reg [rg 16 (.mov (.c (.i .i64 0)))])
 (.lp 0 (.norm false [0, 5, 7, 10, 11, 12, 13, 14, 15, 16]) l312_0 (.norm false [5, 7, 12, 13])))
 (.seq
 (.reg [mv 128 5, mv 129 12, rg 130 (.call 309 [(.t 128), (.t 129)]), mv 131 130, gd 132 131 true (.mov (.t 7)), gd 133 131 true (.mov (.t 13)),
 gd 134 131 true (.call 309 [(.t 132), (.t 133)]), rg 135 (.pick (.t 131) (.t 134) (.c (.b false))), mv 136 135, gd 137 136 true (.call 310 []),
 rg 138 (.pick (.t 136) (.t 137) (.c (.b false))), mv 4 138])
 (.pre (.norm false [4]) .ret)))))))))))))))
def b313 : AX :=
 (.seq
 (.reg [rg 6 (.mov (.c (.b false)))])
 (.seq
 (.seq
 (.reg [mv 9 0, rg 10 (.call 307 [(.t 9), (.c (.i .i64 8)), (.c (.i .i64 4))]), mv 11 10, gd 12 11 false (.mov (.t 1)),
 gd 13 11 false (.call 307 [(.t 12), (.c (.i .i64 8)), (.c (.i .i64 4))]), rg 14 (.pick (.t 11) (.c (.b true)) (.t 13))])
 (.cond (.t 14)
 (.seq
 (.reg [rg 15 (.call 310 []), mv 6 15])
 (.pre (.norm false [6]) .ret))
 .skip))
 (.seq
 (.reg [mv 16 0, rg 17 (.call 301 [(.t 16)]), mv 7 17])
 (.seq
 (.reg [mv 18 0, rg 19 (.call 308 [(.t 18)]), rg 20 (.call 294 [(.t 19)]), mv 8 20])
 (.seq
 (.seq
 (.reg [mv 21 0, rg 22 (.call 300 [(.t 21)]), rg 23 (.un .not (.t 22)), mv 24 23, gd 25 24 true (.mov (.t 8)), gd 26 24 true (.len (.t 25)),
 gd 27 24 true (.bin .neq (.t 26) (.c (.i .i64 0))), rg 28 (.pick (.t 24) (.t 27) (.c (.b false))), mv 29 28, gd 30 29 false (.mov (.t 0)),
 gd 31 29 false (.call 300 [(.t 30)]), gd 32 29 false (.mov (.t 31)), gd 33 32 true (.mov (.t 8)), gd 34 32 true (.mov (.t 7)),
 gd 35 32 true (.call 304 [(.t 34)]), gd 36 32 true (.call 309 [(.t 33), (.t 35)]), gd 37 32 true (.un .not (.t 36)),
 gd 38 29 false (.pick (.t 32) (.t 37) (.c (.b false))), rg 39 (.pick (.t 29) (.c (.b true)) (.t 38))])
 (.cond (.t 39)
 (.seq
 (.reg [rg 6 (.mov (.c (.b false)))])
 (.pre (.norm false [6]) .ret))
 .skip))
 (.seq
 (.reg [mv 40 0, rg 41 (.call 308 [(.t 40)]), rg 42 (.call 291 [(.t 41)]), mv 43 0, rg 44 (.call 300 [(.t 43)]), rg 45 (.eqb false (.t 42) (.t 44)), mv 46 45,
 gd 47 46 true (.mov (.t 0)), gd 48 46 true (.call 308 [(.t 47)]), gd 49 46 true (.call 290 [(.t 48)]), gd 50 46 true (.mov (.t 0)),
 gd 51 46 true (.call 299 [(.t 50)]), gd 52 46 true (.bin .eql (.t 49) (.t 51)), rg 53 (.pick (.t 46) (.t 52) (.c (.b false))), mv 54 53,
 gd 55 54 true (.mov (.t 0)), gd 56 54 true (.call 308 [(.t 55)]), gd 57 54 true (.mov (.t 1)), gd 58 54 true (.call 308 [(.t 57)]),
 gd 59 54 true (.call 293 [(.t 56), (.t 58)]), gd 60 54 true (.mov (.t 7)), gd 61 54 true (.mov (.t 1)), gd 62 54 true (.call 301 [(.t 61)]),
 gd 63 54 true (.call 302 [(.t 60), (.t 62)]), gd 64 54 true (.eqb false (.t 59) (.t 63)), rg 65 (.pick (.t 54) (.t 64) (.c (.b false))), mv 66 65,
 gd 67 66 true (.mov (.t 2)), gd 68 66 true (.call 292 [(.t 67)]), gd 69 66 true (.mov (.t 2)), gd 70 66 true (.call 303 [(.t 69)]),
 gd 71 66 true (.call 309 [(.t 68), (.t 70)]), rg 72 (.pick (.t 66) (.t 71) (.c (.b false))), mv 73 72, gd 74 73 true (.call 310 []),
 rg 75 (.pick (.t 73) (.t 74) (.c (.b false))), mv 6 75])
 (.pre (.norm false [6]) .ret)))))))
def b314 : AX :=
 (.seq
 (.reg [rg 4 (.mov (.c (.b false)))])
 (.seq
 (.seq
 (.reg [mv 13 0, rg 14 (.call 307 [(.t 13), (.c (.i .i64 8)), (.c (.i .i64 3))]), mv 15 14, gd 16 15 false (.mov (.t 1)),
 gd 17 15 false (.call 286 [(.t 16), (.c (.i .i64 8)), (.c (.i .i64 3))]), rg 18 (.pick (.t 15) (.c (.b true)) (.t 17))])
 (.cond (.t 18)
 (.seq
 (.reg [rg 19 (.call 310 []), mv 4 19])
 (.pre (.norm false [4]) .ret))
 .skip))
 (.seq
 (.reg [mv 21 1, rg 22 (.call 287 [(.t 21)]), mv 23 0, rg 24 (.call 308 [(.t 23)]), rg 25 (.call 295 [(.t 22), (.t 24)]), mv 20 25, rg 26 (.ext (.t 20) 0),
 rg 27 (.ext (.t 20) 1), mv 5 26, mv 6 27])
 (.seq
 (.reg [mv 29 0, rg 30 (.call 308 [(.t 29)]), mv 31 1, rg 32 (.call 287 [(.t 31)]), rg 33 (.call 296 [(.t 30), (.t 32)]), mv 28 33, rg 34 (.ext (.t 28) 0),
 rg 35 (.ext (.t 28) 1), mv 7 34, mv 8 35])
 (.seq
 (.reg [mv 36 0, rg 37 (.call 300 [(.t 36)]), mv 38 37, gd 39 38 true (.mov (.t 1)), gd 40 38 true (.len (.t 39)), gd 41 38 true (.mov (.t 0)),
 gd 42 38 true (.len (.t 41)), gd 43 38 true (.bin .eql (.t 40) (.t 42)), rg 44 (.pick (.t 38) (.t 43) (.c (.b false))), mv 9 44])
 (.seq
 (.reg [mv 45 0, rg 46 (.call 300 [(.t 45)]), mv 47 46, gd 48 47 true (.mov (.t 1)), gd 49 47 true (.len (.t 48)), gd 50 47 true (.mov (.t 0)),
 gd 51 47 true (.call 299 [(.t 50)]), gd 52 47 true (.bin .eql (.t 49) (.t 51)), rg 53 (.pick (.t 47) (.t 52) (.c (.b false))), mv 10 53])
 (.seq
 (.reg [mv 54 0, rg 55 (.call 301 [(.t 54)]), mv 11 55])
 (.seq
 (.reg [mv 56 1, rg 57 (.call 278 [(.t 56)]), mv 12 57])
 (.seq
 (.seq
 (.reg [mv 58 6, mv 59 9, rg 60 (.eqb true (.t 58) (.t 59)), mv 61 60, gd 62 61 false (.mov (.t 8)), gd 63 61 false (.mov (.t 10)),
 gd 64 61 false (.eqb true (.t 62) (.t 63)), rg 65 (.pick (.t 61) (.c (.b true)) (.t 64)), mv 66 65, gd 67 66 false (.mov (.t 9)),
 gd 68 66 false (.un .not (.t 67)), gd 69 66 false (.mov (.t 68)), gd 70 69 true (.mov (.t 5)), gd 71 69 true (.len (.t 70)),
 gd 72 69 true (.bin .neq (.t 71) (.c (.i .i64 0))), gd 73 66 false (.pick (.t 69) (.t 72) (.c (.b false))), rg 74 (.pick (.t 66) (.c (.b true)) (.t 73)),
 mv 75 74, gd 76 75 false (.mov (.t 10)), gd 77 75 false (.un .not (.t 76)), gd 78 75 false (.mov (.t 77)), gd 79 78 true (.mov (.t 7)),
 gd 80 78 true (.len (.t 79)), gd 81 78 true (.bin .neq (.t 80) (.c (.i .i64 0))), gd 82 75 false (.pick (.t 78) (.t 81) (.c (.b false))),
 rg 83 (.pick (.t 75) (.c (.b true)) (.t 82))])
 (.cond (.t 83)
 (.seq
 (.reg [rg 4 (.mov (.c (.b false)))])
 (.pre (.norm false [4]) .ret))
 .skip))
 (.seq
 (.reg [mv 84 9, rg 85 (.un .not (.t 84)), mv 86 85, gd 87 86 false (.mov (.t 5)), gd 88 86 false (.mov (.t 12)), gd 89 86 false (.mov (.t 11)),
 gd 90 86 false (.call 306 [(.t 88), (.t 89)]), gd 91 86 false (.call 289 [(.t 87), (.t 90)]), rg 92 (.pick (.t 86) (.c (.b true)) (.t 91)), mv 93 92,
 gd 94 93 true (.mov (.t 10)), gd 95 93 true (.un .not (.t 94)), gd 96 93 true (.mov (.t 95)), gd 97 96 false (.mov (.t 7)),
 gd 98 96 false (.mov (.t 11)), gd 99 96 false (.mov (.t 12)), gd 100 96 false (.call 305 [(.t 98), (.t 99)]),
 gd 101 96 false (.call 289 [(.t 97), (.t 100)]), gd 102 93 true (.pick (.t 96) (.c (.b true)) (.t 101)), rg 103 (.pick (.t 93) (.t 102) (.c (.b false))),
 mv 104 103, gd 105 104 true (.call 310 []), rg 106 (.pick (.t 104) (.t 105) (.c (.b false))), mv 4 106])
 (.pre (.norm false [4]) .ret)))))))))))
def b316 : AX :=
 (.seq
 (.reg [rg 6 (.mov (.c (.b false)))])
 (.seq
 (.reg [mv 29 2, rg 30 (.len (.t 29)), mv 7 30])
 (.seq
 (.seq
 (.reg [mv 31 0, rg 32 (.call 307 [(.t 31), (.c (.i .i64 4)), (.c (.i .i64 2))]), mv 33 32, gd 34 33 false (.mov (.t 1)),
 gd 35 33 false (.call 307 [(.t 34), (.c (.i .i64 4)), (.c (.i .i64 2))]), rg 36 (.pick (.t 33) (.c (.b true)) (.t 35)), mv 37 36,
 gd 38 37 false (.mov (.t 2)), gd 39 37 false (.call 286 [(.t 38), (.c (.i .i64 4)), (.c (.i .i64 2))]), rg 40 (.pick (.t 37) (.c (.b true)) (.t 39)),
 mv 41 40, gd 42 41 false (.mov (.t 0)), gd 43 41 false (.call 300 [(.t 42)]), gd 44 41 false (.un .not (.t 43)),
 rg 45 (.pick (.t 41) (.c (.b true)) (.t 44)), mv 46 45, gd 47 46 false (.mov (.t 1)), gd 48 46 false (.call 300 [(.t 47)]),
 gd 49 46 false (.un .not (.t 48)), rg 50 (.pick (.t 46) (.c (.b true)) (.t 49)), mv 51 50, gd 52 51 false (.mov (.t 0)), gd 53 51 false (.len (.t 52)),
 gd 54 51 false (.mov (.t 7)), gd 55 51 false (.bin .neq (.t 53) (.t 54)), rg 56 (.pick (.t 51) (.c (.b true)) (.t 55)), mv 57 56,
 gd 58 57 false (.mov (.t 1)), gd 59 57 false (.len (.t 58)), gd 60 57 false (.mov (.t 7)), gd 61 57 false (.bin .neq (.t 59) (.t 60)),
 rg 62 (.pick (.t 57) (.c (.b true)) (.t 61)), mv 63 62, gd 64 63 false (.mov (.t 0)), gd 65 63 false (.call 299 [(.t 64)]), gd 66 63 false (.mov (.t 7)),
 gd 67 63 false (.bin .neq (.t 65) (.t 66)), rg 68 (.pick (.t 63) (.c (.b true)) (.t 67)), mv 69 68, gd 70 69 false (.mov (.t 1)),
 gd 71 69 false (.call 299 [(.t 70)]), gd 72 69 false (.mov (.t 7)), gd 73 69 false (.bin .neq (.t 71) (.t 72)),
 rg 74 (.pick (.t 69) (.c (.b true)) (.t 73))])
 (.cond (.t 74)
 (.seq
 (.reg [rg 75 (.call 310 []), mv 6 75])
 (.pre (.norm false [6]) .ret))
 .skip))
 (.seq
 (.reg [mv 76 0, rg 77 (.call 308 [(.t 76)]), mv 8 77])
 (.seq
 (.reg [mv 78 1, rg 79 (.call 308 [(.t 78)]), mv 9 79])
 (.seq
 (.reg [mv 80 2, rg 81 (.call 287 [(.t 80)]), mv 10 81])
 (.seq
 (.reg [mv 83 10, mv 84 8, rg 85 (.call 295 [(.t 83), (.t 84)]), mv 82 85, rg 86 (.ext (.t 82) 0), rg 87 (.ext (.t 82) 1), mv 11 86, mv 12 87])
 (.seq
 (.reg [mv 89 8, mv 90 10, rg 91 (.call 296 [(.t 89), (.t 90)]), mv 88 91, rg 92 (.ext (.t 88) 0), rg 93 (.ext (.t 88) 1), mv 13 92, mv 14 93])
 (.seq
 (.reg [mv 95 11, mv 96 10, rg 97 (.call 270 [(.t 95), (.t 96)]), mv 94 97, rg 98 (.ext (.t 94) 0), rg 99 (.ext (.t 94) 1),
 rg 15 (.alloc [(.b false), (.sl [] .nl), (.sl [] .nl)]), so (.store 3 (.t 15) (.t 98)), mv 16 99])
 (.seq
 (.reg [mv 101 10, mv 102 13, rg 103 (.call 270 [(.t 101), (.t 102)]), mv 100 103, rg 104 (.ext (.t 100) 0), rg 105 (.ext (.t 100) 1),
 rg 17 (.alloc [(.b false), (.sl [] .nl), (.sl [] .nl)]), so (.store 3 (.t 17) (.t 104)), mv 18 105])
 (.seq
 (.seq
 (.reg [mv 106 12, rg 107 (.un .not (.t 106)), mv 108 107, gd 109 108 false (.mov (.t 14)), gd 110 108 false (.un .not (.t 109)),
 rg 111 (.pick (.t 108) (.c (.b true)) (.t 110)), mv 112 111, gd 113 112 false (.mov (.t 16)), gd 114 112 false (.un .not (.t 113)),
 rg 115 (.pick (.t 112) (.c (.b true)) (.t 114)), mv 116 115, gd 117 116 false (.mov (.t 18)), gd 118 116 false (.un .not (.t 117)),
 rg 119 (.pick (.t 116) (.c (.b true)) (.t 118)), mv 120 119, gd 121 120 false (.load (some 3) (.t 15)), gd 122 120 false (.load (some 3) (.t 17)),
 gd 123 120 false (.call 212 [(.t 121), (.t 122)]), gd 124 120 false (.un .not (.t 123)), rg 125 (.pick (.t 120) (.c (.b true)) (.t 124))])
 (.cond (.t 125)
 (.seq
 (.reg [rg 6 (.mov (.c (.b false)))])
 (.pre (.norm false [6]) .ret))
 .skip))
 (.seq
 (.reg [mv 127 8, mv 128 9, rg 129 (.call 297 [(.t 127), (.t 128)]), mv 126 129, rg 130 (.ext (.t 126) 0), rg 131 (.ext (.t 126) 1), mv 19 130, mv 20 131])
 (.seq
 (.reg [mv 133 9, rg 134 (.call 294 [(.t 133)]), mv 135 8, rg 136 (.call 294 [(.t 135)]), rg 137 (.call 297 [(.t 134), (.t 136)]), mv 132 137,
 rg 138 (.ext (.t 132) 0), rg 139 (.ext (.t 132) 1), mv 21 138, mv 22 139])
 (.seq
 (.reg [mv 141 19, mv 142 8, rg 143 (.call 297 [(.t 141), (.t 142)]), mv 140 143, rg 144 (.ext (.t 140) 0), rg 145 (.ext (.t 140) 1), mv 23 144, mv 24 145])
 (.seq
 (.reg [mv 147 9, mv 148 8, rg 149 (.call 297 [(.t 147), (.t 148)]), mv 146 149, rg 150 (.ext (.t 146) 0), rg 151 (.ext (.t 146) 1), mv 25 150, mv 26 151])
 (.seq
 (.reg [mv 153 8, mv 154 25, rg 155 (.call 297 [(.t 153), (.t 154)]), mv 152 155, rg 156 (.ext (.t 152) 0), rg 157 (.ext (.t 152) 1), mv 27 156, mv 28 157])
 (.seq
 (.reg [mv 158 20, mv 159 158, gd 160 159 true (.mov (.t 22)), rg 161 (.pick (.t 159) (.t 160) (.c (.b false))), mv 162 161, gd 163 162 true (.mov (.t 24)),
 rg 164 (.pick (.t 162) (.t 163) (.c (.b false))), mv 165 164, gd 166 165 true (.mov (.t 26)), rg 167 (.pick (.t 165) (.t 166) (.c (.b false))),
 mv 168 167, gd 169 168 true (.mov (.t 28)), rg 170 (.pick (.t 168) (.t 169) (.c (.b false))), mv 171 170, gd 172 171 true (.mov (.t 19)),
 gd 173 171 true (.call 294 [(.t 172)]), gd 174 171 true (.mov (.t 21)), gd 175 171 true (.call 293 [(.t 173), (.t 174)]),
 rg 176 (.pick (.t 171) (.t 175) (.c (.b false))), mv 177 176, gd 178 177 true (.mov (.t 23)), gd 179 177 true (.mov (.t 27)),
 gd 180 177 true (.call 293 [(.t 178), (.t 179)]), rg 181 (.pick (.t 177) (.t 180) (.c (.b false))), mv 182 181, gd 183 182 true (.call 310 []),
 rg 184 (.pick (.t 182) (.t 183) (.c (.b false))), mv 6 184])
 (.pre (.norm false [6]) .ret))))))))))))))))))
class CLaw12 (T : Tbl) : Prop where
  h308 : T 308 = some ⟨1, 20, [.t 2], b308, none, false⟩
  h309 : T 309 = some ⟨2, 27, [.t 4], b309, none, false⟩
  h310 : T 310 = some ⟨0, 41, [.t 0], b310, none, false⟩
  h312 : T 312 = some ⟨2, 139, [.t 4], b312, none, false⟩
  h313 : T 313 = some ⟨3, 76, [.t 6], b313, none, false⟩
  h314 : T 314 = some ⟨2, 107, [.t 4], b314, none, false⟩
  h316 : T 316 = some ⟨3, 185, [.t 6], b316, none, false⟩
section
variable {T : Tbl} [CLaw12 T] {d : Option Nat} {st : St} {xs : List AV} {ps : List Opd} {e : Env} {h : Heap} {ol : List Heap}
@[simp] theorem x308 : callX (orc T) T 308 xs d st = cP T 308 false xs d st := callX_pure CLaw12.h308
theorem f308 (xs : List AV) (hn : xs.length = 1) : callF T 308 xs = retF [.t 2] false (evX (orc T) T 0 b308 ⟨argEnv xs, [], 1⟩) := callF_eq CLaw12.h308 hn
@[simp] theorem x309 : callX (orc T) T 309 xs d st = cP T 309 false xs d st := callX_pure CLaw12.h309
theorem f309 (xs : List AV) (hn : xs.length = 2) : callF T 309 xs = retF [.t 4] false (evX (orc T) T 0 b309 ⟨argEnv xs, [], 1⟩) := callF_eq CLaw12.h309 hn
@[simp] theorem x310 : callX (orc T) T 310 xs d st = cP T 310 false xs d st := callX_pure CLaw12.h310
theorem f310 (xs : List AV) (hn : xs.length = 0) : callF T 310 xs = retF [.t 0] false (evX (orc T) T 0 b310 ⟨argEnv xs, [], 1⟩) := callF_eq CLaw12.h310 hn
theorem f312 (xs : List AV) (hn : xs.length = 2) : callF T 312 xs = retF [.t 4] false (evX (orc T) T 0 b312 ⟨argEnv xs, [], 1⟩) := callF_eq CLaw12.h312 hn
theorem f316 (xs : List AV) (hn : xs.length = 3) : callF T 316 xs = retF [.t 6] false (evX (orc T) T 0 b316 ⟨argEnv xs, [], 1⟩) := callF_eq CLaw12.h316 hn
end
end Go.Ab
end

section
namespace Go.Ab
open Go.RowKit
def opU : AOp → Option Nat
  | .call u _ => some u
  | _ => none
def cXs : AX → List Nat
  | .reg l => l.filterMap fun o => opU o.op
  | .draw l => l.filterMap fun o => opU o.ao.op
  | .drawT hd tl => (hd.filterMap fun o => opU o.op) ++ tl.filterMap fun o => opU o.op
  | .seq a b => cXs a ++ cXs b
  | .cond _ x y => cXs x ++ cXs y
  | .block _ c | .loop c | .note c _ | .pre _ c | .scope c | .lp _ _ c _ => cXs c
  | _ => []
structure Agr (R : Nat → Bool) (T T' : Tbl) (O O' : Orc) : Prop where
  tbl : ∀ u, R u = true → T u = T' u
  call : ∀ u xs hb, R u = true → O.call u xs hb = O'.call u xs hb
  loop : ∀ k c st, (∀ u ∈ cXs c, R u = true) → O.loop k c st = O'.loop k c st
section
variable {R : Nat → Bool} {T T' : Tbl} {O O' : Orc}
theorem callX_agr (h : Agr R T T' O O') {u : Nat} (hu : R u = true) {xs : List AV} {d : Option Nat} {st : St} : callX O T u xs d st = callX O' T' u xs d st := by
  unfold callX
  rw [h.tbl u hu]
  simp only [h.call u _ _ hu]
theorem opX_agr (h : Agr R T T' O O') {op : AOp} (hu : ∀ u, opU op = some u → R u = true) {d : Option Nat} {st : St} : opX O T op d st = opX O' T' op d st := by
  cases op <;> simp only [opX]
  exact callX_agr h (hu _ rfl)
theorem stepX_agr (h : Agr R T T' O O') {o : AO} (hu : ∀ u, opU o.op = some u → R u = true) {st : St} : stepX O T o st = stepX O' T' o st := by
  unfold stepX gX
  simp only [opX_agr h hu]
theorem runX_agr (h : Agr R T T' O O') : ∀ (l : List AO), (∀ o ∈ l, ∀ u, opU o.op = some u → R u = true) → ∀ st, runX O T l st = runX O' T' l st
  | [], _, st => rfl
  | o :: l, hu, st => by
    simp only [runX]
    rw [stepX_agr h (hu o List.mem_cons_self)]
    congr 1
    funext s
    exact runX_agr h l (fun o ho => hu o (List.mem_cons_of_mem _ ho)) s
theorem opD_agr (h : Agr R T T' O O') {op : AOp} (hu : ∀ u, opU op = some u → R u = true) {e : Env} {hp : Heap} {older : List Heap} : opD O T op e hp older = opD O' T' op e hp older := by
  cases op <;> simp only [opD]
  rw [h.tbl _ (hu _ rfl)]
  simp only [h.call _ _ _ (hu _ rfl)]
theorem qX_agr (h : Agr R T T' O O') {o : AO} (hu : ∀ u, opU o.op = some u → R u = true) {e : Env} {hp : Heap} {older : List Heap} : qX O T o e hp older = qX O' T' o e hp older := by
  unfold qX
  simp only [opD_agr h hu]
theorem drawX_agr (h : Agr R T T' O O') : ∀ (l : List DO), (∀ o ∈ l, ∀ u, opU o.ao.op = some u → R u = true) → ∀ e hp clk older pend, drawX O T l e hp clk older pend = drawX O' T' l e hp clk older pend
  | [], _, e, hp, clk, older, pend => rfl
  | o :: l, hu, e, hp, clk, older, pend => by
    have ih := drawX_agr h l (fun o ho => hu o (List.mem_cons_of_mem _ ho))
    simp only [drawX]
    rw [qX_agr h (hu o List.mem_cons_self)]
    simp only [ih]
theorem headX_agr (h : Agr R T T' O O') (tl : List AO) (ht : ∀ o ∈ tl, ∀ u, opU o.op = some u → R u = true) : ∀ (l : List AO), (∀ o ∈ l, ∀ u, opU o.op = some u → R u = true) → ∀ e hp clk, headX O T tl l e hp clk = headX O' T' tl l e hp clk
  | [], _, e, hp, clk => runX_agr h tl ht _
  | o :: l, hu, e, hp, clk => by
    have ih := headX_agr h tl ht l (fun o ho => hu o (List.mem_cons_of_mem _ ho))
    simp only [headX]
    rw [qX_agr h (hu o List.mem_cons_self)]
    simp only [ih]
theorem evX_agr (h : Agr R T T' O O') (k : Nat) : ∀ (c : AX), (∀ u ∈ cXs c, R u = true) → ∀ st, evX O T k c st = evX O' T' k c st
  | .skip, _, st => rfl
  | .reg l, hu, st => by
    simp only [evX]
    rw [runX_agr h l fun o ho u hou => hu u (List.mem_filterMap.2 ⟨o, ho, hou⟩)]
  | .draw l, hu, st => by
    simp only [evX]
    rw [drawX_agr h l fun o ho u hou => hu u (List.mem_filterMap.2 ⟨o, ho, hou⟩)]
  | .drawT hd tl, hu, st => by
    simp only [evX]
    rw [headX_agr h tl (fun o ho u hou => hu u (List.mem_append_right _ (List.mem_filterMap.2 ⟨o, ho, hou⟩))) hd (fun o ho u hou => hu u (List.mem_append_left _ (List.mem_filterMap.2 ⟨o, ho, hou⟩)))]
  | .bad, _, st => rfl
  | .prim f, _, st => rfl
  | .seq a b, hu, st => by
    simp only [evX]
    rw [evX_agr h k a fun u hm => hu u (List.mem_append_left _ hm)]
    congr 1
    funext r
    rw [evX_agr h k b fun u hm => hu u (List.mem_append_right _ hm)]
  | .cond c x y, hu, st => by
    simp only [evX]
    rw [evX_agr h k x fun u hm => hu u (List.mem_append_left _ hm), evX_agr h k y fun u hm => hu u (List.mem_append_right _ hm)]
  | .block id c, hu, st => by
    simp only [evX]
    rw [evX_agr h k c hu]
  | .loop c, hu, st => h.loop k c st hu
  | .exit id, _, st => rfl
  | .ret, _, st => rfl
  | .note c g, hu, st => by
    simp only [evX]
    rw [evX_agr h k c hu]
  | .pre g c, hu, st => by
    simp only [evX]
    congr 1
    funext s
    exact evX_agr h k c hu s
  | .scope c, hu, st => by
    simp only [evX]
    exact evX_agr h k c hu st
  | .lp id g c g2, hu, st => by
    simp only [evX, h.loop k c _ hu]
theorem nextO_agr (hc : ∀ u af, R u = true → T u = some af → ∀ v ∈ cXs af.body, R v = true) (h : Agr R T T' O O') : Agr R T T' (nextO T O) (nextO T' O') where
  tbl := h.tbl
  call u xs hb hu := by
    simp only [nextO]
    rw [← h.tbl u hu]
    cases ht : T u with
    | none => rfl
    | some af =>
      simp only
      rw [evX_agr h hb.length af.body (hc u af hu ht)]
  loop k c st hu := by
    simp only [nextO]
    rw [evX_agr h k c hu]
    congr 1
    funext r
    rw [h.loop k c _ hu]
theorem orcN_agr (ht : ∀ u, R u = true → T u = T' u) (hc : ∀ u af, R u = true → T u = some af → ∀ v ∈ cXs af.body, R v = true) : ∀ n, Agr R T T' (orcN T n) (orcN T' n)
  | 0 => ⟨ht, fun _ _ _ _ => rfl, fun _ _ _ _ => rfl⟩
  | n + 1 => nextO_agr hc (orcN_agr ht hc n)
theorem orc_agr (ht : ∀ u, R u = true → T u = T' u) (hc : ∀ u af, R u = true → T u = some af → ∀ v ∈ cXs af.body, R v = true) : Agr R T T' (orc T) (orc T') := by
  refine ⟨ht, fun u xs hb hu => ?_, fun k c st hu => ?_⟩
  · simp only [orc]
    congr 1
    funext n
    exact (orcN_agr ht hc n).call u xs hb hu
  · simp only [orc]
    congr 1
    funext n
    exact (orcN_agr ht hc n).loop k c st hu
end
theorem mem_of_lookup {l : List (Nat × AFx)} {u : Nat} {af : AFx} (h : l.lookup u = some af) : (u, af) ∈ l := by
  induction l with
  | nil => cases h
  | cons q l ih =>
    obtain ⟨q1, q2⟩ := q
    simp only [List.lookup_cons] at h
    split at h
    · rename_i he
      have := eq_of_beq he
      subst this
      cases h
      exact List.mem_cons_self
    · exact List.mem_cons_of_mem _ (ih h)
structure Part (l l' : List (Nat × AFx)) : Prop where
  sub : ∀ p ∈ l', l.lookup p.1 = some p.2
  clo : (l'.all fun p => (cXs p.2.body).all fun v => (l'.lookup v).isSome || (l.lookup v).isNone) = true
theorem Part.agr {l l' : List (Nat × AFx)} (h : Part l l') : Agr (fun u => (l'.lookup u).isSome || (l.lookup u).isNone) (fun u => l.lookup u) (fun u => l'.lookup u) (orc fun u => l.lookup u) (orc fun u => l'.lookup u) := by
  refine orc_agr (fun v hv => ?_) (fun v a hv hva w hw => ?_)
  · cases hv2 : l'.lookup v with
    | none =>
      simp only [hv2] at hv
      cases hv3 : l.lookup v with
      | none => rfl
      | some a => rw [hv3] at hv; cases hv
    | some a => exact h.sub _ (mem_of_lookup hv2)
  · cases hv2 : l'.lookup v with
    | none => simp only [hv2, hva] at hv; cases hv
    | some b =>
      have hb := mem_of_lookup hv2
      have h1 := h.sub _ hb
      simp only at hva h1
      rw [hva] at h1
      cases h1
      exact List.all_eq_true.1 (List.all_eq_true.1 h.clo _ hb) w hw
theorem Part.ev {l l' : List (Nat × AFx)} (h : Part l l') {c : AX} (hc : ((cXs c).all fun v => (l'.lookup v).isSome) = true) {st : St} {r : Option (Ex × St)}
    (he : evX (orc fun u => l.lookup u) (fun u => l.lookup u) 0 c st = r) : evX (orc fun u => l'.lookup u) (fun u => l'.lookup u) 0 c st = r := by
  rw [← evX_agr h.agr 0 c (fun v hv => by rw [List.all_eq_true.1 hc v hv]; rfl) st]
  exact he
theorem Part.call {l l' : List (Nat × AFx)} (h : Part l l') {u : Nat} (hu : (l'.lookup u).isSome = true) {xs : List AV} {r : Option AV} (he : callF (fun u => l.lookup u) u xs = r) : callF (fun u => l'.lookup u) u xs = r := by
  rw [← he]
  unfold callF
  rw [h.agr.call u xs [] (by rw [hu]; rfl)]
end Go.Ab
end
