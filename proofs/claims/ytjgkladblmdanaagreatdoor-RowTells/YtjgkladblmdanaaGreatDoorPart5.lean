/-
  A calculus of values, boxes and code, and what functions of the program compute, proved in it.
  Conditions: none beyond those that the theorems state. (Part 5: GpRef02, GcRef04, GpRef04, GcRef05, GpRef05, GpRef05d, GcRef07, GcRef06, GpRef07, GcRef08, GcRef09, GcRef11, GcRef5x, GcLaw09, GcLaw11, GcLaw11b, GcLaw11c, Ax10.)
-/
import Derived.Test.YtjgkladblmdanaaGreatDoorPart4

set_option linter.unusedSectionVars false
set_option linter.unusedVariables false
set_option linter.unusedSimpArgs false
set_option linter.unnecessarySimpa false

section
namespace Go.Ab
section
variable {T : Tbl}
theorem ref02_norm_loop (a : List UInt32) (hl : a.length < 9223372036854775808) {n : Nat} (hn : n ≤ a.length) (h0 : ∀ (i : Nat) (x : UInt32), n ≤ i → a[i]? = some x → x.toNat = 0) (h1 : ∀ x : UInt32, 0 < n → a[n - 1]? = some x → x.toNat ≠ 0) :
  ∀ m : Nat, (n ≤ m ∧ m ≤ a.length) → loopN T 0 0 (.norm false [0, 3]) l43_0 ⟨[(0, .sl (u32s a) .an), (3, .i .i64 (m : Int))], [], 2⟩ = some (.n, ⟨[(0, .sl (u32s a) .an), (3, .i .i64 (n : Int))], [], 2⟩) := by
 refine loopN_eq (fun m : Nat => ⟨[(0, .sl (u32s a) .an), (3, .i .i64 (m : Int))], [], 2⟩) _ (fun m => m) _ ?_
 rintro m ⟨hm, hma⟩
 by_cases h2 : m = 0
 ·right
  subst h2
  have : n = 0 := by omega
  subst this
  constructor <;> simp [l43_0]
 ·have hw : IntKind.wrap .i64 ((m : Int) - 1) = ((m - 1 : Nat) : Int) := by rw [wrap_i64 _ (by omega)]; omega
  have hm1 : m - 1 < a.length := by omega
  have hg : a[m - 1]? = some (a[m - 1]'hm1) := List.getElem?_eq_getElem hm1
  have hpos : 0 < m := by omega
  by_cases h3 : m = n
  ·right
   subst h3
   have hx := h1 _ hpos hg
   constructor <;> simp [l43_0, hpos, hw, hm1, hx]
  ·left
   refine ⟨m - 1, ⟨by omega, by omega⟩, by show m - 1 < m; omega, ?_, rfl⟩
   have hx := h0 (m - 1) _ (by omega) hg
   simp [l43_0, hpos, hw, hm1, hx]
end
section
variable {T : Tbl} [CRef02 T]
theorem ref02_norm (a : List UInt32) (hl : a.length ≤ 1000000) : callF T 43 [.sl (u32s a) .an] = some (.sl (u32s (ofN (val a))) .an) := by
 obtain ⟨n, h1, h2, h3, h4⟩ := ofN_take a
 have hr := ref02_norm_loop (T := T) a (by omega) h1 h3 h4 a.length ⟨h1, Nat.le_refl _⟩
 have hlen : (ofN (val a)).length = n := by rw [← h2]; simp; omega
 have hb : n ≤ 4294967296 := by omega
 have hb2 : (ofN (val a)).length ≤ 4294967296 := by omega
 rw [f43 _ rfl, b43]
 simp [hr, h1, h2, hlen, hb]
 rw [List.take_of_length_le (by omega)]
def atW (a : List UInt32) (i : Nat) : Nat := (a[i]?.map UInt32.toNat).getD 0
theorem atW_lt (a : List UInt32) (i : Nat) : atW a i < 4294967296 := by
 unfold atW
 cases a[i]? with
 | none => decide
 | some x => exact u32_lt x
theorem val_take_atW (a : List UInt32) (i : Nat) : val (a.take (i + 1)) = val (a.take i) + 4294967296 ^ i * atW a i := by
 unfold atW
 cases h : a[i]? with
 | some x => exact val_take_succ h
 | none =>
  have : a.length ≤ i := by
   rcases Nat.lt_or_ge i a.length with h1 | h1
   ·rw [List.getElem?_eq_getElem h1] at h; cases h
   ·exact h1
  rw [val_take_all (by omega), val_take_all this]
  simp
theorem ref02_at (a : List UInt32) (i : Nat) (_hl : a.length ≤ 1000000) : callF T 84 [.sl (u32s a) .an, .i .i64 i] = some (u32 (atW a i)) := by
 rw [f84 _ rfl, b84]
 unfold atW
 by_cases h : i < a.length
 ·have hg : a[i]? = some (a[i]'h) := List.getElem?_eq_getElem h
  simp [h]
 ·have hg : a[i]? = none := List.getElem?_eq_none (by omega)
  simp [h]
theorem ref02_cmp_loop (a b : List UInt32) (hl : a.length ≤ 1000000) (hl2 : b.length ≤ 1000000) : ∀ m : Nat, m ≤ 1000000 →
  loopN T 0 0 (.norm false []) l52_0 ⟨[(0, .sl (u32s a) .an), (1, .sl (u32s b) .an), (5, .i .i64 ((m : Int) - 1))], [], 2⟩ =
   if val (a.take m) < val (b.take m) then some (.r, ⟨[(4, .i .i64 (-1))], [], 2⟩) else if val (b.take m) < val (a.take m) then some (.r, ⟨[(4, .i .i64 1)], [], 2⟩) else some (.n, ⟨[], [], 2⟩) := by
 refine loopN_eq (fun m : Nat => ⟨[(0, .sl (u32s a) .an), (1, .sl (u32s b) .an), (5, .i .i64 ((m : Int) - 1))], [], 2⟩) _ (fun m => m) _ ?_
 intro m hm
 cases m with
 | zero =>
  right
  constructor <;> simp [l52_0]
 | succ i =>
  have hw : IntKind.wrap .i64 ((i : Int) - 1) = (i : Int) - 1 := wrap_i64 _ (by omega)
  have ca := ref02_at (T := T) a i hl
  have cb := ref02_at (T := T) b i hl2
  have e1 := val_take_atW a i
  have e2 := val_take_atW b i
  have b1 := val_lt (a.take i)
  have b2 := val_lt (b.take i)
  have p1 : 4294967296 ^ (a.take i).length ≤ 4294967296 ^ i := Nat.pow_le_pow_right (by decide) (by simp; omega)
  have p2 : 4294967296 ^ (b.take i).length ≤ 4294967296 ^ i := Nat.pow_le_pow_right (by decide) (by simp; omega)
  rcases Nat.lt_trichotomy (atW a i) (atW b i) with h1 | h1 | h1
  ·right
   have h3 := Nat.mul_le_mul_left (4294967296 ^ i) (show atW a i + 1 ≤ atW b i from h1)
   rw [Nat.mul_add] at h3
   have h2 : val (a.take (i + 1)) < val (b.take (i + 1)) := by omega
   constructor <;> simp [l52_0, ca, cb, h1, h2]
  ·left
   refine ⟨i, by omega, Nat.lt_succ_self i, ?_, ?_⟩
   ·simp [l52_0, ca, cb, h1, hw]
   ·rw [e1, e2, h1]
    have e3 : (val (a.take i) + 4294967296 ^ i * atW b i < val (b.take i) + 4294967296 ^ i * atW b i) = (val (a.take i) < val (b.take i)) := by
     apply propext; omega
    have e4 : (val (b.take i) + 4294967296 ^ i * atW b i < val (a.take i) + 4294967296 ^ i * atW b i) = (val (b.take i) < val (a.take i)) := by
     apply propext; omega
    simp only [e3, e4]
  ·right
   have h3 := Nat.mul_le_mul_left (4294967296 ^ i) (show atW b i + 1 ≤ atW a i from h1)
   rw [Nat.mul_add] at h3
   have h2 : val (b.take (i + 1)) < val (a.take (i + 1)) := by omega
   have h4 : ¬ val (a.take (i + 1)) < val (b.take (i + 1)) := by omega
   have h5 : ¬ atW a i < atW b i := by omega
   constructor <;> simp [l52_0, ca, cb, h1, h2, h4, h5]
theorem ref02_cmp (a b : List UInt32) (ha : a.length ≤ 1000000) (hb : b.length ≤ 1000000) : callF T 52 [.sl (u32s a) .an, .sl (u32s b) .an] = some (.i .i64 (cmpN (val a) (val b))) := by
 have hc := ref02_cmp_loop (T := T) a b ha hb (max a.length b.length) (by omega)
 rw [List.take_of_length_le (by omega), List.take_of_length_le (by omega)] at hc
 have e : (if (a.length : Int) < b.length then (b.length : Int) else a.length) = ((max a.length b.length : Nat) : Int) := by split <;> omega
 have hw : IntKind.wrap .i64 (((max a.length b.length : Nat) : Int) - 1) = ((max a.length b.length : Nat) : Int) - 1 := wrap_i64 _ (by omega)
 rw [f52 _ rfl, b52]
 simp at e hw hc
 simp [e, hw, hc, cmpN]
 repeat' split
 all_goals simp
end
section
variable {T : Tbl}
theorem ref02_same_loop (a b : List UInt32) (hab : a.length = b.length) (hl : a.length ≤ 1000000) : ∀ i : Nat, i ≤ a.length →
  loopN T 0 0 (.norm false []) l54_0 ⟨[(0, .sl (u32s a) .an), (1, .sl (u32s b) .an), (5, .i .i64 i)], [], 2⟩ = if a.drop i = b.drop i then some (.n, ⟨[], [], 2⟩) else some (.r, ⟨[(4, .b false)], [], 2⟩) := by
 refine loopN_eq (fun i : Nat => ⟨[(0, .sl (u32s a) .an), (1, .sl (u32s b) .an), (5, .i .i64 i)], [], 2⟩) _ (fun i => a.length - i) _ ?_
 intro i hi
 by_cases h0 : i < a.length
 ·have h1 : i < b.length := by omega
  have ha : a[i]? = some (a[i]'h0) := List.getElem?_eq_getElem h0
  have hb : b[i]? = some (b[i]'h1) := List.getElem?_eq_getElem h1
  have hw : IntKind.wrap .i64 ((i : Int) + 1) = ((i + 1 : Nat) : Int) := wrap_i64 _ (by omega)
  have hda : a.drop i = a[i]'h0 :: a.drop (i + 1) := List.drop_eq_getElem_cons h0
  have hdb : b.drop i = b[i]'h1 :: b.drop (i + 1) := List.drop_eq_getElem_cons h1
  by_cases h2 : a[i]'h0 = b[i]'h1
  ·left
   refine ⟨i + 1, h0, by show a.length - (i + 1) < a.length - i; omega, ?_, ?_⟩
   ·simp [l54_0, h0, h1, h2, hw]
   ·rw [hda, hdb, h2]
    simp only [List.cons.injEq, true_and]
  ·right
   have h3 : ¬ (a[i]'h0).toNat = (b[i]'h1).toNat := fun h => h2 (UInt32.toNat_inj.1 h)
   have h4 : ¬ a.drop i = b.drop i := by rw [hda, hdb]; intro h; exact h2 (List.cons.inj h).1
   constructor <;> simp [l54_0, h0, h1, h3, h4]
 ·right
  have h4 : a.drop i = b.drop i := by rw [List.drop_of_length_le (by omega), List.drop_of_length_le (by omega)]
  have h5 : ¬ (i : Int) < a.length := by omega
  constructor <;> simp [l54_0, h4, h5]
end
section
variable {T : Tbl} [CRef02 T]
theorem ref02_same (a b : List UInt32) (ha : a.length ≤ 1000000) : callF T 54 [.sl (u32s a) .an, .sl (u32s b) .an] = some (.b (decide (a = b))) := by
 rw [f54 _ rfl, b54]
 by_cases h : a.length = b.length
 ·have hc := ref02_same_loop (T := T) a b h ha 0 (Nat.zero_le _)
  simp at hc
  have h2 : (a.length : Int) = b.length := by omega
  by_cases h3 : a = b
  ·subst h3
   simp at hc
   simp [hc]
  ·rw [if_neg h3] at hc
   simp [h, hc, h3]
 ·have h3 : ¬ a = b := fun he => h (by rw [he])
  have h2 : ¬ (a.length : Int) = b.length := by omega
  simp [h2, h3]
def stAdd2 (a b : List UInt32) (n : Nat) (y : Nat × Nat × List UInt32) : St :=
 ⟨[(0, .sl (u32s a) .an), (1, .sl (u32s b) .an), (5, .i .i64 n), (6, .bs (.loc 16) 1 1 0 n), (7, u64 y.2.1), (8, .i .i64 y.1)], [(.loc 16, ⟨1, .own, 1, u32s y.2.2⟩)], 3⟩
theorem ref02_add_loop (a b : List UInt32) (n : Nat) (ha : a.length ≤ 1000000) (hb : b.length ≤ 1000000) (hn : n ≤ 1000001) : ∀ y : Nat × Nat × List UInt32,
  (y.1 ≤ n ∧ y.2.1 ≤ 1 ∧ y.2.2.length = n ∧ val (y.2.2.take y.1) + 4294967296 ^ y.1 * y.2.1 = val (a.take y.1) + val (b.take y.1)) →
  ∃ r, (∃ (c : Nat) (out : List UInt32), r = (Ex.n, (⟨[(6, .bs (.loc 16) 1 1 0 n)], [(.loc 16, ⟨1, .own, 1, u32s out⟩)], 3⟩ : St)) ∧
   out.length = n ∧ c ≤ 1 ∧ val out + 4294967296 ^ n * c = val (a.take n) + val (b.take n)) ∧ loopN T 0 0 (.norm false [6]) l58_0 (stAdd2 a b n y) = some r := by
 refine loopN_ex _ _ (fun y => n - y.1) _ ?_
 rintro ⟨i, c, out⟩ ⟨hi, hc, ho, hv⟩
 simp only at hi hc ho hv
 by_cases h0 : i < n
 ·left
  have hoi : i < out.length := by omega
  have hog : out[i]? = some (out[i]'hoi) := List.getElem?_eq_getElem hoi
  have hw : IntKind.wrap .i64 ((i : Int) + 1) = ((i + 1 : Nat) : Int) := wrap_i64 _ (by omega)
  have ca := ref02_at (T := T) a i ha
  have cb := ref02_at (T := T) b i hb
  have la := atW_lt a i
  have lb := atW_lt b i
  have e1 := val_take_atW a i
  have e2 := val_take_atW b i
  have m1 : atW a i % 18446744073709551616 = atW a i := Nat.mod_eq_of_lt (by omega)
  have m2 : atW b i % 18446744073709551616 = atW b i := Nat.mod_eq_of_lt (by omega)
  have m3 : (c + (atW a i + atW b i)) % 18446744073709551616 = c + (atW a i + atW b i) := Nat.mod_eq_of_lt (by omega)
  have m4 : (c + (atW a i + atW b i)) / 4294967296 % 18446744073709551616 = (c + (atW a i + atW b i)) / 4294967296 := Nat.mod_eq_of_lt (by omega)
  refine ⟨(i + 1, (c + (atW a i + atW b i)) / 4294967296, out.set i (w32 (c + (atW a i + atW b i)))), ⟨h0, by simp only; omega, by simp [ho], ?_⟩, by simp only; omega, ?_⟩
  ·simp only
   rw [val_take_set _ hoi, e1, e2, w32_mod, Nat.pow_succ]
   generalize 4294967296 ^ i = p at *
   generalize atW a i = x at *
   generalize atW b i = z at *
   have e := Nat.div_add_mod (c + (x + z)) 4294967296
   have e2 : p * ((c + (x + z)) % 4294967296) + p * 4294967296 * ((c + (x + z)) / 4294967296) = p * (c + (x + z)) := by
    conv => rhs; rw [← e]
    rw [Nat.mul_add, Nat.mul_assoc]
    omega
   rw [Nat.mul_add, Nat.mul_add] at e2
   omega
  ·simp [l58_0, stAdd2, h0, ca, cb, m1, m2, m3, m4, hog, hw]
 ·right
  have : i = n := by omega
  subst this
  rw [List.take_of_length_le (by omega)] at hv
  refine ⟨_, ⟨c, out, rfl, ho, hc, hv⟩, ?_, ?_⟩ <;> simp [l58_0, stAdd2]
theorem carry_out {p q r x y z c : Nat} (h1 : x + p * 4294967296 * c = y + z) (h2 : c ≤ 1) (h3 : y < q) (h4 : z < r) (h5 : q ≤ p) (h6 : r ≤ p) : x = y + z := by
 rcases (show c = 0 ∨ c = 1 by omega) with h | h
 ·subst h
  rw [Nat.mul_zero, Nat.add_zero] at h1
  exact h1
 ·subst h
  rw [Nat.mul_one] at h1
  omega
theorem ref02_add (a b : List UInt32) (ha : a.length ≤ 100000) (hb : b.length ≤ 100000) : callF T 58 [.sl (u32s a) .an, .sl (u32s b) .an] = some (.sl (u32s (ofN (val a + val b))) .an) := by
 obtain ⟨n, hn⟩ : ∃ n, n = max a.length b.length := ⟨_, rfl⟩
 obtain ⟨_, ⟨c, out, rfl, ho, hc, hv⟩, hr⟩ := ref02_add_loop (T := T) a b (n + 1) (by omega) (by omega) (by omega) (0, 0, List.replicate (n + 1) 0) ⟨Nat.zero_le _, Nat.zero_le _, by simp, by simp⟩
 unfold stAdd2 at hr
 simp at hr
 rw [List.take_of_length_le (by omega), List.take_of_length_le (by omega)] at hv
 have e : (if a.length < b.length then (b.length : Int) else a.length) = (n : Int) := by split <;> omega
 have hw : IntKind.wrap .i64 ((n : Int) + 1) = ((n : Int) + 1) := wrap_i64 _ (by omega)
 have hn1 : (0 : Int) ≤ (n : Int) + 1 := by omega
 have hn2 : (n : Int) + 1 ≤ 4294967296 := by omega
 have hn3 : ((n : Int) + 1).toNat = n + 1 := by omega
 have l1 := val_lt a
 have l2 := val_lt b
 have p1 : 4294967296 ^ a.length ≤ 4294967296 ^ n := Nat.pow_le_pow_right (by decide) (by omega)
 have p2 : 4294967296 ^ b.length ≤ 4294967296 ^ n := Nat.pow_le_pow_right (by decide) (by omega)
 have hval : val out = val a + val b := by
  rw [Nat.pow_succ] at hv
  exact carry_out hv hc l1 l2 p1 p2
 have hnm := ref02_norm (T := T) out (by omega)
 rw [hval] at hnm
 have htk : List.take (n + 1) out = out := List.take_of_length_le (by omega)
 rw [f58 _ rfl, b58]
 simp [e, hw, hn1, hn2, hn3, hr, ho, htk, hnm]
def stSub2 (a b : List UInt32) (n : Nat) (y : Nat × Nat × List UInt32) : St :=
 ⟨[(0, .sl (u32s a) .an), (1, .sl (u32s b) .an), (5, .i .i64 n), (6, .bs (.loc 17) 1 1 0 n), (7, u64 y.2.1), (8, .i .i64 y.1)], [(.loc 17, ⟨1, .own, 1, u32s y.2.2⟩)], 3⟩
theorem ref02_sub_loop (a b : List UInt32) (n : Nat) (ha : a.length ≤ 1000000) (hb : b.length ≤ 1000000) (hn : n ≤ 1000001) : ∀ y : Nat × Nat × List UInt32,
  (y.1 ≤ n ∧ y.2.1 ≤ 1 ∧ y.2.2.length = n ∧ val (y.2.2.take y.1) + val (b.take y.1) = val (a.take y.1) + 4294967296 ^ y.1 * y.2.1) →
  ∃ r, (∃ (c : Nat) (out : List UInt32), r = (Ex.n, (⟨[(6, .bs (.loc 17) 1 1 0 n)], [(.loc 17, ⟨1, .own, 1, u32s out⟩)], 3⟩ : St)) ∧
   out.length = n ∧ c ≤ 1 ∧ val out + val (b.take n) = val (a.take n) + 4294967296 ^ n * c) ∧ loopN T 0 0 (.norm false [6]) l59_0 (stSub2 a b n y) = some r := by
 refine loopN_ex _ _ (fun y => n - y.1) _ ?_
 rintro ⟨i, c, out⟩ ⟨hi, hc, ho, hv⟩
 simp only at hi hc ho hv
 by_cases h0 : i < n
 ·left
  have hoi : i < out.length := by omega
  have hog : out[i]? = some (out[i]'hoi) := List.getElem?_eq_getElem hoi
  have hw : IntKind.wrap .i64 ((i : Int) + 1) = ((i + 1 : Nat) : Int) := wrap_i64 _ (by omega)
  have ca := ref02_at (T := T) a i ha
  have cb := ref02_at (T := T) b i hb
  have la := atW_lt a i
  have lb := atW_lt b i
  have e1 := val_take_atW a i
  have e2 := val_take_atW b i
  have m1 : atW a i % 18446744073709551616 = atW a i := Nat.mod_eq_of_lt (by omega)
  have m2 : atW b i % 18446744073709551616 = atW b i := Nat.mod_eq_of_lt (by omega)
  have m3 : (atW b i + c) % 18446744073709551616 = atW b i + c := Nat.mod_eq_of_lt (by omega)
  have m4 : (atW a i + 4294967296) % 18446744073709551616 = atW a i + 4294967296 := Nat.mod_eq_of_lt (by omega)
  have fin : ∀ s d : Nat, d ≤ 1 → s < 4294967296 → s + (atW b i + c) = atW a i + 4294967296 * d →
    val ((out.set i (w32 s)).take (i + 1)) + val (b.take (i + 1)) = val (a.take (i + 1)) + 4294967296 ^ (i + 1) * d := by
   intro s d hd hs h
   rw [val_take_set _ hoi, e1, e2, w32_of_lt hs, Nat.pow_succ]
   generalize 4294967296 ^ i = p at *
   have e3 : p * s + p * (atW b i + c) = p * atW a i + p * 4294967296 * d := by rw [← Nat.mul_add, h, Nat.mul_add, Nat.mul_assoc]
   rw [Nat.mul_add] at e3
   omega
  by_cases h1 : atW a i < atW b i + c
  ·have hs : sub64 (atW a i + 4294967296) (atW b i + c) = atW a i + 4294967296 - (atW b i + c) := sub64_le (by omega) (by omega)
   have m5 : (atW a i + 4294967296 - (atW b i + c)) % 4294967296 = atW a i + 4294967296 - (atW b i + c) := Nat.mod_eq_of_lt (by omega)
   refine ⟨(i + 1, 1, out.set i (w32 (atW a i + 4294967296 - (atW b i + c)))), ⟨h0, Nat.le_refl _, by simp [ho], fin _ 1 (by omega) (by omega) (by omega)⟩, by simp only; omega, ?_⟩
   simp [l59_0, stSub2, h0, ca, cb, m1, m2, m3, m4, h1, hs, hog, hw]
  ·have hs : sub64 (atW a i) (atW b i + c) = atW a i - (atW b i + c) := sub64_le (by omega) (by omega)
   refine ⟨(i + 1, 0, out.set i (w32 (atW a i - (atW b i + c)))), ⟨h0, Nat.zero_le _, by simp [ho], fin _ 0 (by omega) (by omega) (by omega)⟩, by simp only; omega, ?_⟩
   simp [l59_0, stSub2, h0, ca, cb, m1, m2, m3, h1, hs, hog, hw]
 ·right
  have : i = n := by omega
  subst this
  rw [List.take_of_length_le (by omega)] at hv
  refine ⟨_, ⟨c, out, rfl, ho, hc, hv⟩, ?_, ?_⟩ <;> simp [l59_0, stSub2]
theorem ref02_sub (a b : List UInt32) (ha : a.length ≤ 100000) (hb : b.length ≤ 100000) (hab : val b ≤ val a) : callF T 59 [.sl (u32s a) .an, .sl (u32s b) .an] = some (.sl (u32s (ofN (val a - val b))) .an) := by
 obtain ⟨n, hn⟩ : ∃ n, n = max a.length b.length := ⟨_, rfl⟩
 obtain ⟨_, ⟨c, out, rfl, ho, hc, hv⟩, hr⟩ := ref02_sub_loop (T := T) a b n (by omega) (by omega) (by omega) (0, 0, List.replicate n 0) ⟨Nat.zero_le _, Nat.zero_le _, by simp, by simp⟩
 unfold stSub2 at hr
 simp at hr
 rw [List.take_of_length_le (by omega), List.take_of_length_le (by omega)] at hv
 have e : (if a.length < b.length then (b.length : Int) else a.length) = (n : Int) := by split <;> omega
 have hn2 : (n : Int) ≤ 4294967296 := by omega
 have hlo := val_lt out
 rw [ho] at hlo
 have hval : val out = val a - val b := by
  rcases Nat.eq_zero_or_pos c with h1 | h1
  ·subst h1; omega
  ·have : c = 1 := by omega
   subst this
   omega
 have hnm := ref02_norm (T := T) out (by omega)
 rw [hval] at hnm
 have htk : List.take n out = out := List.take_of_length_le (by omega)
 rw [f59 _ rfl, b59]
 simp [e, hn2, hr, ho, htk, hnm]
end
end Go.Ab
end

section
namespace Go.Ab
def l61_0 : AX :=
 (.note
 (.seq
 (.seq
 (.reg [⟨(some 21), none, .mov (.t 8)⟩,
 ⟨(some 22), none, .mov (.t 1)⟩,
 ⟨(some 23), none, .len (.t 22)⟩,
 ⟨(some 24), none, .bin .lss (.t 21) (.t 23)⟩])
 (.cond (.t 24)
 .skip
 (.exit 2)))
 (.seq
 (.block 3
 (.seq
 (.drawT [⟨(some 27), none, .mov (.t 7)⟩,
 ⟨(some 28), none, .mov (.t 0)⟩,
 ⟨(some 29), none, .mov (.t 6)⟩,
 ⟨(some 30), none, .iad 1 (.t 28) (.t 29)⟩,
 ⟨(some 31), none, .load none (.t 30)⟩,
 ⟨(some 32), none, .conv .u64 (.t 31)⟩,
 ⟨(some 33), none, .mov (.t 1)⟩,
 ⟨(some 34), none, .mov (.t 8)⟩,
 ⟨(some 35), none, .iad 1 (.t 33) (.t 34)⟩,
 ⟨(some 36), none, .load none (.t 35)⟩,
 ⟨(some 37), none, .conv .u64 (.t 36)⟩,
 ⟨(some 38), none, .bin .mul (.t 32) (.t 37)⟩,
 ⟨(some 39), none, .mov (.t 5)⟩,
 ⟨(some 40), none, .mov (.t 6)⟩,
 ⟨(some 41), none, .mov (.t 8)⟩,
 ⟨(some 42), none, .bin .add (.t 40) (.t 41)⟩,
 ⟨(some 43), none, .iad 1 (.t 39) (.t 42)⟩,
 ⟨(some 44), none, .load none (.t 43)⟩,
 ⟨(some 45), none, .conv .u64 (.t 44)⟩,
 ⟨(some 46), none, .bin .add (.t 38) (.t 45)⟩]
 [⟨(some 47), none, .bin .add (.t 27) (.t 46)⟩,
 ⟨(some 7), none, .mov (.t 47)⟩])
 (.seq
 (.reg [⟨(some 48), none, .mov (.t 5)⟩,
 ⟨(some 49), none, .mov (.t 6)⟩,
 ⟨(some 50), none, .mov (.t 8)⟩,
 ⟨(some 51), none, .bin .add (.t 49) (.t 50)⟩,
 ⟨(some 52), none, .mov (.t 7)⟩,
 ⟨(some 53), none, .bin .rem (.t 52) (.c (u64 4294967296))⟩,
 ⟨(some 54), none, .conv .u32 (.t 53)⟩,
 ⟨(some 55), none, .iad 1 (.t 48) (.t 51)⟩,
 ⟨none, none, .store 1 (.t 55) (.t 54)⟩])
 (.reg [⟨(some 56), none, .mov (.t 7)⟩,
 ⟨(some 57), none, .bin .quo (.t 56) (.c (u64 4294967296))⟩,
 ⟨(some 7), none, .mov (.t 57)⟩]))))
 (.reg [⟨(some 25), none, .mov (.t 8)⟩,
 ⟨(some 26), none, .bin .add (.t 25) (.c (.i .i64 1))⟩,
 ⟨(some 8), none, .mov (.t 26)⟩])))
 (.norm false [0, 1, 5, 6, 7, 8]))
def l61_1 : AX :=
 (.note
 (.seq
 (.seq
 (.reg [⟨(some 15), none, .mov (.t 6)⟩,
 ⟨(some 16), none, .mov (.t 0)⟩,
 ⟨(some 17), none, .len (.t 16)⟩,
 ⟨(some 18), none, .bin .lss (.t 15) (.t 17)⟩])
 (.cond (.t 18)
 .skip
 (.exit 0)))
 (.seq
 (.block 1
 (.seq
 (.reg [⟨(some 7), none, .mov (.c (u64 0))⟩])
 (.seq
 (.seq
 (.reg [⟨(some 8), none, .mov (.c (.i .i64 0))⟩])
 (.lp 2 (.norm false [0, 1, 5, 6, 7, 8]) l61_0 (.norm false [0, 1, 5, 6, 7])))
 (.reg [⟨(some 58), none, .mov (.t 5)⟩,
 ⟨(some 59), none, .mov (.t 6)⟩,
 ⟨(some 60), none, .mov (.t 1)⟩,
 ⟨(some 61), none, .len (.t 60)⟩,
 ⟨(some 62), none, .bin .add (.t 59) (.t 61)⟩,
 ⟨(some 63), none, .mov (.t 7)⟩,
 ⟨(some 64), none, .conv .u32 (.t 63)⟩,
 ⟨(some 65), none, .iad 1 (.t 58) (.t 62)⟩,
 ⟨none, none, .store 1 (.t 65) (.t 64)⟩]))))
 (.reg [⟨(some 19), none, .mov (.t 6)⟩,
 ⟨(some 20), none, .bin .add (.t 19) (.c (.i .i64 1))⟩,
 ⟨(some 6), none, .mov (.t 20)⟩])))
 (.norm false [0, 1, 5, 6]))
def b61 : AX :=
 (.seq
 (.reg [⟨(some 4), none, .mov (.c (.sl [] .nl))⟩])
 (.seq
 (.reg [⟨(some 9), none, .mov (.t 0)⟩,
 ⟨(some 10), none, .len (.t 9)⟩,
 ⟨(some 11), none, .mov (.t 1)⟩,
 ⟨(some 12), none, .len (.t 11)⟩,
 ⟨(some 13), none, .bin .add (.t 10) (.t 12)⟩,
 ⟨(some 14), none, .mks 1 [(u32 0)] (.t 13) (.t 13)⟩,
 ⟨(some 5), none, .mov (.t 14)⟩])
 (.seq
 (.seq
 (.reg [⟨(some 6), none, .mov (.c (.i .i64 0))⟩])
 (.lp 0 (.norm false [0, 1, 5, 6]) l61_1 (.norm false [5])))
 (.seq
 (.reg [⟨(some 66), none, .mov (.t 5)⟩,
 ⟨(some 67), none, .call 43 [(.t 66)]⟩,
 ⟨(some 4), none, .mov (.t 67)⟩])
 (.pre (.norm false [4]) .ret)))))
class CRef04 (T : Tbl) : Prop extends CRef02 T where
 h61 : T 61 = some ⟨2, 68, [.t 4], b61, none, false⟩
section
variable {T : Tbl} [CRef04 T] {d : Option Nat} {st : St}
@[simp] theorem x61 (xs : List AV) : callX (orc T) T 61 xs d st = bL (frzL st.heap xs) fun ys => cR (callF T 61 (ys.map (wkIf false))) xs d st := callX_pure CRef04.h61
@[simp] theorem y61 {e : Env} {h : Heap} {older : List Heap} (args : List Opd) : opD (orc T) T (.call 61 args) e h older = dR (callF T 61 ((args.map (ev e.get)).map (wkIf false))) (args.map (ev e.get)) := opD_call CRef04.h61
theorem f61 (xs : List AV) (hn : xs.length = 2) : callF T 61 xs = retF [.t 4] false (evX (orc T) T 0 b61 ⟨argEnv xs, [], 1⟩) := callF_eq CRef04.h61 hn
end
end Go.Ab
end

section
namespace Go.Ab
section
variable {T : Tbl} [CRef04 T]
theorem row_step0 {p m w c c' s x y t v : Nat} (h : m + p * c = s + x * t) (e : w + 4294967296 * c' = x * y + v + c) : (m + p * w) + p * 4294967296 * c' = (s + p * v) + x * (t + p * y) :=
 row_step (k := 0) h e
def stIn4 (P S a b : List UInt32) (y : Nat × Nat × List UInt32) : St :=
 ⟨[(0, .sl (u32s a) .an), (1, .sl (u32s b) .an), (5, .bs (.loc 14) 1 1 0 (P.length + S.length)), (6, .i .i64 P.length), (7, u64 y.2.1), (8, .i .i64 y.1)], [(.loc 14, ⟨1, .own, 1, u32s (P ++ (y.2.2 ++ S.drop y.1))⟩)], 3⟩
end
section
variable {T : Tbl}
theorem in4_loop (P S a b : List UInt32) (x : UInt32) (hxa : a[P.length]? = some x) (hS : b.length < S.length) (hl : P.length + S.length ≤ 1000000) : ∀ y : Nat × Nat × List UInt32,
  (y.1 ≤ b.length ∧ y.2.1 < 4294967296 ∧ y.2.2.length = y.1 ∧ val y.2.2 + 4294967296 ^ y.1 * y.2.1 = val (S.take y.1) + x.toNat * val (b.take y.1)) →
  ∃ r, (∃ (c : Nat) (m : List UInt32), r = (Ex.n, (⟨[(0, .sl (u32s a) .an), (1, .sl (u32s b) .an), (5, .bs (.loc 14) 1 1 0 (P.length + S.length)), (6, .i .i64 P.length), (7, u64 c)], [(.loc 14, ⟨1, .own, 1, u32s (P ++ (m ++ S.drop b.length))⟩)], 3⟩ : St)) ∧
   m.length = b.length ∧ c < 4294967296 ∧ val m + 4294967296 ^ b.length * c = val (S.take b.length) + x.toNat * val b) ∧ loopN T 0 2 (.norm false [0, 1, 5, 6, 7]) l61_0 (stIn4 P S a b y) = some r := by
 refine loopN_ex _ _ (fun y => b.length - y.1) _ ?_
 rintro ⟨i, c, m⟩ ⟨hi, hc, hm, hv⟩
 simp only at hi hc hm hv
 have hPa : P.length < a.length := by
  rcases Nat.lt_or_ge P.length a.length with h | h
  ·exact h
  ·rw [List.getElem?_eq_none h] at hxa; cases hxa
 obtain rfl : a[P.length]'hPa = x := by rw [List.getElem?_eq_getElem hPa] at hxa; cases hxa; rfl
 generalize hX : a[P.length]'hPa = x at hv ⊢
 by_cases h0 : i < b.length
 ·left
  have hb : b[i]? = some (b[i]'h0) := List.getElem?_eq_getElem h0
  have hiS : i < S.length := by omega
  have hs : S[i]? = some (S[i]'hiS) := List.getElem?_eq_getElem hiS
  have hg := get_mid (P := P) hm hiS
  have hw : IntKind.wrap .i64 ((i : Int) + 1) = ((i + 1 : Nat) : Int) := wrap_i64 _ (by omega)
  have hw2 : IntKind.wrap .i64 ((P.length : Int) + i) = ((P.length + i : Nat) : Int) := wrap_i64 _ (by omega)
  have hlb := u32_lt (b[i]'h0)
  have hls := u32_lt (S[i]'hiS)
  have hmul := mul_lt (u32_lt x) hlb
  have hset := set_mid (P := P) (w32 (c + (x.toNat * (b[i]'h0).toNat + (S[i]'hiS).toNat))) hm hiS
  have m1 : x.toNat * (b[i]'h0).toNat % 18446744073709551616 = x.toNat * (b[i]'h0).toNat := Nat.mod_eq_of_lt (by omega)
  have m2 : (x.toNat * (b[i]'h0).toNat + (S[i]'hiS).toNat) % 18446744073709551616 = x.toNat * (b[i]'h0).toNat + (S[i]'hiS).toNat := Nat.mod_eq_of_lt (by omega)
  have m3 : (c + (x.toNat * (b[i]'h0).toNat + (S[i]'hiS).toNat)) % 18446744073709551616 = c + (x.toNat * (b[i]'h0).toNat + (S[i]'hiS).toNat) := Nat.mod_eq_of_lt (by omega)
  have m4 : (c + (x.toNat * (b[i]'h0).toNat + (S[i]'hiS).toNat)) / 4294967296 % 18446744073709551616 = (c + (x.toNat * (b[i]'h0).toNat + (S[i]'hiS).toNat)) / 4294967296 := Nat.mod_eq_of_lt (by omega)
  refine ⟨(i + 1, (c + (x.toNat * (b[i]'h0).toNat + (S[i]'hiS).toNat)) / 4294967296, m ++ [w32 (c + (x.toNat * (b[i]'h0).toNat + (S[i]'hiS).toNat))]), ⟨h0, by simp only; omega, by simp [hm], ?_⟩, by simp only; omega, ?_⟩
  ·simp only
   rw [val_append, val_take_succ hb, val_take_succ hs, Nat.pow_succ, hm]
   simp only [val_cons, val_nil, Nat.mul_zero, Nat.add_zero, w32_mod]
   exact row_step0 hv (by have := Nat.div_add_mod (c + (x.toNat * (b[i]'h0).toNat + (S[i]'hiS).toNat)) 4294967296; omega)
  ·simp at hg hset
   simp -implicitDefEqProofs [l61_0, stIn4, h0, hw, hw2, hiS, hg, hset, hPa, hX, m1, m2, m3, m4]
 ·right
  have hib : i = b.length := by omega
  have hv' : val m + 4294967296 ^ b.length * c = val (S.take b.length) + x.toNat * val b := by
   rw [hib, List.take_of_length_le (Nat.le_refl b.length)] at hv
   exact hv
  refine ⟨(Ex.n, ⟨[(0, .sl (u32s a) .an), (1, .sl (u32s b) .an), (5, .bs (.loc 14) 1 1 0 (P.length + S.length)), (6, .i .i64 P.length), (7, u64 c)], [(.loc 14, ⟨1, .own, 1, u32s (P ++ (m ++ S.drop i))⟩)], 3⟩), ⟨c, m, by rw [hib], by rw [hm, hib], hc, hv'⟩, ?_, ?_⟩ <;> simp -implicitDefEqProofs [l61_0, stIn4, h0]
end
section
variable {T : Tbl} [CRef04 T]
def stMul4 (a b : List UInt32) (y : Nat × List UInt32) : St :=
 ⟨[(0, .sl (u32s a) .an), (1, .sl (u32s b) .an), (5, .bs (.loc 14) 1 1 0 (a.length + b.length)), (6, .i .i64 y.1)], [(.loc 14, ⟨1, .own, 1, u32s (y.2 ++ List.replicate (a.length - y.1) 0)⟩)], 3⟩
end
section
variable {T : Tbl}
theorem mul4_loop (a b : List UInt32) (ha : a.length ≤ 100000) (hb : b.length ≤ 100000) : ∀ y : Nat × List UInt32,
  (y.1 ≤ a.length ∧ y.2.length = b.length + y.1 ∧ val y.2 = val (a.take y.1) * val b) →
  ∃ r, (∃ out : List UInt32, r = (Ex.n, (⟨[(5, .bs (.loc 14) 1 1 0 (a.length + b.length))], [(.loc 14, ⟨1, .own, 1, u32s out⟩)], 3⟩ : St)) ∧ out.length = a.length + b.length ∧ val out = val a * val b) ∧
   loopN T 0 0 (.norm false [5]) l61_1 (stMul4 a b y) = some r := by
 refine loopN_ex _ _ (fun y => a.length - y.1) _ ?_
 rintro ⟨i, X⟩ ⟨hi, hX, hv⟩
 simp only at hi hX hv
 by_cases h0 : i < a.length
 ·left
  have hag : a[i]? = some (a[i]'h0) := List.getElem?_eq_getElem h0
  have hw : IntKind.wrap .i64 ((i : Int) + 1) = ((i + 1 : Nat) : Int) := wrap_i64 _ (by omega)
  have e2 : (X.take i).length = i := by simp; omega
  have e3 : (X.drop i ++ List.replicate (a.length - i) 0).length = a.length + b.length - i := by simp; omega
  obtain ⟨_, ⟨c, m, rfl, hm, hc, hvm⟩, hr⟩ := in4_loop (T := T) (X.take i) (X.drop i ++ List.replicate (a.length - i) 0) a b (a[i]'h0) (by rw [e2]; exact hag) (by simp; omega) (by simp; omega) (0, 0, []) ⟨Nat.zero_le _, Nat.zero_lt_succ _, rfl, by simp⟩
  have e1 : X.take i ++ (X.drop i ++ List.replicate (a.length - i) 0) = X ++ List.replicate (a.length - i) 0 := by rw [← List.append_assoc, List.take_append_drop]
  have e4 : i + (a.length + b.length - i) = a.length + b.length := by omega
  have e6 : (X.drop i ++ List.replicate (a.length - i) 0).take b.length = X.drop i := by
   rw [List.take_append_of_le_length (by simp; omega), List.take_of_length_le (by simp; omega)]
  have hSl : b.length < (X.drop i ++ List.replicate (a.length - i) 0).length := by simp; omega
  have hg := get_mid (P := X.take i) (m := m) hm hSl
  have hset := set_mid (P := X.take i) (m := m) (w32 c) hm hSl
  have e5 : (X.drop i ++ List.replicate (a.length - i) 0).drop (b.length + 1) = List.replicate (a.length - (i + 1)) 0 := by
   rw [List.drop_append, List.drop_of_length_le (by simp; omega), List.drop_replicate]
   simp only [List.nil_append, List.length_drop]
   congr 1
   omega
  unfold stIn4 at hr
  simp only [List.nil_append, List.drop_zero] at hr
  rw [e1, e2, e3, e4] at hr
  rw [e2] at hg hset
  rw [e5] at hset
  rw [e6] at hvm
  generalize hQ : X.take i ++ (m ++ (X.drop i ++ List.replicate (a.length - i) 0).drop b.length) = Q at hr hg hset
  have hw2 : IntKind.wrap .i64 ((i : Int) + b.length) = ((i + b.length : Nat) : Int) := wrap_i64 _ (by omega)
  have hlt : ((i : Int) + b.length) < (a.length : Int) + b.length := by omega
  simp at hr hg hset
  refine ⟨(i + 1, X.take i ++ (m ++ [w32 c])), ⟨h0, by simp only [List.length_append, e2, hm, List.length_singleton]; omega, ?_⟩, by simp only; omega, ?_⟩
  ·simp only
   have e7 := val_append (X.take i) (X.drop i)
   rw [List.take_append_drop, e2] at e7
   rw [val_append, e2, val_append, hm]
   simp only [val_cons, val_nil, Nat.mul_zero, Nat.add_zero, w32_of_lt hc]
   rw [hvm, val_take_succ hag, Nat.add_mul, ← hv, e7, Nat.mul_add]
   rw [Nat.mul_assoc]
   omega
  ·simp -implicitDefEqProofs [l61_1, stMul4, h0, hw, hr, hw2, hlt, hg, hset]
 ·right
  have : i = a.length := by omega
  subst this
  rw [List.take_of_length_le (Nat.le_refl _)] at hv
  refine ⟨_, ⟨X ++ List.replicate (a.length - a.length) 0, rfl, by simp; omega, by simp [hv]⟩, ?_, ?_⟩ <;> simp -implicitDefEqProofs [l61_1, stMul4]
end
section
variable {T : Tbl} [CRef04 T]
theorem ref04_mul (a b : List UInt32) (ha : a.length ≤ 100000) (hb : b.length ≤ 100000) : callF T 61 [.sl (u32s a) .an, .sl (u32s b) .an] = some (.sl (u32s (ofN (val a * val b))) .an) := by
 obtain ⟨_, ⟨out, rfl, ho, hv⟩, hr⟩ := mul4_loop (T := T) a b ha hb (0, List.replicate b.length 0) ⟨Nat.zero_le _, by simp, by simp [val_replicate]⟩
 unfold stMul4 at hr
 simp at hr
 have hw1 : IntKind.wrap .i64 ((a.length : Int) + b.length) = (a.length : Int) + b.length := wrap_i64 _ (by omega)
 have hle : (a.length : Int) + b.length ≤ 4294967296 := by omega
 have hn := ref02_norm (T := T) out (by omega)
 rw [hv] at hn
 have htk : List.take (a.length + b.length) out = out := List.take_of_length_le (by omega)
 have he : b.length + a.length = a.length + b.length := by omega
 rw [he] at hr
 rw [f61 _ rfl, b61]
 simp -implicitDefEqProofs [hw1, hle, hr, ho, htk, hn]
end
end Go.Ab
end

section
namespace Go.Ab
def l122_0 : AX :=
 (.note
 (.seq
 (.seq
 (.reg [⟨(some 21), none, .mov (.t 6)⟩,
 ⟨(some 22), none, .mov (.t 1)⟩,
 ⟨(some 23), none, .bin .rem (.t 22) (.c (.i .i64 32))⟩,
 ⟨(some 24), none, .bin .lss (.t 21) (.t 23)⟩])
 (.cond (.t 24)
 .skip
 (.exit 0)))
 (.seq
 (.block 1
 (.reg [⟨(some 27), none, .mov (.t 5)⟩,
 ⟨(some 28), none, .bin .quo (.t 27) (.c (u32 2))⟩,
 ⟨(some 5), none, .mov (.t 28)⟩]))
 (.reg [⟨(some 25), none, .mov (.t 6)⟩,
 ⟨(some 26), none, .bin .add (.t 25) (.c (.i .i64 1))⟩,
 ⟨(some 6), none, .mov (.t 26)⟩])))
 (.norm false [1, 5, 6]))
def b122 : AX :=
 (.seq
 (.reg [⟨(some 4), none, .mov (.c (.b false))⟩])
 (.seq
 (.seq
 (.reg [⟨(some 7), none, .mov (.t 1)⟩,
 ⟨(some 8), none, .bin .lss (.t 7) (.c (.i .i64 0))⟩,
 ⟨(some 9), none, .mov (.t 8)⟩,
 ⟨(some 10), (some (9, false)), .mov (.t 1)⟩,
 ⟨(some 11), (some (9, false)), .bin .quo (.t 10) (.c (.i .i64 32))⟩,
 ⟨(some 12), (some (9, false)), .mov (.t 0)⟩,
 ⟨(some 13), (some (9, false)), .len (.t 12)⟩,
 ⟨(some 14), (some (9, false)), .bin .geq (.t 11) (.t 13)⟩,
 ⟨(some 15), none, .pick (.t 9) (.c (.b true)) (.t 14)⟩])
 (.cond (.t 15)
 (.seq
 (.reg [⟨(some 4), none, .mov (.c (.b false))⟩])
 (.pre (.norm false [4]) .ret))
 .skip))
 (.seq
 (.reg [⟨(some 16), none, .mov (.t 0)⟩,
 ⟨(some 17), none, .mov (.t 1)⟩,
 ⟨(some 18), none, .bin .quo (.t 17) (.c (.i .i64 32))⟩,
 ⟨(some 19), none, .iad 1 (.t 16) (.t 18)⟩,
 ⟨(some 20), none, .load none (.t 19)⟩,
 ⟨(some 5), none, .mov (.t 20)⟩])
 (.seq
 (.seq
 (.reg [⟨(some 6), none, .mov (.c (.i .i64 0))⟩])
 (.lp 0 (.norm false [1, 5, 6]) l122_0 (.norm false [5])))
 (.seq
 (.reg [⟨(some 29), none, .mov (.t 5)⟩,
 ⟨(some 30), none, .bin .rem (.t 29) (.c (u32 2))⟩,
 ⟨(some 31), none, .bin .eql (.t 30) (.c (u32 1))⟩,
 ⟨(some 4), none, .mov (.t 31)⟩])
 (.pre (.norm false [4]) .ret))))))
def l95_0 : AX :=
 (.note
 (.seq
 (.seq
 (.reg [⟨(some 7), none, .mov (.t 3)⟩,
 ⟨(some 8), none, .bin .gtr (.t 7) (.c (.i .i64 0))⟩,
 ⟨(some 9), none, .mov (.t 8)⟩,
 ⟨(some 10), (some (9, true)), .mov (.t 0)⟩,
 ⟨(some 11), (some (9, true)), .mov (.t 3)⟩,
 ⟨(some 12), (some (9, true)), .bin .sub (.t 11) (.c (.i .i64 1))⟩,
 ⟨(some 13), (some (9, true)), .call 122 [(.t 10), (.t 12)]⟩,
 ⟨(some 14), (some (9, true)), .un .not (.t 13)⟩,
 ⟨(some 15), none, .pick (.t 9) (.t 14) (.c (.b false))⟩])
 (.cond (.t 15)
 .skip
 (.exit 0)))
 (.block 1
 (.reg [⟨(some 16), none, .mov (.t 3)⟩,
 ⟨(some 17), none, .bin .sub (.t 16) (.c (.i .i64 1))⟩,
 ⟨(some 3), none, .mov (.t 17)⟩])))
 (.norm false [0, 3]))
def b95 : AX :=
 (.seq
 (.reg [⟨(some 2), none, .mov (.c (.i .i64 0))⟩])
 (.seq
 (.reg [⟨(some 4), none, .mov (.t 0)⟩,
 ⟨(some 5), none, .len (.t 4)⟩,
 ⟨(some 6), none, .bin .mul (.c (.i .i64 32)) (.t 5)⟩,
 ⟨(some 3), none, .mov (.t 6)⟩])
 (.seq
 (.lp 0 (.norm false [0, 3]) l95_0 (.norm false [3]))
 (.seq
 (.reg [⟨(some 18), none, .mov (.t 3)⟩,
 ⟨(some 2), none, .mov (.t 18)⟩])
 (.pre (.norm false [2]) .ret)))))
def l96_0 : AX :=
 (.note
 (.seq
 (.seq
 (.reg [⟨(some 8), none, .mov (.t 5)⟩,
 ⟨(some 9), none, .mov (.t 0)⟩,
 ⟨(some 10), none, .len (.t 9)⟩,
 ⟨(some 11), none, .bin .lss (.t 8) (.t 10)⟩])
 (.cond (.t 11)
 .skip
 (.exit 0)))
 (.seq
 (.block 1
 (.seq
 (.reg [⟨(some 14), none, .mov (.t 0)⟩,
 ⟨(some 15), none, .mov (.t 5)⟩,
 ⟨(some 16), none, .iad 1 (.t 14) (.t 15)⟩,
 ⟨(some 17), none, .load none (.t 16)⟩,
 ⟨(some 18), none, .bin .quo (.t 17) (.c (u32 2147483648))⟩,
 ⟨(some 6), none, .mov (.t 18)⟩])
 (.seq
 (.reg [⟨(some 19), none, .mov (.t 0)⟩,
 ⟨(some 20), none, .mov (.t 5)⟩,
 ⟨(some 21), none, .mov (.t 0)⟩,
 ⟨(some 22), none, .mov (.t 5)⟩,
 ⟨(some 23), none, .iad 1 (.t 21) (.t 22)⟩,
 ⟨(some 24), none, .load none (.t 23)⟩,
 ⟨(some 25), none, .bin .mul (.t 24) (.c (u32 2))⟩,
 ⟨(some 26), none, .mov (.t 4)⟩,
 ⟨(some 27), none, .bin .add (.t 25) (.t 26)⟩,
 ⟨(some 28), none, .iad 1 (.t 19) (.t 20)⟩,
 ⟨none, none, .store 1 (.t 28) (.t 27)⟩])
 (.reg [⟨(some 29), none, .mov (.t 6)⟩,
 ⟨(some 4), none, .mov (.t 29)⟩]))))
 (.reg [⟨(some 12), none, .mov (.t 5)⟩,
 ⟨(some 13), none, .bin .add (.t 12) (.c (.i .i64 1))⟩,
 ⟨(some 5), none, .mov (.t 13)⟩])))
 (.norm false [0, 4, 5]))
def b96 : AX :=
 (.seq
 (.reg [⟨(some 4), none, .mov (.c (u32 0))⟩])
 (.seq
 (.seq
 (.reg [⟨(some 7), none, .mov (.t 1)⟩])
 (.cond (.t 7)
 (.reg [⟨(some 4), none, .mov (.c (u32 1))⟩])
 .skip))
 (.seq
 (.reg [⟨(some 5), none, .mov (.c (.i .i64 0))⟩])
 (.lp 0 (.norm false [0, 4, 5]) l96_0 (.norm false [])))))
def l97_0 : AX :=
 (.note
 (.seq
 (.seq
 (.reg [⟨(some 8), none, .mov (.t 5)⟩,
 ⟨(some 9), none, .mov (.t 0)⟩,
 ⟨(some 10), none, .len (.t 9)⟩,
 ⟨(some 11), none, .bin .lss (.t 8) (.t 10)⟩])
 (.cond (.t 11)
 .skip
 (.exit 0)))
 (.seq
 (.block 1
 (.seq
 (.reg [⟨(some 14), none, .mov (.t 0)⟩,
 ⟨(some 15), none, .mov (.t 5)⟩,
 ⟨(some 16), none, .iad 1 (.t 14) (.t 15)⟩,
 ⟨(some 17), none, .load none (.t 16)⟩,
 ⟨(some 18), none, .conv .u64 (.t 17)⟩,
 ⟨(some 6), none, .mov (.t 18)⟩])
 (.seq
 (.reg [⟨(some 19), none, .mov (.t 1)⟩,
 ⟨(some 20), none, .mov (.t 5)⟩,
 ⟨(some 21), none, .call 84 [(.t 19), (.t 20)]⟩,
 ⟨(some 22), none, .conv .u64 (.t 21)⟩,
 ⟨(some 23), none, .mov (.t 4)⟩,
 ⟨(some 24), none, .bin .add (.t 22) (.t 23)⟩,
 ⟨(some 7), none, .mov (.t 24)⟩])
 (.seq
 (.reg [⟨(some 4), none, .mov (.c (u64 0))⟩])
 (.seq
 (.seq
 (.reg [⟨(some 25), none, .mov (.t 6)⟩,
 ⟨(some 26), none, .mov (.t 7)⟩,
 ⟨(some 27), none, .bin .lss (.t 25) (.t 26)⟩])
 (.cond (.t 27)
 (.seq
 (.reg [⟨(some 28), none, .mov (.t 6)⟩,
 ⟨(some 29), none, .bin .add (.t 28) (.c (u64 4294967296))⟩,
 ⟨(some 6), none, .mov (.t 29)⟩])
 (.reg [⟨(some 4), none, .mov (.c (u64 1))⟩]))
 .skip))
 (.reg [⟨(some 30), none, .mov (.t 0)⟩,
 ⟨(some 31), none, .mov (.t 5)⟩,
 ⟨(some 32), none, .mov (.t 6)⟩,
 ⟨(some 33), none, .mov (.t 7)⟩,
 ⟨(some 34), none, .bin .sub (.t 32) (.t 33)⟩,
 ⟨(some 35), none, .conv .u32 (.t 34)⟩,
 ⟨(some 36), none, .iad 1 (.t 30) (.t 31)⟩,
 ⟨none, none, .store 1 (.t 36) (.t 35)⟩]))))))
 (.reg [⟨(some 12), none, .mov (.t 5)⟩,
 ⟨(some 13), none, .bin .add (.t 12) (.c (.i .i64 1))⟩,
 ⟨(some 5), none, .mov (.t 13)⟩])))
 (.norm false [0, 1, 4, 5]))
def b97 : AX :=
 (.seq
 (.reg [⟨(some 4), none, .mov (.c (u64 0))⟩])
 (.seq
 (.reg [⟨(some 5), none, .mov (.c (.i .i64 0))⟩])
 (.lp 0 (.norm false [0, 1, 4, 5]) l97_0 (.norm false []))))
def l63_0 : AX :=
 (.note
 (.seq
 (.seq
 (.reg [⟨(some 19), none, .mov (.t 8)⟩,
 ⟨(some 20), none, .bin .geq (.t 19) (.c (.i .i64 0))⟩])
 (.cond (.t 20)
 .skip
 (.exit 0)))
 (.seq
 (.block 1
 (.seq
 (.drawT [⟨(some 23), none, .mov (.t 7)⟩,
 ⟨(some 24), none, .mov (.t 0)⟩,
 ⟨(some 25), none, .mov (.t 8)⟩,
 ⟨(some 26), none, .bin .quo (.t 25) (.c (.i .i64 32))⟩,
 ⟨(some 27), none, .iad 1 (.t 24) (.t 26)⟩,
 ⟨(some 28), none, .load none (.t 27)⟩,
 ⟨(some 29), none, .mov (.t 8)⟩,
 ⟨(some 30), none, .bin .rem (.t 29) (.c (.i .i64 32))⟩,
 ⟨(some 31), none, .bin .shl (.c (u32 1)) (.t 30)⟩,
 ⟨(some 32), none, .bin .quo (.t 28) (.t 31)⟩,
 ⟨(some 33), none, .bin .rem (.t 32) (.c (u32 2))⟩,
 ⟨(some 34), none, .bin .eql (.t 33) (.c (u32 1))⟩]
 [⟨(some 35), none, .call 96 [(.t 23), (.t 34)]⟩])
 (.seq
 (.reg [⟨(some 36), none, .mov (.t 6)⟩,
 ⟨(some 37), none, .call 96 [(.t 36), (.c (.b false))]⟩])
 (.seq
 (.reg [⟨(some 38), none, .mov (.t 7)⟩,
 ⟨(some 39), none, .mov (.t 1)⟩,
 ⟨(some 40), none, .call 52 [(.t 38), (.t 39)]⟩,
 ⟨(some 41), none, .bin .geq (.t 40) (.c (.i .i64 0))⟩])
 (.cond (.t 41)
 (.seq
 (.reg [⟨(some 42), none, .mov (.t 7)⟩,
 ⟨(some 43), none, .mov (.t 1)⟩,
 ⟨(some 44), none, .call 97 [(.t 42), (.t 43)]⟩])
 (.reg [⟨(some 45), none, .mov (.t 6)⟩,
 ⟨(some 46), none, .iad 1 (.t 45) (.c (.i .i64 0))⟩,
 ⟨(some 47), none, .load none (.t 46)⟩,
 ⟨(some 48), none, .bin .add (.t 47) (.c (u32 1))⟩,
 ⟨(some 49), none, .iad 1 (.t 45) (.c (.i .i64 0))⟩,
 ⟨none, none, .store 1 (.t 49) (.t 48)⟩]))
 .skip)))))
 (.reg [⟨(some 21), none, .mov (.t 8)⟩,
 ⟨(some 22), none, .bin .sub (.t 21) (.c (.i .i64 1))⟩,
 ⟨(some 8), none, .mov (.t 22)⟩])))
 (.norm false [0, 1, 6, 7, 8]))
def b63 : AX :=
 (.seq
 (.reg [⟨(some 4), none, .mov (.c (.sl [] .nl))⟩,
 ⟨(some 5), none, .mov (.c (.sl [] .nl))⟩])
 (.seq
 (.reg [⟨(some 9), none, .mov (.t 0)⟩,
 ⟨(some 10), none, .len (.t 9)⟩,
 ⟨(some 11), none, .mks 1 [(u32 0)] (.t 10) (.t 10)⟩,
 ⟨(some 6), none, .mov (.t 11)⟩])
 (.seq
 (.reg [⟨(some 12), none, .mov (.t 1)⟩,
 ⟨(some 13), none, .len (.t 12)⟩,
 ⟨(some 14), none, .bin .add (.t 13) (.c (.i .i64 1))⟩,
 ⟨(some 15), none, .mks 1 [(u32 0)] (.t 14) (.t 14)⟩,
 ⟨(some 7), none, .mov (.t 15)⟩])
 (.seq
 (.seq
 (.reg [⟨(some 16), none, .mov (.t 0)⟩,
 ⟨(some 17), none, .call 95 [(.t 16)]⟩,
 ⟨(some 18), none, .bin .sub (.t 17) (.c (.i .i64 1))⟩,
 ⟨(some 8), none, .mov (.t 18)⟩])
 (.lp 0 (.norm false [0, 1, 6, 7, 8]) l63_0 (.norm false [6, 7])))
 (.seq
 (.reg [⟨(some 50), none, .mov (.t 6)⟩,
 ⟨(some 51), none, .call 43 [(.t 50)]⟩,
 ⟨(some 52), none, .mov (.t 7)⟩,
 ⟨(some 53), none, .call 43 [(.t 52)]⟩,
 ⟨(some 4), none, .mov (.t 51)⟩,
 ⟨(some 5), none, .mov (.t 53)⟩])
 (.pre (.norm false [4, 5]) .ret))))))
class CRef05 (T : Tbl) : Prop extends CRef04 T where
 h122 : T 122 = some ⟨2, 32, [.t 4], b122, none, false⟩
 h95 : T 95 = some ⟨1, 19, [.t 2], b95, none, false⟩
 h96 : T 96 = some ⟨2, 30, [], b96, (some [true, false]), false⟩
 h97 : T 97 = some ⟨2, 37, [], b97, (some [true, false]), false⟩
 h63 : T 63 = some ⟨2, 54, [.t 4, .t 5], b63, none, false⟩
section
variable {T : Tbl} [CRef05 T] {d : Option Nat} {st : St}
@[simp] theorem x122 (xs : List AV) : callX (orc T) T 122 xs d st = bL (frzL st.heap xs) fun ys => cR (callF T 122 (ys.map (wkIf false))) xs d st := callX_pure CRef05.h122
theorem f122 (xs : List AV) (hn : xs.length = 2) : callF T 122 xs = retF [.t 4] false (evX (orc T) T 0 b122 ⟨argEnv xs, [], 1⟩) := callF_eq CRef05.h122 hn
@[simp] theorem x95 (xs : List AV) : callX (orc T) T 95 xs d st = bL (frzL st.heap xs) fun ys => cR (callF T 95 (ys.map (wkIf false))) xs d st := callX_pure CRef05.h95
@[simp] theorem y95 {e : Env} {h : Heap} {older : List Heap} (args : List Opd) : opD (orc T) T (.call 95 args) e h older = dR (callF T 95 ((args.map (ev e.get)).map (wkIf false))) (args.map (ev e.get)) := opD_call CRef05.h95
theorem f95 (xs : List AV) (hn : xs.length = 1) : callF T 95 xs = retF [.t 2] false (evX (orc T) T 0 b95 ⟨argEnv xs, [], 1⟩) := callF_eq CRef05.h95 hn
@[simp] theorem x96 (xs : List AV) : callX (orc T) T 96 xs d st = bL (frzM st.heap [true, false] xs) fun ys => lentX ys (shareIds (refsM [true, false] xs) st.heap) (reach (shareIds (refsM [true, false] xs) st.heap) 40 (rootsM [true, false] xs) []) T 96 false d st := callX_lent CRef05.h96
theorem f96 (xs : List AV) (hb : Heap) (hn : xs.length = 2) : callH T 96 xs hb = retH [] false hb.length (evX (orc T) T hb.length b96 ⟨argEnv xs, hb, hb.length + 1⟩) := callH_eq CRef05.h96 hn
@[simp] theorem x97 (xs : List AV) : callX (orc T) T 97 xs d st = bL (frzM st.heap [true, false] xs) fun ys => lentX ys (shareIds (refsM [true, false] xs) st.heap) (reach (shareIds (refsM [true, false] xs) st.heap) 40 (rootsM [true, false] xs) []) T 97 false d st := callX_lent CRef05.h97
theorem f97 (xs : List AV) (hb : Heap) (hn : xs.length = 2) : callH T 97 xs hb = retH [] false hb.length (evX (orc T) T hb.length b97 ⟨argEnv xs, hb, hb.length + 1⟩) := callH_eq CRef05.h97 hn
@[simp] theorem x63 (xs : List AV) : callX (orc T) T 63 xs d st = bL (frzL st.heap xs) fun ys => cR (callF T 63 (ys.map (wkIf false))) xs d st := callX_pure CRef05.h63
theorem f63 (xs : List AV) (hn : xs.length = 2) : callF T 63 xs = retF [.t 4, .t 5] false (evX (orc T) T 0 b63 ⟨argEnv xs, [], 1⟩) := callF_eq CRef05.h63 hn
end
end Go.Ab
end

section
namespace Go.Ab
section
variable {T : Tbl} [CRef05 T]
def stDb (a : List UInt32) (y : Nat × Nat × List UInt32) : St :=
 ⟨[(0, .bs (.bor 0) 0 1 0 a.length), (4, u32 y.2.1), (5, .i .i64 y.1)], [(.bor 0, ⟨0, .own, 1, u32s (y.2.2 ++ a.drop y.1)⟩)], 4⟩
theorem db_step {p m c c' w s x k : Nat} (h : m + p * c = 2 * s + k) (e : w + 4294967296 * c' = 2 * x + c) : (m + p * w) + p * 4294967296 * c' = 2 * (s + p * x) + k := by
 have e2 : p * w + p * 4294967296 * c' = p * (2 * x) + p * c := by rw [Nat.mul_assoc, ← Nat.mul_add, e, Nat.mul_add]
 have e3 : p * (2 * x) = 2 * (p * x) := by rw [← Nat.mul_assoc, Nat.mul_comm p 2, Nat.mul_assoc]
 omega
end
section
variable {T : Tbl}
theorem db_loop (a : List UInt32) (c0 : Nat) (hl : a.length ≤ 1000000) : ∀ y : Nat × Nat × List UInt32,
  (y.1 ≤ a.length ∧ y.2.1 ≤ 1 ∧ y.2.2.length = y.1 ∧ val y.2.2 + 4294967296 ^ y.1 * y.2.1 = 2 * val (a.take y.1) + c0) →
  ∃ r, (∃ (c : Nat) (m : List UInt32), r = (Ex.n, (⟨[], [(.bor 0, ⟨0, .own, 1, u32s m⟩)], 4⟩ : St)) ∧
   m.length = a.length ∧ c ≤ 1 ∧ val m + 4294967296 ^ a.length * c = 2 * val a + c0) ∧ loopN T 1 0 (.norm false []) l96_0 (stDb a y) = some r := by
 refine loopN_ex _ _ (fun y => a.length - y.1) _ ?_
 rintro ⟨i, c, m⟩ ⟨hi, hc, hm, hv⟩
 simp only at hi hc hm hv
 by_cases h0 : i < a.length
 ·left
  have ha : a[i]? = some (a[i]'h0) := List.getElem?_eq_getElem h0
  have hg := get_mid (P := []) hm h0
  have hw : IntKind.wrap .i64 ((i : Int) + 1) = ((i + 1 : Nat) : Int) := wrap_i64 _ (by omega)
  have hlx := u32_lt (a[i]'h0)
  have hset := set_mid (P := []) (w32 ((a[i]'h0).toNat * 2 % 4294967296 + c)) hm h0
  simp at hg hset
  have m1 : ((a[i]'h0).toNat * 2 % 4294967296 + c) % 4294967296 = (a[i]'h0).toNat * 2 % 4294967296 + c := Nat.mod_eq_of_lt (by omega)
  have m2 : (a[i]'h0).toNat / 2147483648 < 4294967296 := by omega
  have m3 : (a[i]'h0).toNat * 2 % 4294967296 + c < 4294967296 := by omega
  refine ⟨(i + 1, (a[i]'h0).toNat / 2147483648, m ++ [w32 ((a[i]'h0).toNat * 2 % 4294967296 + c)]), ⟨h0, by simp only; omega, by simp [hm], ?_⟩, by simp only; omega, ?_⟩
  ·simp only
   rw [val_append, val_take_succ ha, Nat.pow_succ, hm]
   simp only [val_cons, val_nil, Nat.mul_zero, Nat.add_zero, w32_mod]
   exact db_step hv (by omega)
  ·simp -implicitDefEqProofs [l96_0, stDb, h0, hw, hg, hset, m1, m2, u32s_set _ _ _ m3]
 ·right
  have : i = a.length := by omega
  subst this
  rw [List.take_of_length_le (Nat.le_refl a.length)] at hv
  refine ⟨_, ⟨c, m, rfl, hm, hc, hv⟩, ?_, ?_⟩ <;> simp -implicitDefEqProofs [l96_0, stDb]
end
section
variable {T : Tbl} [CRef05 T]
theorem ref05_double (a : List UInt32) (v : Bool) (hl : a.length ≤ 1000000) :
  ∃ (c : Nat) (m : List UInt32), m.length = a.length ∧ c ≤ 1 ∧ val m + 4294967296 ^ a.length * c = 2 * val a + (if v then 1 else 0) ∧
   callH T 96 [.bs (.bor 0) 0 1 0 a.length, .b v] [(.bor 0, ⟨0, .own, 1, u32s a⟩)] = some (.tup [], [(.bor 0, ⟨0, .own, 1, u32s m⟩)]) := by
 obtain ⟨_, ⟨c, m, rfl, hm, hc, hv⟩, hr⟩ := db_loop (T := T) a (if v then 1 else 0) hl (0, (if v then 1 else 0), []) ⟨Nat.zero_le _, by cases v <;> simp, rfl, by cases v <;> simp⟩
 refine ⟨c, m, hm, hc, hv, ?_⟩
 unfold stDb at hr
 simp at hr
 rw [f96 _ _ rfl, b96]
 cases v
 ·simp at hr
  simp -implicitDefEqProofs [hr]
 ·simp at hr
  simp -implicitDefEqProofs [hr]
def stLs (a b : List UInt32) (y : Nat × Nat × List UInt32) : St :=
 ⟨[(0, .bs (.bor 0) 0 1 0 a.length), (1, .sl (u32s b) .an), (4, u64 y.2.1), (5, .i .i64 y.1)], [(.bor 0, ⟨0, .own, 1, u32s (y.2.2 ++ a.drop y.1)⟩)], 4⟩
theorem ls_loop (a b : List UInt32) (hl : a.length ≤ 1000000) (hb : b.length ≤ 1000000) : ∀ y : Nat × Nat × List UInt32,
  (y.1 ≤ a.length ∧ y.2.1 ≤ 1 ∧ y.2.2.length = y.1 ∧ val y.2.2 + val (b.take y.1) = val (a.take y.1) + 4294967296 ^ y.1 * y.2.1) →
  ∃ r, (∃ (c : Nat) (m : List UInt32), r = (Ex.n, (⟨[], [(.bor 0, ⟨0, .own, 1, u32s m⟩)], 4⟩ : St)) ∧
   m.length = a.length ∧ c ≤ 1 ∧ val m + val (b.take a.length) = val a + 4294967296 ^ a.length * c) ∧ loopN T 1 0 (.norm false []) l97_0 (stLs a b y) = some r := by
 refine loopN_ex _ _ (fun y => a.length - y.1) _ ?_
 rintro ⟨i, c, m⟩ ⟨hi, hc, hm, hv⟩
 simp only at hi hc hm hv
 by_cases h0 : i < a.length
 ·left
  have ha : a[i]? = some (a[i]'h0) := List.getElem?_eq_getElem h0
  have hg := get_mid (P := []) hm h0
  have hw : IntKind.wrap .i64 ((i : Int) + 1) = ((i + 1 : Nat) : Int) := wrap_i64 _ (by omega)
  have cb := ref02_at (T := T) b i hb
  have la := u32_lt (a[i]'h0)
  have lb := atW_lt b i
  have e1 := val_take_succ ha
  have e2 := val_take_atW b i
  simp at hg
  have m1 : (a[i]'h0).toNat % 18446744073709551616 = (a[i]'h0).toNat := Nat.mod_eq_of_lt (by omega)
  have m2 : atW b i % 18446744073709551616 = atW b i := Nat.mod_eq_of_lt (by omega)
  have m3 : (atW b i + c) % 18446744073709551616 = atW b i + c := Nat.mod_eq_of_lt (by omega)
  have m4 : ((a[i]'h0).toNat + 4294967296) % 18446744073709551616 = (a[i]'h0).toNat + 4294967296 := Nat.mod_eq_of_lt (by omega)
  have fin : ∀ s d : Nat, d ≤ 1 → s < 4294967296 → s + (atW b i + c) = (a[i]'h0).toNat + 4294967296 * d →
    val (m ++ [w32 s]) + val (b.take (i + 1)) = val (a.take (i + 1)) + 4294967296 ^ (i + 1) * d := by
   intro s d hd hs h
   rw [val_append, hm, e1, e2, Nat.pow_succ]
   simp only [val_cons, val_nil, Nat.mul_zero, Nat.add_zero, w32_of_lt hs]
   generalize 4294967296 ^ i = p at *
   have e3 : p * s + p * (atW b i + c) = p * (a[i]'h0).toNat + p * 4294967296 * d := by rw [← Nat.mul_add, h, Nat.mul_add, Nat.mul_assoc]
   rw [Nat.mul_add] at e3
   omega
  by_cases h1 : (a[i]'h0).toNat < atW b i + c
  ·have hs : sub64 ((a[i]'h0).toNat + 4294967296) (atW b i + c) = (a[i]'h0).toNat + 4294967296 - (atW b i + c) := sub64_le (by omega) (by omega)
   have m5 : (a[i]'h0).toNat + 4294967296 - (atW b i + c) < 4294967296 := by omega
   have hset := set_mid (P := []) (w32 ((a[i]'h0).toNat + 4294967296 - (atW b i + c))) hm h0
   simp at hset
   refine ⟨(i + 1, 1, m ++ [w32 ((a[i]'h0).toNat + 4294967296 - (atW b i + c))]), ⟨h0, Nat.le_refl _, by simp [hm], fin _ 1 (by omega) (by omega) (by omega)⟩, by simp only; omega, ?_⟩
   simp -implicitDefEqProofs [l97_0, stLs, h0, cb, m1, m2, m3, m4, h1, hs, hg, hw, hset]
  ·have hs : sub64 (a[i]'h0).toNat (atW b i + c) = (a[i]'h0).toNat - (atW b i + c) := sub64_le (by omega) (by omega)
   have m5 : (a[i]'h0).toNat - (atW b i + c) < 4294967296 := by omega
   have hset := set_mid (P := []) (w32 ((a[i]'h0).toNat - (atW b i + c))) hm h0
   simp at hset
   refine ⟨(i + 1, 0, m ++ [w32 ((a[i]'h0).toNat - (atW b i + c))]), ⟨h0, Nat.zero_le _, by simp [hm], fin _ 0 (by omega) (by omega) (by omega)⟩, by simp only; omega, ?_⟩
   simp -implicitDefEqProofs [l97_0, stLs, h0, cb, m1, m2, m3, h1, hs, hg, hw, hset]
 ·right
  have : i = a.length := by omega
  subst this
  rw [List.take_of_length_le (Nat.le_refl a.length)] at hv
  refine ⟨_, ⟨c, m, rfl, hm, hc, hv⟩, ?_, ?_⟩ <;> simp -implicitDefEqProofs [l97_0, stLs]
theorem ref05_less (a b : List UInt32) (hl : a.length ≤ 1000000) (hb : b.length ≤ a.length) (hab : val b ≤ val a) :
  ∃ m : List UInt32, m.length = a.length ∧ val m = val a - val b ∧
   callH T 97 [.bs (.bor 0) 0 1 0 a.length, .sl (u32s b) .an] [(.bor 0, ⟨0, .own, 1, u32s a⟩)] = some (.tup [], [(.bor 0, ⟨0, .own, 1, u32s m⟩)]) := by
 obtain ⟨_, ⟨c, m, rfl, hm, hc, hv⟩, hr⟩ := ls_loop (T := T) a b hl (by omega) (0, 0, []) ⟨Nat.zero_le _, Nat.zero_le _, rfl, by simp⟩
 rw [List.take_of_length_le hb] at hv
 have hlo := val_lt m
 rw [hm] at hlo
 have hval : val m = val a - val b := by
  rcases Nat.eq_zero_or_pos c with h1 | h1
  ·subst h1; omega
  ·have : c = 1 := by omega
   subst this
   omega
 refine ⟨m, hm, hval, ?_⟩
 unfold stLs at hr
 simp at hr
 rw [f97 _ _ rfl, b97]
 simp -implicitDefEqProofs [hr]
def stHs (x i : Nat) (y : Nat) : St := ⟨[(1, .i .i64 i), (5, u32 (x / 2 ^ y)), (6, .i .i64 y)], [], 2⟩
end
section
variable {T : Tbl}
theorem hs_loop (x i : Nat) (_hi : i ≤ 100000000) (hx : x < 4294967296) : ∀ y : Nat, y ≤ i % 32 →
  ∃ r, (r = (Ex.n, (⟨[(5, u32 (x / 2 ^ (i % 32)))], [], 2⟩ : St))) ∧ loopN T 0 0 (.norm false [5]) l122_0 (stHs x i y) = some r := by
 refine loopN_ex _ _ (fun y => i % 32 - y) _ ?_
 intro j hj
 have hm : ((i : Int).tmod 32) = ((i % 32 : Nat) : Int) := rfl
 have hlt : x / 2 ^ j < 4294967296 := Nat.lt_of_le_of_lt (Nat.div_le_self _ _) hx
 by_cases h0 : j < i % 32
 ·left
  have hw : IntKind.wrap .i64 ((j : Int) + 1) = ((j + 1 : Nat) : Int) := wrap_i64 _ (by omega)
  have hd : x / 2 ^ j / 2 = x / 2 ^ (j + 1) := by rw [Nat.div_div_eq_div_mul, Nat.pow_succ]
  have hd2 : x / 2 ^ (j + 1) % 4294967296 = x / 2 ^ (j + 1) := Nat.mod_eq_of_lt (Nat.lt_of_le_of_lt (Nat.div_le_self _ _) hx)
  refine ⟨j + 1, h0, by omega, ?_⟩
  have hj2 : (j : Int) < (i : Int) % 32 := by omega
  simp -implicitDefEqProofs [l122_0, stHs, hm, hw, hd, hd2, hj2]
 ·right
  have : j = i % 32 := by omega
  subst this
  refine ⟨_, rfl, ?_, ?_⟩ <;> simp -implicitDefEqProofs [l122_0, stHs, hm]
end
section
variable {T : Tbl} [CRef05 T]
theorem ref03_has (a : List UInt32) (i : Nat) (hl : a.length ≤ 1000000) (hi : i < 32 * a.length) :
  callF T 122 [.sl (u32s a) .an, .i .i64 i] = some (.b (decide (val a / 2 ^ i % 2 = 1))) := by
 have h1 : i / 32 < a.length := by omega
 have ha : a[i / 32]? = some (a[i / 32]'h1) := List.getElem?_eq_getElem h1
 obtain ⟨_, rfl, hr⟩ := hs_loop (T := T) (a[i / 32]'h1).toNat i (by omega) (u32_lt _) 0 (Nat.zero_le _)
 unfold stHs at hr
 simp at hr
 have hq : IntKind.wrap .i64 ((i : Int) / 32) = (i : Int) / 32 := wrap_i64 (i / 32) (by omega)
 have hq1 : ((i : Int) / 32).toNat = i / 32 := by omega
 have hq2 : (0 : Int) ≤ (i : Int) / 32 := by omega
 have hq3 : (i : Int) / 32 < (a.length : Int) := by omega
 have hq4 : ¬ (a.length : Int) ≤ (i : Int) / 32 := by omega
 have hb := val_bit ha
 have hlt : (a[i / 32]'h1).toNat / 2 ^ (i % 32) < 4294967296 := Nat.lt_of_le_of_lt (Nat.div_le_self _ _) (u32_lt _)
 rw [f122 _ rfl, b122]
 simp -implicitDefEqProofs [hr, hq, hq1, hq2, hq3, hq4, h1, hb]
def stLn (a : List UInt32) (y : Nat) : St := ⟨[(0, .sl (u32s a) .an), (3, .i .i64 y)], [], 2⟩
theorem ln_loop (a : List UInt32) (hl : a.length ≤ 1000000) : ∀ y : Nat, (y ≤ 32 * a.length ∧ val a < 2 ^ y) →
  ∃ r, (∃ n : Nat, r = (Ex.n, (⟨[(3, .i .i64 n)], [], 2⟩ : St)) ∧ n ≤ 32 * a.length ∧ val a < 2 ^ n) ∧ loopN T 0 0 (.norm false [3]) l95_0 (stLn a y) = some r := by
 refine loopN_ex _ _ (fun y => y) _ ?_
 rintro k ⟨hk, hv⟩
 by_cases h0 : k = 0
 ·right
  subst h0
  refine ⟨_, ⟨0, rfl, Nat.zero_le _, hv⟩, ?_, ?_⟩ <;> simp -implicitDefEqProofs [l95_0, stLn]
 ·obtain ⟨j, rfl⟩ : ∃ j, k = j + 1 := ⟨k - 1, by omega⟩
  have hw : IntKind.wrap .i64 (j : Int) = (j : Int) := wrap_i64 _ (by omega)
  have hh := ref03_has (T := T) a j hl (by omega)
  have hp : (0 : Int) < (j : Int) + 1 := by omega
  by_cases h1 : val a / 2 ^ j % 2 = 1
  ·right
   refine ⟨_, ⟨j + 1, rfl, hk, hv⟩, ?_, ?_⟩ <;> simp -implicitDefEqProofs [l95_0, stLn, hw, hh, hp, h1]
  ·left
   refine ⟨j, ⟨by omega, lt_of_bit hv (by generalize val a / 2 ^ j = q at *; omega)⟩, by omega, ?_⟩
   simp -implicitDefEqProofs [l95_0, stLn, hw, hh, hp, h1]
theorem ref03_len (a : List UInt32) (hl : a.length ≤ 1000000) : ∃ n : Nat, n ≤ 32 * a.length ∧ val a < 2 ^ n ∧ callF T 95 [.sl (u32s a) .an] = some (.i .i64 n) := by
 obtain ⟨_, ⟨n, rfl, hn, hv⟩, hr⟩ := ln_loop (T := T) a hl (32 * a.length) ⟨Nat.le_refl _, by rw [← pow32]; exact val_lt a⟩
 refine ⟨n, hn, hv, ?_⟩
 unfold stLn at hr
 simp at hr
 have hw : IntKind.wrap .i64 (32 * (a.length : Int)) = 32 * (a.length : Int) := by
  have := wrap_i64 (32 * a.length) (by omega)
  simpa using this
 rw [f95 _ rfl, b95]
 simp -implicitDefEqProofs [hr, hw]
end
end Go.Ab
end

section
namespace Go.Ab
section
variable {T : Tbl} [CRef05 T]
theorem shl1_u32 (n : Nat) (h : n < 32) : binV .shl (u32 1) (.i .i64 (n : Int)) = some (u32 (2 ^ n)) := by
  have h1 : ¬ (n : Int) < 0 := by omega
  have h2 : 2 ^ n < 4294967296 := by
    have : 2 ^ n < 2 ^ 32 := Nat.pow_lt_pow_right (by decide) h
    simpa using this
  have h3 : min n IntKind.u32.bits = n := by
    have : IntKind.u32.bits = 32 := rfl
    rw [this]; omega
  have h4 : ((1 : Nat) : Int) * 2 ^ n = ((2 ^ n : Nat) : Int) := by simp
  unfold u32
  simp only [binV, if_neg h1, Int.toNat_natCast, h3, h4, wrap_u32, Nat.mod_eq_of_lt h2]
theorem dv_law {v b Q L : Nat} (hb : 0 < b) (hq : Q = v / 2 / b) (hr : L = v / 2 % b) :
    (b ≤ 2 * L + v % 2 → v / b = 2 * Q + 1 ∧ v % b = 2 * L + v % 2 - b) ∧ (2 * L + v % 2 < b → v / b = 2 * Q ∧ v % b = 2 * L + v % 2) := by
  have h1 := Nat.div_add_mod (v / 2) b
  have h2 : L < b := by rw [hr]; exact Nat.mod_lt _ hb
  rw [← hq, ← hr] at h1
  have h3 : v = b * (2 * Q) + (2 * L + v % 2) := by
    rw [← Nat.mul_assoc, Nat.mul_comm b 2, Nat.mul_assoc]
    omega
  have ht : v % 2 < 2 := Nat.mod_lt _ (by decide)
  clear h1 hq hr
  generalize v % 2 = t at *
  rw [h3]
  constructor
  · intro h
    have e : b * (2 * Q) + (2 * L + t) = (2 * L + t - b) + b * (2 * Q + 1) := by rw [Nat.mul_add, Nat.mul_one]; omega
    rw [e, Nat.add_mul_div_left _ _ hb, Nat.add_mul_mod_self_left, Nat.div_eq_of_lt (by omega), Nat.mod_eq_of_lt (by omega)]
    omega
  · intro h
    rw [Nat.add_comm, Nat.add_mul_div_left _ _ hb, Nat.add_mul_mod_self_left, Nat.div_eq_of_lt h, Nat.mod_eq_of_lt h]
    omega
theorem val_inc {a : List UInt32} {x : UInt32} (h : a[0]? = some x) (hx : x.toNat + 1 < 4294967296) : val (a.set 0 (w32 (x.toNat + 1))) = val a + 1 := by
  cases a with
  | nil => cases h
  | cons y l =>
    cases h
    simp only [List.set_cons_zero, val_cons, w32_of_lt hx]
    omega
def stDv (a b : List UInt32) (y : Nat × List UInt32 × List UInt32) : St :=
  ⟨[(0, .sl (u32s a) .an), (1, .sl (u32s b) .an), (6, .bs (.loc 11) 1 1 0 a.length), (7, .bs (.loc 15) 2 1 0 (b.length + 1)), (8, .i .i64 ((y.1 : Int) - 1))], [(.loc 11, ⟨1, .own, 1, u32s y.2.1⟩), (.loc 15, ⟨2, .own, 1, u32s y.2.2⟩)], 4⟩
theorem dv_loop (a b : List UInt32) (ha : a.length ≤ 100000) (hb : b.length ≤ 100000) (h0b : 0 < val b) : ∀ y : Nat × List UInt32 × List UInt32,
    (y.1 ≤ 32 * a.length ∧ y.2.1.length = a.length ∧ y.2.2.length = b.length + 1 ∧ val y.2.1 = val a / 2 ^ y.1 / val b ∧ val y.2.2 = val a / 2 ^ y.1 % val b) →
    ∃ r, (∃ Q L : List UInt32, r = (Ex.n, (⟨[(6, .bs (.loc 11) 1 1 0 a.length), (7, .bs (.loc 15) 2 1 0 (b.length + 1))], [(.loc 11, ⟨1, .own, 1, u32s Q⟩), (.loc 15, ⟨2, .own, 1, u32s L⟩)], 4⟩ : St)) ∧
      Q.length = a.length ∧ L.length = b.length + 1 ∧ val Q = val a / val b ∧ val L = val a % val b) ∧ loopN T 0 0 (.norm false [6, 7]) l63_0 (stDv a b y) = some r := by
  refine loopN_ex _ _ (fun y => y.1) _ ?_
  rintro ⟨k, Q, L⟩ ⟨hk, hQ, hL, hq, hr⟩
  simp only at hk hQ hL hq hr
  cases k with
  | zero =>
    right
    rw [Nat.pow_zero, Nat.div_one] at hq hr
    refine ⟨_, ⟨Q, L, rfl, hQ, hL, hq, hr⟩, ?_, ?_⟩ <;> simp -implicitDefEqProofs [l63_0, stDv]
  | succ j =>
    left
    have h1 : j / 32 < a.length := by omega
    have hag : a[j / 32]? = some (a[j / 32]'h1) := List.getElem?_eq_getElem h1
    have hbit := val_bit hag
    have hw : IntKind.wrap .i64 ((j : Int) - 1) = (j : Int) - 1 := wrap_i64 _ (by omega)
    have hsh : binV .shl (u32 1) (.i .i64 ((j : Int) % 32)) = some (u32 (2 ^ (j % 32))) := shl1_u32 (j % 32) (Nat.mod_lt _ (by decide))
    have hm : ((j : Int).tmod 32) = ((j % 32 : Nat) : Int) := rfl
    have hj0 : IntKind.wrap .i64 ((j : Int) / 32) = (j : Int) / 32 := wrap_i64 (j / 32) (by omega)
    have hj1 : ((j : Int) / 32).toNat = j / 32 := by omega
    have hj2 : (0 : Int) ≤ (j : Int) / 32 := by omega
    have hj3 : (j : Int) / 32 < (a.length : Int) := by omega
    have hxl := u32_lt (a[j / 32]'h1)
    obtain ⟨cL, L2, hL2, hcL, hvL, hrL⟩ := ref05_double (T := T) L (decide ((a[j / 32]'h1).toNat / 2 ^ (j % 32) % 2 = 1)) (by omega)
    obtain ⟨cQ, Q2, hQ2, hcQ, hvQ, hrQ⟩ := ref05_double (T := T) Q false (by omega)
    have hcmp := ref02_cmp (T := T) L2 b (by omega) (by omega)
    have hpq : (2 ^ (j % 32)) ≠ 0 := Nat.ne_of_gt (Nat.pow_pos (by decide))
    rw [hL] at hrL
    rw [hQ] at hrQ
    rw [hL] at hL2
    rw [hQ] at hQ2
    have htL : List.take (b.length + 1) L2 = L2 := List.take_of_length_le (by omega)
    have hres : ∃ Q3 L3 : List UInt32, Q3.length = a.length ∧ L3.length = b.length + 1 ∧ val Q3 = val a / 2 ^ j / val b ∧ val L3 = val a / 2 ^ j % val b ∧
        (evX (orc T) T 0 l63_0 (stDv a b (j + 1, Q, L)) = some (Ex.n, stDv a b (j, Q3, L3))) := by
      have hvb := val_lt b
      have hva := val_lt a
      have hLb : val L < val b := by rw [hr]; exact Nat.mod_lt _ h0b
      have hv2 : val a / 2 ^ (j + 1) = val a / 2 ^ j / 2 := by rw [Nat.pow_succ, Nat.div_div_eq_div_mul]
      rw [hv2] at hq hr
      have hlaw := dv_law h0b hq hr
      have hva2 : val a / 2 ^ j ≤ val a := Nat.div_le_self _ _
      have hq2 : 2 * val Q ≤ val a / 2 ^ j := by
        have h2 : val a / 2 ^ j / 2 / val b ≤ val a / 2 ^ j / 2 := Nat.div_le_self _ _
        omega
      have hL0 : val L2 = 2 * val L + val a / 2 ^ j % 2 := by
        have hb2 : (if decide ((a[j / 32]'h1).toNat / 2 ^ (j % 32) % 2 = 1) = true then 1 else 0) = val a / 2 ^ j % 2 := by
          rw [hbit]
          simp only [decide_eq_true_eq]
          split <;> omega
        rw [hb2, hL, Nat.pow_succ] at hvL
        have ht : val a / 2 ^ j % 2 < 2 := Nat.mod_lt _ (by decide)
        generalize val a / 2 ^ j % 2 = t at *
        generalize 4294967296 ^ b.length = p at *
        rcases Nat.eq_zero_or_pos cL with h | h
        · rw [h, Nat.mul_zero, Nat.add_zero] at hvL
          exact hvL
        · have := Nat.mul_le_mul_left (p * 4294967296) h
          generalize p * 4294967296 * cL = u at *
          omega
      have hQ0 : val Q2 = 2 * val Q := by
        rw [hQ] at hvQ
        simp at hvQ
        generalize 4294967296 ^ a.length = p at *
        rcases Nat.eq_zero_or_pos cQ with h | h
        · rw [h, Nat.mul_zero, Nat.add_zero] at hvQ
          exact hvQ
        · have := Nat.mul_le_mul_left p h
          generalize p * cQ = u at *
          omega
      rw [← hL0] at hlaw
      by_cases hle : val b ≤ val L2
      · have hc : (0 : Int) ≤ cmpN (val L2) (val b) := by unfold cmpN; split; · omega
                                                          · split <;> omega
        obtain ⟨L3, hL3, hvL3, hrL3⟩ := ref05_less (T := T) L2 b (by omega) (by omega) hle
        rw [hL2] at hrL3 hL3
        have h0Q : 0 < Q2.length := by omega
        have hQg : Q2[0]? = some (Q2[0]'h0Q) := List.getElem?_eq_getElem h0Q
        have hev : (Q2[0]'h0Q).toNat + 1 < 4294967296 := by
          have := u32_lt (Q2[0]'h0Q)
          have hc : val Q2 = (Q2[0]'h0Q).toNat + 4294967296 * val (Q2.drop 1) := by
            conv => lhs; rw [← List.drop_zero (l := Q2), List.drop_eq_getElem_cons h0Q, val_cons]
          omega
        have h0a : 0 < a.length := by omega
        have hQg' := hQg
        have hev' := hev
        generalize hqq : (Q2[0]'h0Q).toNat = qq at hev'
        refine ⟨Q2.set 0 (w32 ((Q2[0]'h0Q).toNat + 1)), L3, by simp [hQ2], hL3, by rw [val_inc hQg hev, hQ0, (hlaw.1 hle).1], by rw [hvL3, (hlaw.1 hle).2], ?_⟩
        simp -implicitDefEqProofs [l63_0, stDv, hw, hsh, hm, hj0, hj1, hj2, hj3, h1, hrL, hrQ, hL2, htL, hcmp, hc, hrL3, hQ2, h0a]
      · have hc : ¬ (0 : Int) ≤ cmpN (val L2) (val b) := by unfold cmpN; rw [if_pos (by omega)]; decide
        have hlt : val L2 < val b := by omega
        refine ⟨Q2, L2, hQ2, hL2, by rw [hQ0, (hlaw.2 hlt).1], by rw [(hlaw.2 hlt).2], ?_⟩
        simp -implicitDefEqProofs [l63_0, stDv, hw, hsh, hm, hj0, hj1, hj2, hj3, h1, hrL, hrQ, hL2, htL, hcmp, hc]
    obtain ⟨Q3, L3, e1, e2, e3, e4, e5⟩ := hres
    exact ⟨(j, Q3, L3), ⟨by simp only; omega, e1, e2, e3, e4⟩, Nat.lt_succ_self j, e5⟩
theorem ref05_div (a b : List UInt32) (ha : a.length ≤ 100000) (hb : b.length ≤ 100000) (h0b : 0 < val b) :
    callF T 63 [.sl (u32s a) .an, .sl (u32s b) .an] = some (.tup [.sl (u32s (ofN (val a / val b))) .an, .sl (u32s (ofN (val a % val b))) .an]) := by
  obtain ⟨n, hn, hvn, hln⟩ := ref03_len (T := T) a (by omega)
  have hd0 : val a / 2 ^ n = 0 := Nat.div_eq_of_lt hvn
  obtain ⟨_, ⟨Q, L, rfl, hQ, hL, hq, hr⟩, hlp⟩ := dv_loop (T := T) a b ha hb h0b (n, List.replicate a.length 0, List.replicate (b.length + 1) 0)
    ⟨hn, by simp, by simp, by simp [val_replicate, hd0], by simp only [hd0, Nat.zero_mod]; exact val_replicate _⟩
  have hw : IntKind.wrap .i64 ((n : Int) - 1) = (n : Int) - 1 := wrap_i64 _ (by omega)
  have hw2 : IntKind.wrap .i64 ((b.length : Int) + 1) = ((b.length + 1 : Nat) : Int) := wrap_i64 _ (by omega)
  have h1 : (a.length : Int) ≤ 4294967296 := by omega
  have h2 : (b.length : Int) + 1 ≤ 4294967296 := by omega
  have hn1 := ref02_norm (T := T) Q (by omega)
  have hn2 := ref02_norm (T := T) L (by omega)
  have t1 : List.take a.length Q = Q := List.take_of_length_le (by omega)
  have t2 : List.take (b.length + 1) L = L := List.take_of_length_le (by omega)
  unfold stDv at hlp
  simp at hlp
  rw [f63 _ rfl, b63]
  simp -implicitDefEqProofs [hln, hw, hw2, h1, h2, hlp, hQ, hL, t1, t2, hn1, hn2, hq, hr]
end
end Go.Ab
end

section
namespace Go.Ab
def l2043_0 : AX :=
 (.note
 (.seq
 (.seq
 (.reg [⟨(some 6), none, .mov (.t 3)⟩,
 ⟨(some 7), none, .bin .gtr (.t 6) (.c (.i .i64 0))⟩,
 ⟨(some 8), none, .mov (.t 7)⟩,
 ⟨(some 9), (some (8, true)), .mov (.t 0)⟩,
 ⟨(some 10), (some (8, true)), .mov (.t 3)⟩,
 ⟨(some 11), (some (8, true)), .bin .sub (.t 10) (.c (.i .i64 1))⟩,
 ⟨(some 12), (some (8, true)), .iad 1 (.t 9) (.t 11)⟩,
 ⟨(some 13), (some (8, true)), .load none (.t 12)⟩,
 ⟨(some 14), (some (8, true)), .bin .eql (.t 13) (.c (u32 0))⟩,
 ⟨(some 15), none, .pick (.t 8) (.t 14) (.c (.b false))⟩])
 (.cond (.t 15)
 .skip
 (.exit 0)))
 (.block 1
 (.reg [⟨(some 16), none, .mov (.t 3)⟩,
 ⟨(some 17), none, .bin .sub (.t 16) (.c (.i .i64 1))⟩,
 ⟨(some 3), none, .mov (.t 17)⟩])))
 (.norm false [0, 3]))
def b2043 : AX :=
 (.seq
 (.reg [⟨(some 2), none, .mov (.c (.sl [] .nl))⟩])
 (.seq
 (.reg [⟨(some 4), none, .mov (.t 0)⟩,
 ⟨(some 5), none, .len (.t 4)⟩,
 ⟨(some 3), none, .mov (.t 5)⟩])
 (.seq
 (.lp 0 (.norm false [0, 3]) l2043_0 (.norm false [0, 3]))
 (.seq
 (.reg [⟨(some 18), none, .bsl 1 [(u32 0)] 0 []⟩,
 ⟨(some 19), none, .mov (.t 0)⟩,
 ⟨(some 20), none, .mov (.t 3)⟩,
 ⟨(some 21), none, .slc 1 (.t 19) none (some (.t 20)) none⟩,
 ⟨(some 22), none, .app 1 (.t 18) (.t 21)⟩,
 ⟨(some 2), none, .mov (.t 22)⟩])
 (.pre (.norm false [2]) .ret)))))
class CRef07 (T : Tbl) : Prop extends CRef05 T where
 h2043 : T 2043 = some ⟨1, 23, [.t 2], b2043, (some [false]), false⟩
section
variable {T : Tbl} [CRef07 T] {d : Option Nat} {st : St}
@[simp] theorem x2043 (xs : List AV) : callX (orc T) T 2043 xs d st = bL (frzM st.heap [false] xs) fun ys => lentX ys (shareIds (refsM [false] xs) st.heap) (reach (shareIds (refsM [false] xs) st.heap) 40 (rootsM [false] xs) []) T 2043 false d st := callX_lent CRef07.h2043
theorem f2043 (xs : List AV) (hb : Heap) (hn : xs.length = 1) : callH T 2043 xs hb = retH [.t 2] false hb.length (evX (orc T) T hb.length b2043 ⟨argEnv xs, hb, hb.length + 1⟩) := callH_eq CRef07.h2043 hn
end
end Go.Ab
end

section
namespace Go.Ab
def l224_0 : AX :=
 (.note
 (.seq
 (.seq
 (.reg [mv 6 0, rg 7 (.bin .rem (.t 6) (.c (u32 2))), rg 8 (.bin .eql (.t 7) (.c (u32 0)))])
 (.cond (.t 8)
 .skip
 (.exit 0)))
 (.block 1
 (.seq
 (.reg [mv 9 0, rg 10 (.bin .quo (.t 9) (.c (u32 2))), mv 0 10])
 (.reg [mv 11 3, rg 12 (.bin .add (.t 11) (.c (.i .i64 1))), mv 3 12]))))
 (.norm false [0, 3]))
def b224 : AX :=
 (.seq
 (.reg [rg 2 (.mov (.c (.i .i64 0)))])
 (.seq
 (.seq
 (.reg [mv 4 0, rg 5 (.bin .eql (.t 4) (.c (u32 0)))])
 (.cond (.t 5)
 (.seq
 (.reg [rg 2 (.mov (.c (.i .i64 32)))])
 (.pre (.norm false [2]) .ret))
 .skip))
 (.seq
 (.reg [rg 3 (.mov (.c (.i .i64 0)))])
 (.seq
 (.lp 0 (.norm false [0, 3]) l224_0 (.norm false [3]))
 (.seq
 (.reg [mv 13 3, mv 2 13])
 (.pre (.norm false [2]) .ret))))))
def l225_0 : AX :=
 (.note
 (.seq
 (.seq
 (.reg [mv 7 5, mv 8 0, rg 9 (.len (.t 8)), rg 10 (.bin .lss (.t 7) (.t 9))])
 (.cond (.t 10)
 .skip
 (.exit 0)))
 (.seq
 (.block 1
 (.seq
 (.reg [rg 6 (.mov (.c (u64 0)))])
 (.seq
 (.seq
 (.reg [mv 13 5, rg 14 (.bin .add (.t 13) (.c (.i .i64 1))), mv 15 0, rg 16 (.len (.t 15)), rg 17 (.bin .lss (.t 14) (.t 16))])
 (.cond (.t 17)
 (.reg [mv 18 0, mv 19 5, rg 20 (.bin .add (.t 19) (.c (.i .i64 1))), rg 21 (.iad 1 (.t 18) (.t 20)), rg 22 (.load none (.t 21)), rg 23 (.conv .u64 (.t 22)),
 mv 6 23])
 .skip))
 (.reg [mv 24 0, mv 25 5, mv 26 6, rg 27 (.bin .mul (.t 26) (.c (u64 4294967296))), mv 28 0, mv 29 5, rg 30 (.iad 1 (.t 28) (.t 29)), rg 31 (.load none (.t 30)),
 rg 32 (.conv .u64 (.t 31)), rg 33 (.bin .add (.t 27) (.t 32)), mv 34 1, rg 35 (.bin .shr (.t 33) (.t 34)), rg 36 (.conv .u32 (.t 35)),
 rg 37 (.iad 1 (.t 24) (.t 25)), so (.store 1 (.t 37) (.t 36))]))))
 (.reg [mv 11 5, rg 12 (.bin .add (.t 11) (.c (.i .i64 1))), mv 5 12])))
 (.norm false [0, 1, 5]))
def l225_1 : AX :=
 (.note
 (.seq
 (.seq
 (.reg [mv 38 0, rg 39 (.len (.t 38)), rg 40 (.bin .gtr (.t 39) (.c (.i .i64 0))), mv 41 40, gd 42 41 true (.mov (.t 0)), gd 43 41 true (.mov (.t 0)),
 gd 44 41 true (.len (.t 43)), gd 45 41 true (.bin .sub (.t 44) (.c (.i .i64 1))), gd 46 41 true (.iad 1 (.t 42) (.t 45)),
 gd 47 41 true (.load none (.t 46)), gd 48 41 true (.bin .eql (.t 47) (.c (u32 0))), rg 49 (.pick (.t 41) (.t 48) (.c (.b false)))])
 (.cond (.t 49)
 .skip
 (.exit 2)))
 (.block 3
 (.reg [mv 50 0, mv 51 0, rg 52 (.len (.t 51)), rg 53 (.bin .sub (.t 52) (.c (.i .i64 1))), rg 54 (.slc 1 (.t 50) none (some (.t 53)) none), mv 0 54])))
 (.norm false [0]))
def b225 : AX :=
 (.seq
 (.reg [rg 4 (.mov (.c (.sl [] .nl)))])
 (.seq
 (.seq
 (.reg [rg 5 (.mov (.c (.i .i64 0)))])
 (.lp 0 (.norm false [0, 1, 5]) l225_0 (.norm false [0])))
 (.seq
 (.lp 2 (.norm false [0]) l225_1 (.norm false [0]))
 (.seq
 (.reg [mv 55 0, mv 4 55])
 (.pre (.norm false [4]) .ret)))))
def l226_0 : AX :=
 (.note
 (.seq
 (.seq
 (.reg [mv 6 0, rg 7 (.iad 1 (.t 6) (.c (.i .i64 0))), rg 8 (.load none (.t 7)), rg 9 (.bin .eql (.t 8) (.c (u32 0)))])
 (.cond (.t 9)
 .skip
 (.exit 0)))
 (.block 1
 (.seq
 (.reg [mv 10 0, rg 11 (.slc 1 (.t 10) (some (.c (.i .i64 1))) none none), mv 0 11])
 (.reg [mv 12 4, rg 13 (.bin .add (.t 12) (.c (.i .i64 32))), mv 4 13]))))
 (.norm false [0, 4]))
def b226 : AX :=
 (.seq
 (.reg [rg 2 (.mov (.c (.sl [] .nl))), rg 3 (.mov (.c (.i .i64 0)))])
 (.seq
 (.reg [rg 4 (.mov (.c (.i .i64 0)))])
 (.seq
 (.lp 0 (.norm false [0, 4]) l226_0 (.norm false [0, 4]))
 (.seq
 (.reg [mv 14 0, rg 15 (.iad 1 (.t 14) (.c (.i .i64 0))), rg 16 (.load none (.t 15)), rg 17 (.call 224 [(.t 16)]), mv 5 17])
 (.seq
 (.reg [mv 18 0, mv 19 5, rg 20 (.call 225 [(.t 18), (.t 19)]), mv 21 4, mv 22 5, rg 23 (.bin .add (.t 21) (.t 22)), mv 2 20, mv 3 23])
 (.pre (.norm false [2, 3]) .ret))))))
def b227 : AX :=
 (.seq
 (.reg [rg 4 (.mov (.c (.sl [] .nl)))])
 (.seq
 (.reg [mv 6 1, rg 7 (.bin .quo (.t 6) (.c (.i .i64 32))), rg 8 (.mks 1 [(u32 0)] (.t 7) (.t 7)), mv 9 0, rg 10 (.app 1 (.t 8) (.t 9)), mv 5 10])
 (.seq
 (.reg [mv 11 5, mv 12 1, rg 13 (.bin .rem (.t 12) (.c (.i .i64 32))), rg 14 (.bin .shl (.c (u32 1)) (.t 13)), rg 15 (.bsl 1 [(u32 0)] 1 [(0, (.t 14))]),
 rg 16 (.call 61 [(.t 11), (.t 15)]), mv 4 16])
 (.pre (.norm false [4]) .ret))))
def l228_0 : AX :=
 (.note
 (.block 1
 (.seq
 (.reg [mv 33 5, mv 34 6, rg 35 (.call 52 [(.t 33), (.t 34)]), mv 9 35])
 (.seq
 (.seq
 (.reg [mv 36 9, rg 37 (.bin .eql (.t 36) (.c (.i .i64 0)))])
 (.cond (.t 37)
 (.exit 0)
 .skip))
 (.seq
 (.seq
 (.reg [mv 38 9, rg 39 (.bin .lss (.t 38) (.c (.i .i64 0)))])
 (.cond (.t 39)
 (.seq
 (.reg [mv 40 5, mv 10 40])
 (.seq
 (.reg [mv 41 6, mv 5 41])
 (.reg [mv 42 10, mv 6 42])))
 .skip))
 (.seq
 (.reg [mv 43 5, mv 44 6, rg 45 (.call 2097 [(.t 43), (.t 44)])])
 (.reg [mv 47 5, rg 48 (.call 226 [(.t 47)]), mv 46 48, rg 49 (.ext (.t 46) 0), rg 50 (.ext (.t 46) 1), mv 5 49]))))))
 (.norm false [5, 6, 7, 8]))
def b228 : AX :=
 (.seq
 (.reg [rg 4 (.mov (.c (.sl [] .nl)))])
 (.seq
 (.reg [mv 11 0, rg 12 (.call 2043 [(.t 11)]), mv 5 12])
 (.seq
 (.reg [mv 13 1, rg 14 (.call 2043 [(.t 13)]), mv 6 14])
 (.seq
 (.seq
 (.reg [mv 15 5, rg 16 (.len (.t 15)), rg 17 (.bin .eql (.t 16) (.c (.i .i64 0)))])
 (.cond (.t 17)
 (.seq
 (.reg [mv 18 6, mv 4 18])
 (.pre (.norm false [4]) .ret))
 .skip))
 (.seq
 (.seq
 (.reg [mv 19 6, rg 20 (.len (.t 19)), rg 21 (.bin .eql (.t 20) (.c (.i .i64 0)))])
 (.cond (.t 21)
 (.seq
 (.reg [mv 22 5, mv 4 22])
 (.pre (.norm false [4]) .ret))
 .skip))
 (.seq
 (.reg [mv 24 5, rg 25 (.call 226 [(.t 24)]), mv 23 25, rg 26 (.ext (.t 23) 0), rg 27 (.ext (.t 23) 1), mv 5 26, mv 7 27])
 (.seq
 (.reg [mv 29 6, rg 30 (.call 226 [(.t 29)]), mv 28 30, rg 31 (.ext (.t 28) 0), rg 32 (.ext (.t 28) 1), mv 6 31, mv 8 32])
 (.seq
 (.lp 0 (.norm false [5, 6, 7, 8]) l228_0 (.norm false [5, 7, 8]))
 (.seq
 (.reg [mv 51 5, mv 52 7, mv 53 8, rg 54 (.mm false [(.t 52), (.t 53)]), rg 55 (.call 227 [(.t 51), (.t 54)]), mv 4 55])
 (.pre (.norm false [4]) .ret))))))))))
def b229 : AX :=
 (.seq
 (.reg [rg 2 (.mov (.c (.b false)))])
 (.seq
 (.reg [mv 3 0, rg 4 (.len (.t 3)), rg 5 (.bin .eql (.t 4) (.c (.i .i64 1))), mv 6 5, gd 7 6 true (.mov (.t 0)), gd 8 6 true (.iad 1 (.t 7) (.c (.i .i64 0))),
 gd 9 6 true (.load none (.t 8)), gd 10 6 true (.bin .eql (.t 9) (.c (u32 1))), rg 11 (.pick (.t 6) (.t 10) (.c (.b false))), mv 2 11])
 (.pre (.norm false [2]) .ret)))
def b230 : AX :=
 (.seq
 (.reg [rg 4 (.mov (.c (.sl [] .nl)))])
 (.seq
 (.seq
 (.reg [mv 7 1, rg 8 (.call 229 [(.t 7)])])
 (.cond (.t 8)
 (.seq
 (.reg [mv 9 0, rg 10 (.call 43 [(.t 9)]), mv 4 10])
 (.pre (.norm false [4]) .ret))
 .skip))
 (.seq
 (.reg [mv 12 0, mv 13 1, rg 14 (.call 63 [(.t 12), (.t 13)]), mv 11 14, rg 15 (.ext (.t 11) 0), rg 16 (.ext (.t 11) 1), mv 5 15, mv 6 16])
 (.seq
 (.reg [mv 17 5, mv 4 17])
 (.pre (.norm false [4]) .ret)))))
def l2097_0 : AX :=
 (.note
 (.seq
 (.seq
 (.reg [mv 8 5, mv 9 0, rg 10 (.len (.t 9)), rg 11 (.bin .lss (.t 8) (.t 10))])
 (.cond (.t 11)
 .skip
 (.exit 0)))
 (.seq
 (.block 1
 (.seq
 (.reg [mv 14 0, mv 15 5, rg 16 (.iad 1 (.t 14) (.t 15)), rg 17 (.load none (.t 16)), rg 18 (.conv .u64 (.t 17)), mv 6 18])
 (.seq
 (.reg [mv 19 1, mv 20 5, rg 21 (.call 84 [(.t 19), (.t 20)]), rg 22 (.conv .u64 (.t 21)), mv 23 4, rg 24 (.bin .add (.t 22) (.t 23)), mv 7 24])
 (.seq
 (.reg [rg 4 (.mov (.c (u64 0)))])
 (.seq
 (.seq
 (.reg [mv 25 6, mv 26 7, rg 27 (.bin .lss (.t 25) (.t 26))])
 (.cond (.t 27)
 (.seq
 (.reg [mv 28 6, rg 29 (.bin .add (.t 28) (.c (u64 4294967296))), mv 6 29])
 (.reg [rg 4 (.mov (.c (u64 1)))]))
 .skip))
 (.reg [mv 30 0, mv 31 5, mv 32 6, mv 33 7, rg 34 (.bin .sub (.t 32) (.t 33)), rg 35 (.conv .u32 (.t 34)), rg 36 (.iad 1 (.t 30) (.t 31)),
 so (.store 1 (.t 36) (.t 35))]))))))
 (.reg [mv 12 5, rg 13 (.bin .add (.t 12) (.c (.i .i64 1))), mv 5 13])))
 (.norm false [0, 1, 4, 5]))
def b2097 : AX :=
 (.seq
 (.reg [rg 4 (.mov (.c (u64 0)))])
 (.seq
 (.reg [rg 5 (.mov (.c (.i .i64 0)))])
 (.lp 0 (.norm false [0, 1, 4, 5]) l2097_0 (.norm false []))))
class CRef06 (T : Tbl) : Prop where
 h224 : T 224 = some ⟨1, 14, [.t 2], b224, none, false⟩
 h225 : T 225 = some ⟨2, 56, [.t 4], b225, (some [true, false]), false⟩
 h226 : T 226 = some ⟨1, 24, [.t 2, .t 3], b226, (some [true]), false⟩
 h227 : T 227 = some ⟨2, 17, [.t 4], b227, none, false⟩
 h228 : T 228 = some ⟨2, 56, [.t 4], b228, none, false⟩
 h229 : T 229 = some ⟨1, 12, [.t 2], b229, none, false⟩
 h230 : T 230 = some ⟨2, 18, [.t 4], b230, none, false⟩
 h2097 : T 2097 = some ⟨2, 37, [], b2097, (some [true, true]), false⟩
section
variable {T : Tbl} [CRef06 T] {d : Option Nat} {st : St} {xs : List AV} {ps : List Opd} {e : Env} {h : Heap} {ol : List Heap}
@[simp] theorem x224 : callX (orc T) T 224 xs d st = cP T 224 false xs d st := callX_pure CRef06.h224
theorem f224 (xs : List AV) (hn : xs.length = 1) : callF T 224 xs = retF [.t 2] false (evX (orc T) T 0 b224 ⟨argEnv xs, [], 1⟩) := callF_eq CRef06.h224 hn
@[simp] theorem x225 : callX (orc T) T 225 xs d st = cL T 225 false [true, false] xs d st := callX_lent CRef06.h225
theorem f225 (xs : List AV) (hb : Heap) (hn : xs.length = 2) : callH T 225 xs hb = retH [.t 4] false hb.length (evX (orc T) T hb.length b225 ⟨argEnv xs, hb, hb.length + 1⟩) := callH_eq CRef06.h225 hn
@[simp] theorem x226 : callX (orc T) T 226 xs d st = cL T 226 false [true] xs d st := callX_lent CRef06.h226
theorem f226 (xs : List AV) (hb : Heap) (hn : xs.length = 1) : callH T 226 xs hb = retH [.t 2, .t 3] false hb.length (evX (orc T) T hb.length b226 ⟨argEnv xs, hb, hb.length + 1⟩) := callH_eq CRef06.h226 hn
@[simp] theorem x227 : callX (orc T) T 227 xs d st = cP T 227 false xs d st := callX_pure CRef06.h227
theorem f227 (xs : List AV) (hn : xs.length = 2) : callF T 227 xs = retF [.t 4] false (evX (orc T) T 0 b227 ⟨argEnv xs, [], 1⟩) := callF_eq CRef06.h227 hn
@[simp] theorem x228 : callX (orc T) T 228 xs d st = cP T 228 false xs d st := callX_pure CRef06.h228
theorem f228 (xs : List AV) (hn : xs.length = 2) : callF T 228 xs = retF [.t 4] false (evX (orc T) T 0 b228 ⟨argEnv xs, [], 1⟩) := callF_eq CRef06.h228 hn
@[simp] theorem x229 : callX (orc T) T 229 xs d st = cP T 229 false xs d st := callX_pure CRef06.h229
theorem f229 (xs : List AV) (hn : xs.length = 1) : callF T 229 xs = retF [.t 2] false (evX (orc T) T 0 b229 ⟨argEnv xs, [], 1⟩) := callF_eq CRef06.h229 hn
@[simp] theorem x230 : callX (orc T) T 230 xs d st = cP T 230 false xs d st := callX_pure CRef06.h230
theorem f230 (xs : List AV) (hn : xs.length = 2) : callF T 230 xs = retF [.t 4] false (evX (orc T) T 0 b230 ⟨argEnv xs, [], 1⟩) := callF_eq CRef06.h230 hn
@[simp] theorem x2097 : callX (orc T) T 2097 xs d st = cL T 2097 false [true, true] xs d st := callX_lent CRef06.h2097
theorem f2097 (xs : List AV) (hb : Heap) (hn : xs.length = 2) : callH T 2097 xs hb = retH [] false hb.length (evX (orc T) T hb.length b2097 ⟨argEnv xs, hb, hb.length + 1⟩) := callH_eq CRef06.h2097 hn
end
end Go.Ab
end

section
namespace Go.Ab
section
variable {T : Tbl} [CRef07 T]
theorem ref02_norm_own (a : List UInt32) (hl : a.length ≤ 1000000) : callH T 2043 [.sl (u32s a) .an] [] =
  some (.bs (.loc 22) 1 1 0 (ofN (val a)).length, [(.loc 22, ⟨1, .own, 1, u32s (ofN (val a))⟩)]) := by
 obtain ⟨n, h1, h2, h3, h4⟩ := ofN_take a
 have hr := ref02_norm_loop (T := T) a (by omega) h1 h3 h4 a.length ⟨h1, Nat.le_refl _⟩
 rw [show l43_0 = l2043_0 from rfl] at hr
 have hlen : (ofN (val a)).length = n := by rw [← h2]; simp; omega
 have hb : n ≤ 4294967296 := by omega
 rw [f2043 _ _ rfl, b2043]
 simp -implicitDefEqProofs [hr, h1, h2, hb, hlen]
def stTen (N : Nat) (y : Nat × Nat × List UInt32) (P : List UInt32) : St :=
 ⟨[(0, .bs (.bor 0) 0 1 0 N), (3, u64 y.2.1), (4, .i .i64 ((y.1 : Int) - 1))], [(.bor 0, ⟨0, .own, 1, u32s (P.take y.1 ++ y.2.2)⟩)], 4⟩
end
section
variable {T : Tbl} [CRef07 T]
def stTx (b : BId) (x : List UInt32) (s : List UInt8) : St := ⟨[(3, .bs b 1 1 0 x.length), (4, .s s)], [(b, ⟨1, .own, 1, u32s x⟩)], 3⟩
end
end Go.Ab
end

section
namespace Go.Ab
def b39 : AX :=
 (.seq
 (.reg [⟨(some 1), none, .xop (.box 2) [(.t 0)]⟩,
 ⟨(some 2), none, .alloc [(.b false), (.sl [] .nl)]⟩])
 (.seq
 (.reg [⟨(some 4), none, .fad 1 (.t 1)⟩,
 ⟨(some 5), none, .load none (.t 4)⟩,
 ⟨(some 6), none, .call 43 [(.t 5)]⟩,
 ⟨(some 3), none, .mov (.t 6)⟩])
 (.seq
 (.reg [⟨(some 7), none, .fad 0 (.t 1)⟩,
 ⟨(some 8), none, .load none (.t 7)⟩,
 ⟨(some 9), none, .mov (.t 8)⟩,
 ⟨(some 10), (some (9, true)), .mov (.t 3)⟩,
 ⟨(some 11), (some (9, true)), .len (.t 10)⟩,
 ⟨(some 12), (some (9, true)), .bin .gtr (.t 11) (.c (.i .i64 0))⟩,
 ⟨(some 13), none, .pick (.t 9) (.t 12) (.c (.b false))⟩,
 ⟨(some 14), none, .mov (.t 3)⟩,
 ⟨(some 15), none, .build [(.b false), (.sl [] .nl)] [(0, 1, (.t 13)), (1, 1, (.t 14))]⟩,
 ⟨none, none, .store 2 (.t 2) (.t 15)⟩])
 (.pre (.norm false [2]) .ret))))
def b21 : AX :=
 (.seq
 (.reg [⟨(some 2), none, .xop (.box 2) [(.t 0)]⟩,
 ⟨(some 3), none, .xop (.box 2) [(.t 1)]⟩,
 ⟨(some 4), none, .mov (.c (.b false))⟩])
 (.seq
 (.reg [⟨(some 5), none, .fad 0 (.t 2)⟩,
 ⟨(some 6), none, .load none (.t 5)⟩,
 ⟨(some 7), none, .fad 0 (.t 3)⟩,
 ⟨(some 8), none, .load none (.t 7)⟩,
 ⟨(some 9), none, .eqb false (.t 6) (.t 8)⟩,
 ⟨(some 10), none, .mov (.t 9)⟩,
 ⟨(some 11), (some (10, true)), .fad 1 (.t 2)⟩,
 ⟨(some 12), (some (10, true)), .load none (.t 11)⟩,
 ⟨(some 13), (some (10, true)), .fad 1 (.t 3)⟩,
 ⟨(some 14), (some (10, true)), .load none (.t 13)⟩,
 ⟨(some 15), (some (10, true)), .call 54 [(.t 12), (.t 14)]⟩,
 ⟨(some 16), none, .pick (.t 10) (.t 15) (.c (.b false))⟩,
 ⟨(some 4), none, .mov (.t 16)⟩])
 (.pre (.norm false [4]) .ret)))
def b30 : AX :=
 (.seq
 (.reg [⟨(some 1), none, .xop (.box 2) [(.t 0)]⟩,
 ⟨(some 2), none, .mov (.c (.i .i64 0))⟩])
 (.seq
 (.reg [⟨(some 4), none, .load (some 2) (.t 1)⟩,
 ⟨(some 5), none, .call 39 [(.t 4)]⟩,
 ⟨(some 3), none, .alloc [(.b false), (.sl [] .nl)]⟩,
 ⟨none, none, .store 2 (.t 3) (.t 5)⟩])
 (.seq
 (.seq
 (.reg [⟨(some 6), none, .fad 1 (.t 3)⟩,
 ⟨(some 7), none, .load none (.t 6)⟩,
 ⟨(some 8), none, .len (.t 7)⟩,
 ⟨(some 9), none, .bin .eql (.t 8) (.c (.i .i64 0))⟩])
 (.cond (.t 9)
 (.seq
 (.reg [⟨(some 2), none, .mov (.c (.i .i64 0))⟩])
 (.pre (.norm false [2]) .ret))
 .skip))
 (.seq
 (.seq
 (.reg [⟨(some 10), none, .fad 0 (.t 3)⟩,
 ⟨(some 11), none, .load none (.t 10)⟩])
 (.cond (.t 11)
 (.seq
 (.reg [⟨(some 2), none, .mov (.c (.i .i64 (-1)))⟩])
 (.pre (.norm false [2]) .ret))
 .skip))
 (.seq
 (.reg [⟨(some 2), none, .mov (.c (.i .i64 1))⟩])
 (.pre (.norm false [2]) .ret))))))
def b26 : AX :=
 (.seq
 (.reg [⟨(some 1), none, .xop (.box 2) [(.t 0)]⟩,
 ⟨(some 2), none, .alloc [(.b false), (.sl [] .nl)]⟩])
 (.seq
 (.reg [⟨(some 3), none, .fad 0 (.t 1)⟩,
 ⟨(some 4), none, .load none (.t 3)⟩,
 ⟨(some 5), none, .un .not (.t 4)⟩,
 ⟨(some 6), none, .fad 1 (.t 1)⟩,
 ⟨(some 7), none, .load none (.t 6)⟩,
 ⟨(some 8), none, .build [(.b false), (.sl [] .nl)] [(0, 1, (.t 5)), (1, 1, (.t 7))]⟩,
 ⟨(some 9), none, .call 39 [(.t 8)]⟩,
 ⟨none, none, .store 2 (.t 2) (.t 9)⟩])
 (.pre (.norm false [2]) .ret)))
def b24 : AX :=
 (.seq
 (.reg [⟨(some 2), none, .xop (.box 2) [(.t 0)]⟩,
 ⟨(some 3), none, .xop (.box 2) [(.t 1)]⟩,
 ⟨(some 4), none, .alloc [(.b false), (.sl [] .nl)]⟩])
 (.seq
 (.seq
 (.reg [⟨(some 5), none, .fad 0 (.t 2)⟩,
 ⟨(some 6), none, .load none (.t 5)⟩,
 ⟨(some 7), none, .fad 0 (.t 3)⟩,
 ⟨(some 8), none, .load none (.t 7)⟩,
 ⟨(some 9), none, .eqb false (.t 6) (.t 8)⟩])
 (.cond (.t 9)
 (.seq
 (.drawT [⟨(some 10), none, .fad 0 (.t 2)⟩,
 ⟨(some 11), none, .load none (.t 10)⟩,
 ⟨(some 12), none, .fad 1 (.t 2)⟩,
 ⟨(some 13), none, .load none (.t 12)⟩,
 ⟨(some 14), none, .fad 1 (.t 3)⟩,
 ⟨(some 15), none, .load none (.t 14)⟩,
 ⟨(some 16), none, .call 58 [(.t 13), (.t 15)]⟩]
 [⟨(some 17), none, .build [(.b false), (.sl [] .nl)] [(0, 1, (.t 11)), (1, 1, (.t 16))]⟩,
 ⟨(some 18), none, .call 39 [(.t 17)]⟩,
 ⟨none, none, .store 2 (.t 4) (.t 18)⟩])
 (.pre (.norm false [4]) .ret))
 .skip))
 (.seq
 (.seq
 (.reg [⟨(some 19), none, .fad 1 (.t 2)⟩,
 ⟨(some 20), none, .load none (.t 19)⟩,
 ⟨(some 21), none, .fad 1 (.t 3)⟩,
 ⟨(some 22), none, .load none (.t 21)⟩,
 ⟨(some 23), none, .call 52 [(.t 20), (.t 22)]⟩,
 ⟨(some 24), none, .bin .lss (.t 23) (.c (.i .i64 0))⟩])
 (.cond (.t 24)
 (.seq
 (.drawT [⟨(some 25), none, .fad 0 (.t 3)⟩,
 ⟨(some 26), none, .load none (.t 25)⟩,
 ⟨(some 27), none, .fad 1 (.t 3)⟩,
 ⟨(some 28), none, .load none (.t 27)⟩,
 ⟨(some 29), none, .fad 1 (.t 2)⟩,
 ⟨(some 30), none, .load none (.t 29)⟩,
 ⟨(some 31), none, .call 59 [(.t 28), (.t 30)]⟩]
 [⟨(some 32), none, .build [(.b false), (.sl [] .nl)] [(0, 1, (.t 26)), (1, 1, (.t 31))]⟩,
 ⟨(some 33), none, .call 39 [(.t 32)]⟩,
 ⟨none, none, .store 2 (.t 4) (.t 33)⟩])
 (.pre (.norm false [4]) .ret))
 .skip))
 (.seq
 (.drawT [⟨(some 34), none, .fad 0 (.t 2)⟩,
 ⟨(some 35), none, .load none (.t 34)⟩,
 ⟨(some 36), none, .fad 1 (.t 2)⟩,
 ⟨(some 37), none, .load none (.t 36)⟩,
 ⟨(some 38), none, .fad 1 (.t 3)⟩,
 ⟨(some 39), none, .load none (.t 38)⟩,
 ⟨(some 40), none, .call 59 [(.t 37), (.t 39)]⟩]
 [⟨(some 41), none, .build [(.b false), (.sl [] .nl)] [(0, 1, (.t 35)), (1, 1, (.t 40))]⟩,
 ⟨(some 42), none, .call 39 [(.t 41)]⟩,
 ⟨none, none, .store 2 (.t 4) (.t 42)⟩])
 (.pre (.norm false [4]) .ret)))))
def b28 : AX :=
 (.seq
 (.reg [⟨(some 2), none, .xop (.box 2) [(.t 0)]⟩,
 ⟨(some 3), none, .xop (.box 2) [(.t 1)]⟩,
 ⟨(some 4), none, .alloc [(.b false), (.sl [] .nl)]⟩])
 (.seq
 (.drawT [⟨(some 5), none, .fad 0 (.t 2)⟩,
 ⟨(some 6), none, .load none (.t 5)⟩,
 ⟨(some 7), none, .fad 0 (.t 3)⟩,
 ⟨(some 8), none, .load none (.t 7)⟩,
 ⟨(some 9), none, .eqb true (.t 6) (.t 8)⟩,
 ⟨(some 10), none, .fad 1 (.t 2)⟩,
 ⟨(some 11), none, .load none (.t 10)⟩,
 ⟨(some 12), none, .fad 1 (.t 3)⟩,
 ⟨(some 13), none, .load none (.t 12)⟩,
 ⟨(some 14), none, .call 61 [(.t 11), (.t 13)]⟩]
 [⟨(some 15), none, .build [(.b false), (.sl [] .nl)] [(0, 1, (.t 9)), (1, 1, (.t 14))]⟩,
 ⟨(some 16), none, .call 39 [(.t 15)]⟩,
 ⟨none, none, .store 2 (.t 4) (.t 16)⟩])
 (.pre (.norm false [4]) .ret)))
def b31 : AX :=
 (.seq
 (.reg [⟨(some 2), none, .xop (.box 2) [(.t 0)]⟩,
 ⟨(some 3), none, .xop (.box 2) [(.t 1)]⟩,
 ⟨(some 4), none, .alloc [(.b false), (.sl [] .nl)]⟩,
 ⟨(some 5), none, .alloc [(.b false), (.sl [] .nl)]⟩])
 (.seq
 (.reg [⟨(some 10), none, .fad 1 (.t 2)⟩,
 ⟨(some 11), none, .load none (.t 10)⟩,
 ⟨(some 12), none, .fad 1 (.t 3)⟩,
 ⟨(some 13), none, .load none (.t 12)⟩,
 ⟨(some 14), none, .call 63 [(.t 11), (.t 13)]⟩,
 ⟨(some 9), none, .mov (.t 14)⟩,
 ⟨(some 15), none, .ext (.t 9) 0⟩,
 ⟨(some 16), none, .ext (.t 9) 1⟩,
 ⟨(some 6), none, .mov (.t 15)⟩,
 ⟨(some 7), none, .mov (.t 16)⟩])
 (.seq
 (.seq
 (.reg [⟨(some 17), none, .fad 0 (.t 2)⟩,
 ⟨(some 18), none, .load none (.t 17)⟩,
 ⟨(some 19), none, .fad 0 (.t 3)⟩,
 ⟨(some 20), none, .load none (.t 19)⟩,
 ⟨(some 21), none, .eqb true (.t 18) (.t 20)⟩,
 ⟨(some 22), none, .mov (.t 21)⟩,
 ⟨(some 23), (some (22, true)), .mov (.t 7)⟩,
 ⟨(some 24), (some (22, true)), .len (.t 23)⟩,
 ⟨(some 25), (some (22, true)), .bin .gtr (.t 24) (.c (.i .i64 0))⟩,
 ⟨(some 26), none, .pick (.t 22) (.t 25) (.c (.b false))⟩])
 (.cond (.t 26)
 (.reg [⟨(some 27), none, .mov (.t 6)⟩,
 ⟨(some 28), none, .bsl 1 [(u32 0)] 1 [(0, (.c (u32 1)))]⟩,
 ⟨(some 29), none, .call 58 [(.t 27), (.t 28)]⟩,
 ⟨(some 6), none, .mov (.t 29)⟩])
 .skip))
 (.seq
 (.reg [⟨(some 30), none, .fad 0 (.t 2)⟩,
 ⟨(some 31), none, .load none (.t 30)⟩,
 ⟨(some 32), none, .fad 0 (.t 3)⟩,
 ⟨(some 33), none, .load none (.t 32)⟩,
 ⟨(some 34), none, .eqb true (.t 31) (.t 33)⟩,
 ⟨(some 35), none, .mov (.t 6)⟩,
 ⟨(some 36), none, .build [(.b false), (.sl [] .nl)] [(0, 1, (.t 34)), (1, 1, (.t 35))]⟩,
 ⟨(some 37), none, .call 39 [(.t 36)]⟩,
 ⟨(some 8), none, .alloc [(.b false), (.sl [] .nl)]⟩,
 ⟨none, none, .store 2 (.t 8) (.t 37)⟩])
 (.seq
 (.drawT [⟨(some 38), none, .load (some 2) (.t 8)⟩,
 ⟨(some 39), none, .load (some 2) (.t 2)⟩,
 ⟨(some 40), none, .load (some 2) (.t 8)⟩,
 ⟨(some 41), none, .load (some 2) (.t 3)⟩,
 ⟨(some 42), none, .call 28 [(.t 40), (.t 41)]⟩,
 ⟨(some 43), none, .call 26 [(.t 42)]⟩,
 ⟨(some 44), none, .call 24 [(.t 39), (.t 43)]⟩]
 [⟨none, none, .store 2 (.t 4) (.t 38)⟩,
 ⟨none, none, .store 2 (.t 5) (.t 44)⟩])
 (.pre (.norm false [4, 5]) .ret))))))
def b35 : AX :=
 (.seq
 (.reg [⟨(some 1), none, .xop (.box 2) [(.t 0)]⟩,
 ⟨(some 2), none, .mov (.c (.s []))⟩])
 (.seq
 (.reg [⟨(some 4), none, .fad 1 (.t 1)⟩,
 ⟨(some 5), none, .load none (.t 4)⟩,
 ⟨(some 6), none, .call 69 [(.t 5)]⟩,
 ⟨(some 3), none, .mov (.t 6)⟩])
 (.seq
 (.seq
 (.reg [⟨(some 7), none, .load (some 2) (.t 1)⟩,
 ⟨(some 8), none, .call 30 [(.t 7)]⟩,
 ⟨(some 9), none, .bin .lss (.t 8) (.c (.i .i64 0))⟩])
 (.cond (.t 9)
 (.reg [⟨(some 10), none, .mov (.t 3)⟩,
 ⟨(some 11), none, .bin .add (.c (.s [45])) (.t 10)⟩,
 ⟨(some 3), none, .mov (.t 11)⟩])
 .skip))
 (.seq
 (.reg [⟨(some 12), none, .mov (.t 3)⟩,
 ⟨(some 2), none, .mov (.t 12)⟩])
 (.pre (.norm false [2]) .ret)))))
def b33 : AX :=
 (.seq
 (.reg [⟨(some 2), none, .alloc [(.b false), (.sl [] .nl)]⟩,
 ⟨(some 3), none, .mov (.c (.i .i64 0))⟩])
 (.seq
 (.reg [⟨(some 7), none, .mov (.t 0)⟩,
 ⟨(some 8), none, .lens (.t 7)⟩,
 ⟨(some 9), none, .bin .gtr (.t 8) (.c (.i .i64 0))⟩,
 ⟨(some 10), none, .mov (.t 9)⟩,
 ⟨(some 11), (some (10, true)), .mov (.t 0)⟩,
 ⟨(some 12), (some (10, true)), .ixs (.t 11) (.c (.i .i64 0))⟩,
 ⟨(some 13), (some (10, true)), .bin .eql (.t 12) (.c (u8 45))⟩,
 ⟨(some 14), none, .pick (.t 10) (.t 13) (.c (.b false))⟩,
 ⟨(some 4), none, .mov (.t 14)⟩])
 (.seq
 (.reg [⟨(some 5), none, .mov (.c (.i .i64 0))⟩])
 (.seq
 (.seq
 (.reg [⟨(some 15), none, .mov (.t 4)⟩])
 (.cond (.t 15)
 (.reg [⟨(some 5), none, .mov (.c (.i .i64 1))⟩])
 .skip))
 (.seq
 (.reg [⟨(some 16), none, .mov (.t 0)⟩,
 ⟨(some 17), none, .mov (.t 5)⟩,
 ⟨(some 18), none, .slstr (.t 16) (some (.t 17)) none⟩,
 ⟨(some 19), none, .call 66 [(.t 18)]⟩,
 ⟨(some 6), none, .mov (.t 19)⟩])
 (.seq
 (.seq
 (.reg [⟨(some 20), none, .mov (.t 6)⟩,
 ⟨(some 21), none, .bin .geq (.t 20) (.c (.i .i64 0))⟩])
 (.cond (.t 21)
 (.seq
 (.reg [⟨(some 22), none, .build [(.b false), (.sl [] .nl)] []⟩,
 ⟨(some 23), none, .mov (.t 5)⟩,
 ⟨(some 24), none, .mov (.t 6)⟩,
 ⟨(some 25), none, .bin .add (.t 23) (.t 24)⟩,
 ⟨none, none, .store 2 (.t 2) (.t 22)⟩,
 ⟨(some 3), none, .mov (.t 25)⟩])
 (.pre (.norm false [2, 3]) .ret))
 .skip))
 (.seq
 (.reg [⟨(some 26), none, .mov (.t 4)⟩,
 ⟨(some 27), none, .mov (.t 0)⟩,
 ⟨(some 28), none, .mov (.t 5)⟩,
 ⟨(some 29), none, .slstr (.t 27) (some (.t 28)) none⟩,
 ⟨(some 30), none, .call 67 [(.t 29)]⟩,
 ⟨(some 31), none, .build [(.b false), (.sl [] .nl)] [(0, 1, (.t 26)), (1, 1, (.t 30))]⟩,
 ⟨(some 32), none, .call 39 [(.t 31)]⟩,
 ⟨none, none, .store 2 (.t 2) (.t 32)⟩,
 ⟨(some 3), none, .mov (.c (.i .i64 (-1)))⟩])
 (.pre (.norm false [2, 3]) .ret))))))))
class CRef08 (T : Tbl) : Prop extends CRef07 T where
 h39 : T 39 = some ⟨1, 16, [.cell 2 (some 2)], b39, none, false⟩
 h21 : T 21 = some ⟨2, 17, [.t 4], b21, none, false⟩
 h30 : T 30 = some ⟨1, 12, [.t 2], b30, none, false⟩
 h26 : T 26 = some ⟨1, 10, [.cell 2 (some 2)], b26, none, false⟩
 h24 : T 24 = some ⟨2, 43, [.cell 4 (some 2)], b24, none, false⟩
 h28 : T 28 = some ⟨2, 17, [.cell 4 (some 2)], b28, none, false⟩
 h31 : T 31 = some ⟨2, 45, [.cell 4 (some 2), .cell 5 (some 2)], b31, none, false⟩
 h35 : T 35 = some ⟨1, 13, [.t 2], b35, none, false⟩
 h33 : T 33 = some ⟨1, 33, [.cell 2 (some 2), .t 3], b33, none, false⟩
section
variable {T : Tbl} [CRef08 T] {d : Option Nat} {st : St}
@[simp] theorem x39 (xs : List AV) : callX (orc T) T 39 xs d st = bL (frzL st.heap xs) fun ys => cR (callF T 39 (ys.map (wkIf false))) xs d st := callX_pure CRef08.h39
theorem f39 (xs : List AV) (hn : xs.length = 1) : callF T 39 xs = retF [.cell 2 (some 2)] false (evX (orc T) T 0 b39 ⟨argEnv xs, [], 1⟩) := callF_eq CRef08.h39 hn
@[simp] theorem x21 (xs : List AV) : callX (orc T) T 21 xs d st = bL (frzL st.heap xs) fun ys => cR (callF T 21 (ys.map (wkIf false))) xs d st := callX_pure CRef08.h21
@[simp] theorem x30 (xs : List AV) : callX (orc T) T 30 xs d st = bL (frzL st.heap xs) fun ys => cR (callF T 30 (ys.map (wkIf false))) xs d st := callX_pure CRef08.h30
@[simp] theorem x26 (xs : List AV) : callX (orc T) T 26 xs d st = bL (frzL st.heap xs) fun ys => cR (callF T 26 (ys.map (wkIf false))) xs d st := callX_pure CRef08.h26
@[simp] theorem x24 (xs : List AV) : callX (orc T) T 24 xs d st = bL (frzL st.heap xs) fun ys => cR (callF T 24 (ys.map (wkIf false))) xs d st := callX_pure CRef08.h24
theorem f24 (xs : List AV) (hn : xs.length = 2) : callF T 24 xs = retF [.cell 4 (some 2)] false (evX (orc T) T 0 b24 ⟨argEnv xs, [], 1⟩) := callF_eq CRef08.h24 hn
@[simp] theorem x28 (xs : List AV) : callX (orc T) T 28 xs d st = bL (frzL st.heap xs) fun ys => cR (callF T 28 (ys.map (wkIf false))) xs d st := callX_pure CRef08.h28
@[simp] theorem x31 (xs : List AV) : callX (orc T) T 31 xs d st = bL (frzL st.heap xs) fun ys => cR (callF T 31 (ys.map (wkIf false))) xs d st := callX_pure CRef08.h31
@[simp] theorem x35 (xs : List AV) : callX (orc T) T 35 xs d st = bL (frzL st.heap xs) fun ys => cR (callF T 35 (ys.map (wkIf false))) xs d st := callX_pure CRef08.h35
@[simp] theorem x33 (xs : List AV) : callX (orc T) T 33 xs d st = bL (frzL st.heap xs) fun ys => cR (callF T 33 (ys.map (wkIf false))) xs d st := callX_pure CRef08.h33
end
end Go.Ab
end

section
namespace Go.Ab
def b231 : AX :=
 (.seq
 (.reg [rg 1 (.xop (.box 3) [(.t 0)]), rg 2 (.alloc [(.b false), (.sl [] .nl), (.sl [] .nl)])])
 (.seq
 (.reg [rg 6 (.fad 2 (.t 1)), rg 7 (.load none (.t 6)), rg 8 (.call 43 [(.t 7)]), mv 3 8])
 (.seq
 (.reg [rg 9 (.fad 1 (.t 1)), rg 10 (.load none (.t 9)), rg 11 (.call 43 [(.t 10)]), mv 4 11])
 (.seq
 (.seq
 (.reg [mv 12 3, rg 13 (.len (.t 12)), rg 14 (.bin .eql (.t 13) (.c (.i .i64 0))), mv 15 14, gd 16 15 false (.mov (.t 4)), gd 17 15 false (.len (.t 16)),
 gd 18 15 false (.bin .eql (.t 17) (.c (.i .i64 0))), rg 19 (.pick (.t 15) (.c (.b true)) (.t 18))])
 (.cond (.t 19)
 (.seq
 (.reg [rg 20 (.bsl 1 [(u32 0)] 0 []), rg 21 (.bsl 1 [(u32 0)] 1 [(0, (.c (u32 1)))]),
 rg 22 (.build [(.b false), (.sl [] .nl), (.sl [] .nl)] [(1, 1, (.t 20)), (2, 1, (.t 21))]), so (.store 3 (.t 2) (.t 22))])
 (.pre (.norm false [2]) .ret))
 .skip))
 (.seq
 (.seq
 (.reg [mv 23 3, rg 24 (.call 229 [(.t 23)]), rg 25 (.un .not (.t 24))])
 (.cond (.t 25)
 (.seq
 (.reg [mv 26 4, mv 27 3, rg 28 (.call 228 [(.t 26), (.t 27)]), mv 5 28])
 (.seq
 (.reg [mv 29 4, mv 30 5, rg 31 (.call 230 [(.t 29), (.t 30)]), mv 4 31])
 (.reg [mv 32 3, mv 33 5, rg 34 (.call 230 [(.t 32), (.t 33)]), mv 3 34])))
 .skip))
 (.seq
 (.reg [rg 35 (.fad 0 (.t 1)), rg 36 (.load none (.t 35)), mv 37 4, mv 38 3,
 rg 39 (.build [(.b false), (.sl [] .nl), (.sl [] .nl)] [(0, 1, (.t 36)), (1, 1, (.t 37)), (2, 1, (.t 38))]), so (.store 3 (.t 2) (.t 39))])
 (.pre (.norm false [2]) .ret)))))))
def b232 : AX :=
 (.seq
 (.reg [rg 2 (.alloc [(.b false), (.sl [] .nl), (.sl [] .nl)])])
 (.seq
 (.seq
 (.reg [mv 3 0, rg 4 (.bin .lss (.t 3) (.c (.i .i64 0)))])
 (.cond (.t 4)
 (.seq
 (.reg [mv 5 0, rg 6 (.bin .add (.t 5) (.c (.i .i64 1))), rg 7 (.un .neg (.t 6)), rg 8 (.conv .u64 (.t 7)), rg 9 (.call 353 [(.t 8)]),
 rg 10 (.bsl 1 [(u32 0)] 1 [(0, (.c (u32 1)))]), rg 11 (.call 58 [(.t 9), (.t 10)]), rg 12 (.bsl 1 [(u32 0)] 1 [(0, (.c (u32 1)))]),
 rg 13 (.build [(.b false), (.sl [] .nl), (.sl [] .nl)] [(0, 1, (.c (.b true))), (1, 1, (.t 11)), (2, 1, (.t 12))]), rg 14 (.call 231 [(.t 13)]),
 so (.store 3 (.t 2) (.t 14))])
 (.pre (.norm false [2]) .ret))
 .skip))
 (.seq
 (.reg [mv 15 0, rg 16 (.conv .u64 (.t 15)), rg 17 (.call 353 [(.t 16)]), rg 18 (.bsl 1 [(u32 0)] 1 [(0, (.c (u32 1)))]),
 rg 19 (.build [(.b false), (.sl [] .nl), (.sl [] .nl)] [(1, 1, (.t 17)), (2, 1, (.t 18))]), rg 20 (.call 231 [(.t 19)]), so (.store 3 (.t 2) (.t 20))])
 (.pre (.norm false [2]) .ret))))
def b233 : AX :=
 (.seq
 (.reg [rg 2 (.xop (.box 3) [(.t 0)]), rg 3 (.xop (.box 3) [(.t 1)]), rg 4 (.mov (.c (.b false)))])
 (.seq
 (.reg [rg 5 (.fad 0 (.t 2)), rg 6 (.load none (.t 5)), rg 7 (.fad 0 (.t 3)), rg 8 (.load none (.t 7)), rg 9 (.eqb false (.t 6) (.t 8)), mv 10 9,
 gd 11 10 true (.fad 1 (.t 2)), gd 12 10 true (.load none (.t 11)), gd 13 10 true (.fad 1 (.t 3)), gd 14 10 true (.load none (.t 13)),
 gd 15 10 true (.call 54 [(.t 12), (.t 14)]), rg 16 (.pick (.t 10) (.t 15) (.c (.b false))), mv 17 16, gd 18 17 true (.fad 2 (.t 2)),
 gd 19 17 true (.load none (.t 18)), gd 20 17 true (.fad 2 (.t 3)), gd 21 17 true (.load none (.t 20)), gd 22 17 true (.call 54 [(.t 19), (.t 21)]),
 rg 23 (.pick (.t 17) (.t 22) (.c (.b false))), mv 4 23])
 (.pre (.norm false [4]) .ret)))
def b236 : AX :=
 (.seq
 (.reg [rg 1 (.xop (.box 3) [(.t 0)]), rg 2 (.mov (.c (.i .i64 0)))])
 (.seq
 (.seq
 (.reg [rg 3 (.fad 1 (.t 1)), rg 4 (.load none (.t 3)), rg 5 (.len (.t 4)), rg 6 (.bin .eql (.t 5) (.c (.i .i64 0)))])
 (.cond (.t 6)
 (.seq
 (.reg [rg 2 (.mov (.c (.i .i64 0)))])
 (.pre (.norm false [2]) .ret))
 .skip))
 (.seq
 (.seq
 (.reg [rg 7 (.fad 0 (.t 1)), rg 8 (.load none (.t 7))])
 (.cond (.t 8)
 (.seq
 (.reg [rg 2 (.mov (.c (.i .i64 (-1))))])
 (.pre (.norm false [2]) .ret))
 .skip))
 (.seq
 (.reg [rg 2 (.mov (.c (.i .i64 1)))])
 (.pre (.norm false [2]) .ret)))))
def b237 : AX :=
 (.seq
 (.reg [rg 1 (.xop (.box 3) [(.t 0)]), rg 2 (.alloc [(.b false), (.sl [] .nl), (.sl [] .nl)])])
 (.seq
 (.reg [rg 3 (.fad 0 (.t 1)), rg 4 (.load none (.t 3)), rg 5 (.un .not (.t 4)), rg 6 (.fad 1 (.t 1)), rg 7 (.load none (.t 6)), rg 8 (.fad 2 (.t 1)),
 rg 9 (.load none (.t 8)), rg 10 (.build [(.b false), (.sl [] .nl), (.sl [] .nl)] [(0, 1, (.t 5)), (1, 1, (.t 7)), (2, 1, (.t 9))]),
 rg 11 (.call 231 [(.t 10)]), so (.store 3 (.t 2) (.t 11))])
 (.pre (.norm false [2]) .ret)))
def b239 : AX :=
 (.seq
 (.reg [rg 2 (.xop (.box 3) [(.t 0)]), rg 3 (.xop (.box 3) [(.t 1)]), rg 4 (.alloc [(.b false), (.sl [] .nl), (.sl [] .nl)])])
 (.seq
 (.draw [⟨rg 8 (.fad 0 (.t 2)), 0, 1⟩, ⟨rg 9 (.load none (.t 8)), 0, 1⟩, ⟨rg 10 (.fad 1 (.t 2)), 0, 1⟩, ⟨rg 11 (.load none (.t 10)), 0, 1⟩,
 ⟨rg 12 (.fad 2 (.t 3)), 0, 1⟩, ⟨rg 13 (.load none (.t 12)), 0, 1⟩, ⟨rg 14 (.call 61 [(.t 11), (.t 13)]), 0, 1⟩,
 ⟨rg 15 (.build [(.b false), (.sl [] .nl)] [(0, 1, (.t 9)), (1, 1, (.t 14))]), 0, 1⟩, ⟨rg 5 (.alloc [(.b false), (.sl [] .nl)]), 0, 1⟩,
 ⟨so (.store 2 (.t 5) (.t 15)), 1, 2⟩])
 (.seq
 (.draw [⟨rg 16 (.fad 0 (.t 3)), 0, 1⟩, ⟨rg 17 (.load none (.t 16)), 0, 1⟩, ⟨rg 18 (.fad 1 (.t 3)), 0, 1⟩, ⟨rg 19 (.load none (.t 18)), 0, 1⟩,
 ⟨rg 20 (.fad 2 (.t 2)), 0, 1⟩, ⟨rg 21 (.load none (.t 20)), 0, 1⟩, ⟨rg 22 (.call 61 [(.t 19), (.t 21)]), 0, 1⟩,
 ⟨rg 23 (.build [(.b false), (.sl [] .nl)] [(0, 1, (.t 17)), (1, 1, (.t 22))]), 0, 1⟩, ⟨rg 6 (.alloc [(.b false), (.sl [] .nl)]), 0, 1⟩,
 ⟨so (.store 2 (.t 6) (.t 23)), 1, 2⟩])
 (.seq
 (.reg [rg 24 (.load (some 2) (.t 5)), rg 25 (.load (some 2) (.t 6)), rg 26 (.call 24 [(.t 24), (.t 25)]), rg 7 (.alloc [(.b false), (.sl [] .nl)]),
 so (.store 2 (.t 7) (.t 26))])
 (.seq
 (.drawT [rg 27 (.fad 0 (.t 7)), rg 28 (.load none (.t 27)), rg 29 (.fad 1 (.t 7)), rg 30 (.load none (.t 29)), rg 31 (.fad 2 (.t 2)), rg 32 (.load none (.t 31)),
 rg 33 (.fad 2 (.t 3)), rg 34 (.load none (.t 33)), rg 35 (.call 61 [(.t 32), (.t 34)])]
 [rg 36 (.build [(.b false), (.sl [] .nl), (.sl [] .nl)] [(0, 1, (.t 28)), (1, 1, (.t 30)), (2, 1, (.t 35))]), rg 37 (.call 231 [(.t 36)]),
 so (.store 3 (.t 4) (.t 37))])
 (.pre (.norm false [4]) .ret))))))
def b240 : AX :=
 (.seq
 (.reg [rg 2 (.xop (.box 3) [(.t 0)]), rg 3 (.xop (.box 3) [(.t 1)]), rg 4 (.alloc [(.b false), (.sl [] .nl), (.sl [] .nl)])])
 (.seq
 (.drawT [rg 5 (.load (some 3) (.t 2)), rg 6 (.load (some 3) (.t 3)), rg 7 (.call 237 [(.t 6)])]
 [rg 8 (.call 239 [(.t 5), (.t 7)]), so (.store 3 (.t 4) (.t 8))])
 (.pre (.norm false [4]) .ret)))
def b241 : AX :=
 (.seq
 (.reg [rg 2 (.xop (.box 3) [(.t 0)]), rg 3 (.xop (.box 3) [(.t 1)]), rg 4 (.alloc [(.b false), (.sl [] .nl), (.sl [] .nl)])])
 (.seq
 (.drawT [rg 5 (.fad 0 (.t 2)), rg 6 (.load none (.t 5)), rg 7 (.fad 0 (.t 3)), rg 8 (.load none (.t 7)), rg 9 (.eqb true (.t 6) (.t 8)), rg 10 (.fad 1 (.t 2)),
 rg 11 (.load none (.t 10)), rg 12 (.fad 1 (.t 3)), rg 13 (.load none (.t 12)), rg 14 (.call 61 [(.t 11), (.t 13)]), rg 15 (.fad 2 (.t 2)),
 rg 16 (.load none (.t 15)), rg 17 (.fad 2 (.t 3)), rg 18 (.load none (.t 17)), rg 19 (.call 61 [(.t 16), (.t 18)])]
 [rg 20 (.build [(.b false), (.sl [] .nl), (.sl [] .nl)] [(0, 1, (.t 9)), (1, 1, (.t 14)), (2, 1, (.t 19))]), rg 21 (.call 231 [(.t 20)]),
 so (.store 3 (.t 4) (.t 21))])
 (.pre (.norm false [4]) .ret)))
def b247 : AX :=
 (.seq
 (.reg [rg 2 (.xop (.box 3) [(.t 0)]), rg 4 (.mov (.c (.b false)))])
 (.seq
 (.reg [rg 5 (.fad 1 (.t 2)), rg 6 (.load none (.t 5)), rg 7 (.len (.t 6)), mv 8 1, rg 9 (.bin .gtr (.t 7) (.t 8)), mv 10 9, gd 11 10 false (.fad 2 (.t 2)),
 gd 12 10 false (.load none (.t 11)), gd 13 10 false (.len (.t 12)), gd 14 10 false (.mov (.t 1)), gd 15 10 false (.bin .gtr (.t 13) (.t 14)),
 rg 16 (.pick (.t 10) (.c (.b true)) (.t 15)), mv 4 16])
 (.pre (.norm false [4]) .ret)))
def b353 : AX :=
 (.seq
 (.reg [rg 2 (.mov (.c (.sl [] .nl)))])
 (.seq
 (.reg [mv 3 0, rg 4 (.bin .rem (.t 3) (.c (u64 4294967296))), rg 5 (.conv .u32 (.t 4)), mv 6 0, rg 7 (.bin .quo (.t 6) (.c (u64 4294967296))),
 rg 8 (.conv .u32 (.t 7)), rg 9 (.bsl 1 [(u32 0)] 2 [(0, (.t 5)), (1, (.t 8))]), rg 10 (.call 43 [(.t 9)]), mv 2 10])
 (.pre (.norm false [2]) .ret)))
class CRef09 (T : Tbl) : Prop where
 h231 : T 231 = some ⟨1, 40, [.cell 2 (some 3)], b231, none, false⟩
 h232 : T 232 = some ⟨1, 21, [.cell 2 (some 3)], b232, none, false⟩
 h233 : T 233 = some ⟨2, 24, [.t 4], b233, none, false⟩
 h236 : T 236 = some ⟨1, 9, [.t 2], b236, none, false⟩
 h237 : T 237 = some ⟨1, 12, [.cell 2 (some 3)], b237, none, false⟩
 h239 : T 239 = some ⟨2, 38, [.cell 4 (some 3)], b239, none, false⟩
 h240 : T 240 = some ⟨2, 9, [.cell 4 (some 3)], b240, none, false⟩
 h241 : T 241 = some ⟨2, 22, [.cell 4 (some 3)], b241, none, false⟩
 h247 : T 247 = some ⟨2, 17, [.t 4], b247, none, false⟩
 h353 : T 353 = some ⟨1, 11, [.t 2], b353, none, false⟩
section
variable {T : Tbl} [CRef09 T] {d : Option Nat} {st : St} {xs : List AV} {ps : List Opd} {e : Env} {h : Heap} {ol : List Heap}
@[simp] theorem x231 : callX (orc T) T 231 xs d st = cP T 231 false xs d st := callX_pure CRef09.h231
theorem f231 (xs : List AV) (hn : xs.length = 1) : callF T 231 xs = retF [.cell 2 (some 3)] false (evX (orc T) T 0 b231 ⟨argEnv xs, [], 1⟩) := callF_eq CRef09.h231 hn
@[simp] theorem x232 : callX (orc T) T 232 xs d st = cP T 232 false xs d st := callX_pure CRef09.h232
theorem f232 (xs : List AV) (hn : xs.length = 1) : callF T 232 xs = retF [.cell 2 (some 3)] false (evX (orc T) T 0 b232 ⟨argEnv xs, [], 1⟩) := callF_eq CRef09.h232 hn
@[simp] theorem x233 : callX (orc T) T 233 xs d st = cP T 233 false xs d st := callX_pure CRef09.h233
theorem f233 (xs : List AV) (hn : xs.length = 2) : callF T 233 xs = retF [.t 4] false (evX (orc T) T 0 b233 ⟨argEnv xs, [], 1⟩) := callF_eq CRef09.h233 hn
@[simp] theorem x236 : callX (orc T) T 236 xs d st = cP T 236 false xs d st := callX_pure CRef09.h236
theorem f236 (xs : List AV) (hn : xs.length = 1) : callF T 236 xs = retF [.t 2] false (evX (orc T) T 0 b236 ⟨argEnv xs, [], 1⟩) := callF_eq CRef09.h236 hn
@[simp] theorem y237 : opD (orc T) T (.call 237 ps) e h ol = dP T 237 false ps e := opD_call CRef09.h237
theorem f237 (xs : List AV) (hn : xs.length = 1) : callF T 237 xs = retF [.cell 2 (some 3)] false (evX (orc T) T 0 b237 ⟨argEnv xs, [], 1⟩) := callF_eq CRef09.h237 hn
@[simp] theorem x239 : callX (orc T) T 239 xs d st = cP T 239 false xs d st := callX_pure CRef09.h239
theorem f239 (xs : List AV) (hn : xs.length = 2) : callF T 239 xs = retF [.cell 4 (some 3)] false (evX (orc T) T 0 b239 ⟨argEnv xs, [], 1⟩) := callF_eq CRef09.h239 hn
@[simp] theorem x240 : callX (orc T) T 240 xs d st = cP T 240 false xs d st := callX_pure CRef09.h240
theorem f240 (xs : List AV) (hn : xs.length = 2) : callF T 240 xs = retF [.cell 4 (some 3)] false (evX (orc T) T 0 b240 ⟨argEnv xs, [], 1⟩) := callF_eq CRef09.h240 hn
theorem f241 (xs : List AV) (hn : xs.length = 2) : callF T 241 xs = retF [.cell 4 (some 3)] false (evX (orc T) T 0 b241 ⟨argEnv xs, [], 1⟩) := callF_eq CRef09.h241 hn
@[simp] theorem x247 : callX (orc T) T 247 xs d st = cP T 247 false xs d st := callX_pure CRef09.h247
theorem f247 (xs : List AV) (hn : xs.length = 2) : callF T 247 xs = retF [.t 4] false (evX (orc T) T 0 b247 ⟨argEnv xs, [], 1⟩) := callF_eq CRef09.h247 hn
@[simp] theorem x353 : callX (orc T) T 353 xs d st = cP T 353 false xs d st := callX_pure CRef09.h353
theorem f353 (xs : List AV) (hn : xs.length = 1) : callF T 353 xs = retF [.t 2] false (evX (orc T) T 0 b353 ⟨argEnv xs, [], 1⟩) := callF_eq CRef09.h353 hn
end
end Go.Ab
end

section
namespace Go.Ab
def l276_0 : AX :=
 (.note
 (.seq
 (.seq
 (.reg [mv 5 4, mv 6 0, rg 7 (.bin .lss (.t 5) (.t 6)), mv 8 7, gd 9 8 true (.mov (.t 4)), gd 10 8 true (.bin .lss (.t 9) (.c (.i .i64 300))),
 rg 11 (.pick (.t 8) (.t 10) (.c (.b false)))])
 (.cond (.t 11)
 .skip
 (.exit 0)))
 (.seq
 (.block 1
 (.reg [mv 14 3, rg 15 (.call 232 [(.c (.i .i64 0))]), rg 16 (.bsl 3 [(.b false), (.sl [] .nl), (.sl [] .nl)] 1 [(0, (.t 15))]), rg 17 (.app 3 (.t 14) (.t 16)),
 mv 3 17]))
 (.reg [mv 12 4, rg 13 (.bin .add (.t 12) (.c (.i .i64 1))), mv 4 13])))
 (.norm false [0, 3, 4]))
def b276 : AX :=
 (.seq
 (.reg [rg 2 (.mov (.c (.sl [] .nl)))])
 (.seq
 (.note (.reg [rg 3 (.mov (.c (.sl [] .nl)))]) (.nil 3 3))
 (.seq
 (.seq
 (.reg [rg 4 (.mov (.c (.i .i64 0)))])
 (.lp 0 (.norm false [0, 3, 4]) l276_0 (.norm false [3])))
 (.seq
 (.reg [mv 18 3, mv 2 18])
 (.pre (.norm false [2]) .ret)))))
def b277 : AX :=
 (.seq
 (.reg [rg 4 (.mov (.c (.sl [] .nl)))])
 (.seq
 (.reg [mv 6 0, rg 7 (.call 2276 [(.t 6)]), mv 5 7])
 (.seq
 (.seq
 (.reg [mv 8 1, rg 9 (.bin .geq (.t 8) (.c (.i .i64 0))), mv 10 9, gd 11 10 true (.mov (.t 1)), gd 12 10 true (.mov (.t 5)), gd 13 10 true (.len (.t 12)),
 gd 14 10 true (.bin .lss (.t 11) (.t 13)), rg 15 (.pick (.t 10) (.t 14) (.c (.b false)))])
 (.cond (.t 15)
 (.reg [mv 16 5, mv 17 1, rg 18 (.call 232 [(.c (.i .i64 1))]), rg 19 (.iad 3 (.t 16) (.t 17)), so (.store 3 (.t 19) (.t 18))])
 .skip))
 (.seq
 (.reg [mv 20 5, mv 4 20])
 (.pre (.norm false [4]) .ret)))))
def l278_0 : AX :=
 (.note
 (.seq
 (.seq
 (.reg [mv 5 4, mv 6 0, rg 7 (.len (.t 6)), rg 8 (.bin .lss (.t 5) (.t 7))])
 (.cond (.t 8)
 .skip
 (.exit 0)))
 (.seq
 (.block 1
 (.reg [mv 11 3, mv 12 0, mv 13 4, rg 14 (.iad 3 (.t 12) (.t 13)), rg 15 (.load (some 3) (.t 14)), rg 16 (.call 231 [(.t 15)]),
 rg 17 (.bsl 3 [(.b false), (.sl [] .nl), (.sl [] .nl)] 1 [(0, (.t 16))]), rg 18 (.app 3 (.t 11) (.t 17)), mv 3 18]))
 (.reg [mv 9 4, rg 10 (.bin .add (.t 9) (.c (.i .i64 1))), mv 4 10])))
 (.norm false [0, 3, 4]))
def b278 : AX :=
 (.seq
 (.reg [rg 2 (.mov (.c (.sl [] .nl)))])
 (.seq
 (.note (.reg [rg 3 (.mov (.c (.sl [] .nl)))]) (.nil 3 3))
 (.seq
 (.seq
 (.reg [rg 4 (.mov (.c (.i .i64 0)))])
 (.lp 0 (.norm false [0, 3, 4]) l278_0 (.norm false [3])))
 (.seq
 (.reg [mv 19 3, mv 2 19])
 (.pre (.norm false [2]) .ret)))))
def l279_0 : AX :=
 (.note
 (.seq
 (.seq
 (.reg [mv 11 5, mv 12 0, rg 13 (.len (.t 12)), rg 14 (.bin .lss (.t 11) (.t 13))])
 (.cond (.t 14)
 .skip
 (.exit 0)))
 (.seq
 (.block 1
 (.seq
 (.drawT [mv 17 0, mv 18 5, rg 19 (.iad 3 (.t 17) (.t 18)), rg 20 (.load (some 3) (.t 19)), mv 21 1, mv 22 5, rg 23 (.iad 3 (.t 21) (.t 22)),
 rg 24 (.load (some 3) (.t 23))]
 [rg 25 (.call 233 [(.t 20), (.t 24)]), rg 26 (.un .not (.t 25))])
 (.cond (.t 26)
 (.seq
 (.reg [rg 4 (.mov (.c (.b false)))])
 (.pre (.norm false [4]) .ret))
 .skip)))
 (.reg [mv 15 5, rg 16 (.bin .add (.t 15) (.c (.i .i64 1))), mv 5 16])))
 (.norm false [0, 1, 5]))
def b279 : AX :=
 (.seq
 (.reg [rg 4 (.mov (.c (.b false)))])
 (.seq
 (.seq
 (.reg [mv 6 0, rg 7 (.len (.t 6)), mv 8 1, rg 9 (.len (.t 8)), rg 10 (.bin .neq (.t 7) (.t 9))])
 (.cond (.t 10)
 (.seq
 (.reg [rg 4 (.mov (.c (.b false)))])
 (.pre (.norm false [4]) .ret))
 .skip))
 (.seq
 (.seq
 (.reg [rg 5 (.mov (.c (.i .i64 0)))])
 (.lp 0 (.norm false [0, 1, 5]) l279_0 (.norm false [])))
 (.seq
 (.reg [rg 4 (.mov (.c (.b true)))])
 (.pre (.norm false [4]) .ret)))))
def l280_0 : AX :=
 (.note
 (.seq
 (.seq
 (.reg [mv 7 6, mv 8 0, rg 9 (.len (.t 8)), rg 10 (.bin .lss (.t 7) (.t 9))])
 (.cond (.t 10)
 .skip
 (.exit 0)))
 (.seq
 (.block 1
 (.drawT [mv 13 5, mv 14 0, mv 15 6, rg 16 (.iad 3 (.t 14) (.t 15)), rg 17 (.load (some 3) (.t 16)), mv 18 1, mv 19 6, rg 20 (.iad 3 (.t 18) (.t 19)),
 rg 21 (.load (some 3) (.t 20)), rg 22 (.call 239 [(.t 17), (.t 21)]), rg 23 (.bsl 3 [(.b false), (.sl [] .nl), (.sl [] .nl)] 1 [(0, (.t 22))])]
 [rg 24 (.app 3 (.t 13) (.t 23)), mv 5 24]))
 (.reg [mv 11 6, rg 12 (.bin .add (.t 11) (.c (.i .i64 1))), mv 6 12])))
 (.norm false [0, 1, 5, 6]))
def b280 : AX :=
 (.seq
 (.reg [rg 4 (.mov (.c (.sl [] .nl)))])
 (.seq
 (.note (.reg [rg 5 (.mov (.c (.sl [] .nl)))]) (.nil 5 3))
 (.seq
 (.seq
 (.reg [rg 6 (.mov (.c (.i .i64 0)))])
 (.lp 0 (.norm false [0, 1, 5, 6]) l280_0 (.norm false [5])))
 (.seq
 (.reg [mv 25 5, mv 4 25])
 (.pre (.norm false [4]) .ret)))))
def l282_0 : AX :=
 (.note
 (.seq
 (.seq
 (.reg [mv 8 6, mv 9 0, rg 10 (.len (.t 9)), rg 11 (.bin .lss (.t 8) (.t 10))])
 (.cond (.t 11)
 .skip
 (.exit 0)))
 (.seq
 (.block 1
 (.drawT [rg 14 (.load (some 3) (.t 5)), mv 15 0, mv 16 6, rg 17 (.iad 3 (.t 15) (.t 16)), rg 18 (.load (some 3) (.t 17)), mv 19 1, mv 20 6,
 rg 21 (.iad 3 (.t 19) (.t 20)), rg 22 (.load (some 3) (.t 21)), rg 23 (.call 241 [(.t 18), (.t 22)])]
 [rg 24 (.call 239 [(.t 14), (.t 23)]), so (.store 3 (.t 5) (.t 24))]))
 (.reg [mv 12 6, rg 13 (.bin .add (.t 12) (.c (.i .i64 1))), mv 6 13])))
 (.norm false [0, 1, 4, 5, 6]))
def b282 : AX :=
 (.seq
 (.reg [rg 4 (.alloc [(.b false), (.sl [] .nl), (.sl [] .nl)])])
 (.seq
 (.reg [rg 7 (.call 232 [(.c (.i .i64 0))]), rg 5 (.alloc [(.b false), (.sl [] .nl), (.sl [] .nl)]), so (.store 3 (.t 5) (.t 7))])
 (.seq
 (.seq
 (.reg [rg 6 (.mov (.c (.i .i64 0)))])
 (.lp 0 (.norm false [0, 1, 4, 5, 6]) l282_0 (.norm false [4, 5])))
 (.seq
 (.reg [rg 25 (.load (some 3) (.t 5)), so (.store 3 (.t 4) (.t 25))])
 (.pre (.norm false [4]) .ret)))))
def l286_0 : AX :=
 (.note
 (.seq
 (.seq
 (.reg [mv 8 7, mv 9 0, rg 10 (.len (.t 9)), rg 11 (.bin .lss (.t 8) (.t 10)), mv 12 11, gd 13 12 true (.mov (.t 7)), gd 14 12 true (.mov (.t 1)),
 gd 15 12 true (.bin .lss (.t 13) (.t 14)), rg 16 (.pick (.t 12) (.t 15) (.c (.b false)))])
 (.cond (.t 16)
 .skip
 (.exit 0)))
 (.seq
 (.block 1
 (.seq
 (.reg [mv 19 0, mv 20 7, rg 21 (.iad 3 (.t 19) (.t 20)), rg 22 (.load (some 3) (.t 21)), mv 23 2, rg 24 (.call 247 [(.t 22), (.t 23)])])
 (.cond (.t 24)
 (.seq
 (.reg [rg 6 (.mov (.c (.b true)))])
 (.pre (.norm false [6]) .ret))
 .skip)))
 (.reg [mv 17 7, rg 18 (.bin .add (.t 17) (.c (.i .i64 1))), mv 7 18])))
 (.norm false [0, 1, 2, 7]))
def b286 : AX :=
 (.seq
 (.reg [rg 6 (.mov (.c (.b false)))])
 (.seq
 (.seq
 (.reg [rg 7 (.mov (.c (.i .i64 0)))])
 (.lp 0 (.norm false [0, 1, 2, 7]) l286_0 (.norm false [0, 1])))
 (.seq
 (.reg [mv 25 0, rg 26 (.len (.t 25)), mv 27 1, rg 28 (.bin .gtr (.t 26) (.t 27)), mv 6 28])
 (.pre (.norm false [6]) .ret))))
def l2276_0 : AX :=
 (.note
 (.seq
 (.seq
 (.reg [mv 5 4, mv 6 0, rg 7 (.bin .lss (.t 5) (.t 6)), mv 8 7, gd 9 8 true (.mov (.t 4)), gd 10 8 true (.bin .lss (.t 9) (.c (.i .i64 300))),
 rg 11 (.pick (.t 8) (.t 10) (.c (.b false)))])
 (.cond (.t 11)
 .skip
 (.exit 0)))
 (.seq
 (.block 1
 (.reg [mv 14 3, rg 15 (.call 232 [(.c (.i .i64 0))]), rg 16 (.bsl 3 [(.b false), (.sl [] .nl), (.sl [] .nl)] 1 [(0, (.t 15))]), rg 17 (.app 3 (.t 14) (.t 16)),
 mv 3 17]))
 (.reg [mv 12 4, rg 13 (.bin .add (.t 12) (.c (.i .i64 1))), mv 4 13])))
 (.norm false [0, 3, 4]))
def b2276 : AX :=
 (.seq
 (.reg [rg 2 (.mov (.c (.sl [] .nl)))])
 (.seq
 (.note (.reg [rg 3 (.mov (.c (.sl [] .nl)))]) (.nil 3 3))
 (.seq
 (.seq
 (.reg [rg 4 (.mov (.c (.i .i64 0)))])
 (.lp 0 (.norm false [0, 3, 4]) l2276_0 (.norm false [3])))
 (.seq
 (.reg [mv 18 3, mv 2 18])
 (.pre (.norm false [2]) .ret)))))
class CRef11 (T : Tbl) : Prop where
 h276 : T 276 = some ⟨1, 19, [.t 2], b276, none, false⟩
 h277 : T 277 = some ⟨2, 21, [.t 4], b277, none, false⟩
 h278 : T 278 = some ⟨1, 20, [.t 2], b278, none, false⟩
 h279 : T 279 = some ⟨2, 27, [.t 4], b279, none, false⟩
 h280 : T 280 = some ⟨2, 26, [.t 4], b280, none, false⟩
 h282 : T 282 = some ⟨2, 26, [.cell 4 (some 3)], b282, none, false⟩
 h286 : T 286 = some ⟨3, 29, [.t 6], b286, none, false⟩
 h2276 : T 2276 = some ⟨1, 19, [.t 2], b2276, (some [false]), false⟩
section
variable {T : Tbl} [CRef11 T] {d : Option Nat} {st : St} {xs : List AV} {ps : List Opd} {e : Env} {h : Heap} {ol : List Heap}
@[simp] theorem y276 : opD (orc T) T (.call 276 ps) e h ol = dP T 276 false ps e := opD_call CRef11.h276
theorem f276 (xs : List AV) (hn : xs.length = 1) : callF T 276 xs = retF [.t 2] false (evX (orc T) T 0 b276 ⟨argEnv xs, [], 1⟩) := callF_eq CRef11.h276 hn
@[simp] theorem y277 : opD (orc T) T (.call 277 ps) e h ol = dP T 277 false ps e := opD_call CRef11.h277
theorem f277 (xs : List AV) (hn : xs.length = 2) : callF T 277 xs = retF [.t 4] false (evX (orc T) T 0 b277 ⟨argEnv xs, [], 1⟩) := callF_eq CRef11.h277 hn
@[simp] theorem x278 : callX (orc T) T 278 xs d st = cP T 278 false xs d st := callX_pure CRef11.h278
theorem f278 (xs : List AV) (hn : xs.length = 1) : callF T 278 xs = retF [.t 2] false (evX (orc T) T 0 b278 ⟨argEnv xs, [], 1⟩) := callF_eq CRef11.h278 hn
@[simp] theorem x279 : callX (orc T) T 279 xs d st = cP T 279 false xs d st := callX_pure CRef11.h279
@[simp] theorem y279 : opD (orc T) T (.call 279 ps) e h ol = dP T 279 false ps e := opD_call CRef11.h279
theorem f279 (xs : List AV) (hn : xs.length = 2) : callF T 279 xs = retF [.t 4] false (evX (orc T) T 0 b279 ⟨argEnv xs, [], 1⟩) := callF_eq CRef11.h279 hn
@[simp] theorem x286 : callX (orc T) T 286 xs d st = cP T 286 false xs d st := callX_pure CRef11.h286
theorem f286 (xs : List AV) (hn : xs.length = 3) : callF T 286 xs = retF [.t 6] false (evX (orc T) T 0 b286 ⟨argEnv xs, [], 1⟩) := callF_eq CRef11.h286 hn
@[simp] theorem x2276 : callX (orc T) T 2276 xs d st = cL T 2276 false [false] xs d st := callX_lent CRef11.h2276
theorem f2276 (xs : List AV) (hb : Heap) (hn : xs.length = 1) : callH T 2276 xs hb = retH [.t 2] false hb.length (evX (orc T) T hb.length b2276 ⟨argEnv xs, hb, hb.length + 1⟩) := callH_eq CRef11.h2276 hn
end
end Go.Ab
end

section
namespace Go.Ab
def b238 : AX :=
 (.seq
 (.reg [rg 1 (.xop (.box 3) [(.t 0)]), rg 2 (.alloc [(.b false), (.sl [] .nl), (.sl [] .nl)])])
 (.seq
 (.reg [rg 3 (.fad 1 (.t 1)), rg 4 (.load none (.t 3)), rg 5 (.fad 2 (.t 1)), rg 6 (.load none (.t 5)),
 rg 7 (.build [(.b false), (.sl [] .nl), (.sl [] .nl)] [(1, 1, (.t 4)), (2, 1, (.t 6))]), so (.store 3 (.t 2) (.t 7))])
 (.pre (.norm false [2]) .ret)))
def l281_0 : AX :=
 (.note
 (.seq
 (.seq
 (.reg [mv 7 6, mv 8 1, rg 9 (.len (.t 8)), rg 10 (.bin .lss (.t 7) (.t 9))])
 (.cond (.t 10)
 .skip
 (.exit 0)))
 (.seq
 (.block 1
 (.drawT [mv 13 5, rg 14 (.load (some 3) (.t 2)), mv 15 1, mv 16 6, rg 17 (.iad 3 (.t 15) (.t 16)), rg 18 (.load (some 3) (.t 17)),
 rg 19 (.call 241 [(.t 14), (.t 18)]), rg 20 (.bsl 3 [(.b false), (.sl [] .nl), (.sl [] .nl)] 1 [(0, (.t 19))])]
 [rg 21 (.app 3 (.t 13) (.t 20)), mv 5 21]))
 (.reg [mv 11 6, rg 12 (.bin .add (.t 11) (.c (.i .i64 1))), mv 6 12])))
 (.norm false [1, 2, 5, 6]))
def b281 : AX :=
 (.seq
 (.reg [rg 2 (.xop (.box 3) [(.t 0)]), rg 4 (.mov (.c (.sl [] .nl)))])
 (.seq
 (.note (.reg [rg 5 (.mov (.c (.sl [] .nl)))]) (.nil 5 3))
 (.seq
 (.seq
 (.reg [rg 6 (.mov (.c (.i .i64 0)))])
 (.lp 0 (.norm false [1, 2, 5, 6]) l281_0 (.norm false [5])))
 (.seq
 (.reg [mv 22 5, mv 4 22])
 (.pre (.norm false [4]) .ret)))))
def l283_0 : AX :=
 (.note
 (.seq
 (.seq
 (.reg [mv 7 4, mv 8 0, rg 9 (.len (.t 8)), rg 10 (.bin .lss (.t 7) (.t 9))])
 (.cond (.t 10)
 .skip
 (.exit 0)))
 (.seq
 (.block 1
 (.seq
 (.reg [mv 13 0, mv 14 4, rg 15 (.iad 3 (.t 13) (.t 14)), rg 16 (.load (some 3) (.t 15)), rg 17 (.call 238 [(.t 16)]),
 rg 5 (.alloc [(.b false), (.sl [] .nl), (.sl [] .nl)]), so (.store 3 (.t 5) (.t 17))])
 (.seq
 (.reg [rg 18 (.load (some 3) (.t 5)), rg 19 (.load (some 3) (.t 3)), rg 20 (.call 243 [(.t 18), (.t 19)]), rg 21 (.bin .gtr (.t 20) (.c (.i .i64 0)))])
 (.cond (.t 21)
 (.reg [rg 22 (.load (some 3) (.t 5)), so (.store 3 (.t 3) (.t 22))])
 .skip))))
 (.reg [mv 11 4, rg 12 (.bin .add (.t 11) (.c (.i .i64 1))), mv 4 12])))
 (.norm false [0, 2, 3, 4]))
def b283 : AX :=
 (.seq
 (.reg [rg 2 (.alloc [(.b false), (.sl [] .nl), (.sl [] .nl)])])
 (.seq
 (.reg [rg 6 (.call 232 [(.c (.i .i64 0))]), rg 3 (.alloc [(.b false), (.sl [] .nl), (.sl [] .nl)]), so (.store 3 (.t 3) (.t 6))])
 (.seq
 (.seq
 (.reg [rg 4 (.mov (.c (.i .i64 0)))])
 (.lp 0 (.norm false [0, 2, 3, 4]) l283_0 (.norm false [2, 3])))
 (.seq
 (.reg [rg 23 (.load (some 3) (.t 3)), so (.store 3 (.t 2) (.t 23))])
 (.pre (.norm false [2]) .ret)))))
def b243 : AX :=
 (.seq
 (.reg [rg 2 (.xop (.box 3) [(.t 0)]), rg 3 (.xop (.box 3) [(.t 1)]), rg 4 (.mov (.c (.i .i64 0)))])
 (.seq
 (.reg [rg 5 (.load (some 3) (.t 2)), rg 6 (.load (some 3) (.t 3)), rg 7 (.call 240 [(.t 5), (.t 6)]), rg 8 (.call 236 [(.t 7)]), mv 4 8])
 (.pre (.norm false [4]) .ret)))
def b245 : AX :=
 (.seq
 (.reg [rg 1 (.xop (.box 3) [(.t 0)]), rg 2 (.mov (.c (.i .i64 0)))])
 (.seq
 (.drawT [rg 3 (.fad 1 (.t 1)), rg 4 (.load none (.t 3)), rg 5 (.call 95 [(.t 4)]), rg 6 (.fad 2 (.t 1)), rg 7 (.load none (.t 6))]
 [rg 8 (.call 95 [(.t 7)]), rg 9 (.bin .add (.t 5) (.t 8)), mv 2 9])
 (.pre (.norm false [2]) .ret)))
class CRef5 (T : Tbl) : Prop where
 h238 : T 238 = some ⟨1, 8, [.cell 2 (some 3)], b238, none, false⟩
 h281 : T 281 = some ⟨2, 23, [.t 4], b281, none, false⟩
 h283 : T 283 = some ⟨1, 24, [.cell 2 (some 3)], b283, none, false⟩
 h243 : T 243 = some ⟨2, 9, [.t 4], b243, none, false⟩
 h245 : T 245 = some ⟨1, 10, [.t 2], b245, none, false⟩
section
variable {T : Tbl} [CRef5 T] {d : Option Nat} {st : St} {xs : List AV} {ps : List Opd} {e : Env} {h : Heap} {ol : List Heap}
@[simp] theorem x238 : callX (orc T) T 238 xs d st = cP T 238 false xs d st := callX_pure CRef5.h238
theorem f238 (xs : List AV) (hn : xs.length = 1) : callF T 238 xs = retF [.cell 2 (some 3)] false (evX (orc T) T 0 b238 ⟨argEnv xs, [], 1⟩) := callF_eq CRef5.h238 hn
@[simp] theorem y283 : opD (orc T) T (.call 283 ps) e h ol = dP T 283 false ps e := opD_call CRef5.h283
theorem f283 (xs : List AV) (hn : xs.length = 1) : callF T 283 xs = retF [.cell 2 (some 3)] false (evX (orc T) T 0 b283 ⟨argEnv xs, [], 1⟩) := callF_eq CRef5.h283 hn
@[simp] theorem x243 : callX (orc T) T 243 xs d st = cP T 243 false xs d st := callX_pure CRef5.h243
theorem f243 (xs : List AV) (hn : xs.length = 2) : callF T 243 xs = retF [.t 4] false (evX (orc T) T 0 b243 ⟨argEnv xs, [], 1⟩) := callF_eq CRef5.h243 hn
@[simp] theorem x245 : callX (orc T) T 245 xs d st = cP T 245 false xs d st := callX_pure CRef5.h245
theorem f245 (xs : List AV) (hn : xs.length = 1) : callF T 245 xs = retF [.t 2] false (evX (orc T) T 0 b245 ⟨argEnv xs, [], 1⟩) := callF_eq CRef5.h245 hn
end
end Go.Ab
end

section
namespace Go.Ab
def b248 : AX :=
 (.seq
 (.reg [rg 1 (.xop (.box 3) [(.t 0)]), rg 2 (.alloc [(.b false), (.sl [] .nl), (.sl [] .nl)])])
 (.seq
 (.reg [rg 3 (.fad 0 (.t 1)), rg 4 (.load none (.t 3)), rg 5 (.fad 1 (.t 1)), rg 6 (.load none (.t 5)),
 rg 7 (.build [(.b false), (.sl [] .nl)] [(0, 1, (.t 4)), (1, 1, (.t 6))]), rg 8 (.fad 2 (.t 1)), rg 9 (.load none (.t 8)),
 rg 10 (.build [(.b false), (.sl [] .nl), (.sl [] .nl)] [(0, 2, (.t 7)), (2, 1, (.t 9))]), so (.store 3 (.t 2) (.t 10))])
 (.pre (.norm false [2]) .ret)))
def b249 : AX :=
 (.seq
 (.reg [rg 1 (.xop (.box 3) [(.t 0)]), rg 2 (.alloc [(.b false), (.sl [] .nl), (.sl [] .nl)])])
 (.seq
 (.reg [rg 3 (.fad 0 (.t 1)), rg 4 (.fad 0 (.t 3)), rg 5 (.load none (.t 4)), rg 6 (.fad 0 (.t 1)), rg 7 (.fad 1 (.t 6)), rg 8 (.load none (.t 7)),
 rg 9 (.fad 2 (.t 1)), rg 10 (.load none (.t 9)),
 rg 11 (.build [(.b false), (.sl [] .nl), (.sl [] .nl)] [(0, 1, (.t 5)), (1, 1, (.t 8)), (2, 1, (.t 10))]), so (.store 3 (.t 2) (.t 11))])
 (.pre (.norm false [2]) .ret)))
def b250 : AX :=
 (.seq
 (.reg [rg 2 (.xop (.box 3) [(.t 0)]), rg 3 (.xop (.box 3) [(.t 1)]), rg 4 (.mov (.c (.b false)))])
 (.seq
 (.drawT [rg 5 (.load (some 3) (.t 2)), rg 6 (.call 249 [(.t 5)]), rg 7 (.load (some 3) (.t 3))]
 [rg 8 (.call 233 [(.t 6), (.t 7)]), mv 4 8])
 (.pre (.norm false [4]) .ret)))
class CLaw09 (T : Tbl) : Prop where
 h248 : T 248 = some ⟨1, 11, [.cell 2 (some 3)], b248, none, false⟩
 h249 : T 249 = some ⟨1, 12, [.cell 2 (some 3)], b249, none, false⟩
 h250 : T 250 = some ⟨2, 9, [.t 4], b250, none, false⟩
section
variable {T : Tbl} [CLaw09 T] {d : Option Nat} {st : St} {xs : List AV} {ps : List Opd} {e : Env} {h : Heap} {ol : List Heap}
@[simp] theorem x248 : callX (orc T) T 248 xs d st = cP T 248 false xs d st := callX_pure CLaw09.h248
theorem f248 (xs : List AV) (hn : xs.length = 1) : callF T 248 xs = retF [.cell 2 (some 3)] false (evX (orc T) T 0 b248 ⟨argEnv xs, [], 1⟩) := callF_eq CLaw09.h248 hn
@[simp] theorem x249 : callX (orc T) T 249 xs d st = cP T 249 false xs d st := callX_pure CLaw09.h249
@[simp] theorem y249 : opD (orc T) T (.call 249 ps) e h ol = dP T 249 false ps e := opD_call CLaw09.h249
theorem f249 (xs : List AV) (hn : xs.length = 1) : callF T 249 xs = retF [.cell 2 (some 3)] false (evX (orc T) T 0 b249 ⟨argEnv xs, [], 1⟩) := callF_eq CLaw09.h249 hn
@[simp] theorem y250 : opD (orc T) T (.call 250 ps) e h ol = dP T 250 false ps e := opD_call CLaw09.h250
theorem f250 (xs : List AV) (hn : xs.length = 2) : callF T 250 xs = retF [.t 4] false (evX (orc T) T 0 b250 ⟨argEnv xs, [], 1⟩) := callF_eq CLaw09.h250 hn
end
end Go.Ab
end

section
namespace Go.Ab
def l287_0 : AX :=
 (.note
 (.seq
 (.seq
 (.reg [mv 5 4, mv 6 0, rg 7 (.len (.t 6)), rg 8 (.bin .lss (.t 5) (.t 7))])
 (.cond (.t 8)
 .skip
 (.exit 0)))
 (.seq
 (.block 1
 (.reg [mv 11 3, mv 12 0, mv 13 4, rg 14 (.iad 3 (.t 12) (.t 13)), rg 15 (.load (some 3) (.t 14)), rg 16 (.call 248 [(.t 15)]),
 rg 17 (.bsl 3 [(.b false), (.sl [] .nl), (.sl [] .nl)] 1 [(0, (.t 16))]), rg 18 (.app 3 (.t 11) (.t 17)), mv 3 18]))
 (.reg [mv 9 4, rg 10 (.bin .add (.t 9) (.c (.i .i64 1))), mv 4 10])))
 (.norm false [0, 3, 4]))
def b287 : AX :=
 (.seq
 (.reg [rg 2 (.mov (.c (.sl [] .nl)))])
 (.seq
 (.note (.reg [rg 3 (.mov (.c (.sl [] .nl)))]) (.nil 3 3))
 (.seq
 (.seq
 (.reg [rg 4 (.mov (.c (.i .i64 0)))])
 (.lp 0 (.norm false [0, 3, 4]) l287_0 (.norm false [3])))
 (.seq
 (.reg [mv 19 3, mv 2 19])
 (.pre (.norm false [2]) .ret)))))
def l288_0 : AX :=
 (.note
 (.seq
 (.seq
 (.reg [mv 5 4, mv 6 0, rg 7 (.len (.t 6)), rg 8 (.bin .lss (.t 5) (.t 7))])
 (.cond (.t 8)
 .skip
 (.exit 0)))
 (.seq
 (.block 1
 (.reg [mv 11 3, mv 12 0, mv 13 4, rg 14 (.iad 3 (.t 12) (.t 13)), rg 15 (.load (some 3) (.t 14)), rg 16 (.call 249 [(.t 15)]),
 rg 17 (.bsl 3 [(.b false), (.sl [] .nl), (.sl [] .nl)] 1 [(0, (.t 16))]), rg 18 (.app 3 (.t 11) (.t 17)), mv 3 18]))
 (.reg [mv 9 4, rg 10 (.bin .add (.t 9) (.c (.i .i64 1))), mv 4 10])))
 (.norm false [0, 3, 4]))
def b288 : AX :=
 (.seq
 (.reg [rg 2 (.mov (.c (.sl [] .nl)))])
 (.seq
 (.note (.reg [rg 3 (.mov (.c (.sl [] .nl)))]) (.nil 3 3))
 (.seq
 (.seq
 (.reg [rg 4 (.mov (.c (.i .i64 0)))])
 (.lp 0 (.norm false [0, 3, 4]) l288_0 (.norm false [3])))
 (.seq
 (.reg [mv 19 3, mv 2 19])
 (.pre (.norm false [2]) .ret)))))
def b289 : AX :=
 (.seq
 (.reg [rg 4 (.mov (.c (.b false)))])
 (.seq
 (.reg [mv 5 0, rg 6 (.call 288 [(.t 5)]), mv 7 1, rg 8 (.call 279 [(.t 6), (.t 7)]), mv 4 8])
 (.pre (.norm false [4]) .ret)))
class CLaw11 (T : Tbl) : Prop where
 h287 : T 287 = some ⟨1, 20, [.t 2], b287, none, false⟩
 h288 : T 288 = some ⟨1, 20, [.t 2], b288, none, false⟩
 h289 : T 289 = some ⟨2, 9, [.t 4], b289, none, false⟩
section
variable {T : Tbl} [CLaw11 T] {d : Option Nat} {st : St} {xs : List AV} {ps : List Opd} {e : Env} {h : Heap} {ol : List Heap}
@[simp] theorem y287 : opD (orc T) T (.call 287 ps) e h ol = dP T 287 false ps e := opD_call CLaw11.h287
theorem f287 (xs : List AV) (hn : xs.length = 1) : callF T 287 xs = retF [.t 2] false (evX (orc T) T 0 b287 ⟨argEnv xs, [], 1⟩) := callF_eq CLaw11.h287 hn
@[simp] theorem x288 : callX (orc T) T 288 xs d st = cP T 288 false xs d st := callX_pure CLaw11.h288
theorem f288 (xs : List AV) (hn : xs.length = 1) : callF T 288 xs = retF [.t 2] false (evX (orc T) T 0 b288 ⟨argEnv xs, [], 1⟩) := callF_eq CLaw11.h288 hn
@[simp] theorem y289 : opD (orc T) T (.call 289 ps) e h ol = dP T 289 false ps e := opD_call CLaw11.h289
theorem f289 (xs : List AV) (hn : xs.length = 2) : callF T 289 xs = retF [.t 4] false (evX (orc T) T 0 b289 ⟨argEnv xs, [], 1⟩) := callF_eq CLaw11.h289 hn
end
end Go.Ab
end

section
namespace Go.Ab
def b334 : AX :=
 (.seq
 (.reg [rg 0 (.mov (.c (.b false)))])
 (.seq
 (.reg [rg 12 (.call 275 [(.c (.s [49, 44, 50]))]), mv 11 12, rg 13 (.ext (.t 11) 0), rg 14 (.ext (.t 11) 1),
 rg 2 (.alloc [(.i .i64 0), (.i .i64 0), (.i .i64 0), (.i .i64 0)]), mv 1 13, so (.store 4 (.t 2) (.t 14))])
 (.seq
 (.reg [rg 16 (.call 275 [(.c (.s [51, 44, 52]))]), mv 15 16, rg 17 (.ext (.t 15) 0), rg 18 (.ext (.t 15) 1),
 rg 4 (.alloc [(.i .i64 0), (.i .i64 0), (.i .i64 0), (.i .i64 0)]), mv 3 17, so (.store 4 (.t 4) (.t 18))])
 (.seq
 (.reg [rg 20 (.call 275 [(.c (.s [49, 44, 44, 50]))]), mv 19 20, rg 21 (.ext (.t 19) 0), rg 22 (.ext (.t 19) 1),
 rg 6 (.alloc [(.i .i64 0), (.i .i64 0), (.i .i64 0), (.i .i64 0)]), mv 5 21, so (.store 4 (.t 6) (.t 22))])
 (.seq
 (.reg [mv 24 1, mv 25 3, rg 26 (.call 270 [(.t 24), (.t 25)]), mv 23 26, rg 27 (.ext (.t 23) 0), rg 28 (.ext (.t 23) 1),
 rg 7 (.alloc [(.b false), (.sl [] .nl), (.sl [] .nl)]), so (.store 3 (.t 7) (.t 27)), mv 8 28])
 (.seq
 (.reg [mv 30 1, mv 31 3, rg 32 (.bsl 1 [(.sl [] .nl)] 2 [(0, (.t 30)), (1, (.t 31))]), rg 33 (.call 267 [(.t 32)]), mv 29 33, rg 34 (.ext (.t 29) 0),
 rg 35 (.ext (.t 29) 1), mv 9 34, mv 10 35])
 (.seq
 (.drawT [rg 36 (.load (some 4) (.t 2)), rg 37 (.build [(.i .i64 0), (.i .i64 0), (.i .i64 0), (.i .i64 0)] []),
 rg 38 (.eqs false [(0, .int), (1, .int), (2, .int), (3, .int)] (.t 36) (.t 37)), mv 39 38, gd 40 39 true (.load (some 4) (.t 4)),
 gd 41 39 true (.build [(.i .i64 0), (.i .i64 0), (.i .i64 0), (.i .i64 0)] []),
 gd 42 39 true (.eqs false [(0, .int), (1, .int), (2, .int), (3, .int)] (.t 40) (.t 41)), rg 43 (.pick (.t 39) (.t 42) (.c (.b false))), mv 44 43,
 gd 45 44 true (.load (some 4) (.t 6)),
 gd 46 44 true (.build [(.i .i64 0), (.i .i64 0), (.i .i64 0), (.i .i64 0)] [(0, 1, (.c (.i .i64 1))), (3, 1, (.c (.i .i64 2)))]),
 gd 47 44 true (.eqs false [(0, .int), (1, .int), (2, .int), (3, .int)] (.t 45) (.t 46)), rg 48 (.pick (.t 44) (.t 47) (.c (.b false))), mv 49 48,
 gd 50 49 true (.mov (.t 8)), rg 51 (.pick (.t 49) (.t 50) (.c (.b false))), mv 52 51, gd 53 52 true (.load (some 3) (.t 7)),
 gd 54 52 true (.call 205 [(.c (.i .i64 11))])]
 [gd 55 52 true (.call 212 [(.t 53), (.t 54)]), rg 56 (.pick (.t 52) (.t 55) (.c (.b false))), mv 57 56, gd 58 57 true (.mov (.t 10)),
 rg 59 (.pick (.t 57) (.t 58) (.c (.b false))), mv 60 59, gd 61 60 true (.mov (.t 9)), gd 62 60 true (.call 274 [(.t 61)]),
 gd 63 60 true (.bin .eql (.t 62) (.c (.s [52, 44, 54]))), rg 64 (.pick (.t 60) (.t 63) (.c (.b false))), mv 0 64])
 (.pre (.norm false [0]) .ret))))))))
class CLaw11b (T : Tbl) : Prop where
 h334 : T 334 = some ⟨0, 65, [.t 0], b334, none, false⟩
section
variable {T : Tbl} [CLaw11b T] {d : Option Nat} {st : St} {xs : List AV} {ps : List Opd} {e : Env} {h : Heap} {ol : List Heap}
@[simp] theorem x334 : callX (orc T) T 334 xs d st = cP T 334 false xs d st := callX_pure CLaw11b.h334
theorem f334 (xs : List AV) (hn : xs.length = 0) : callF T 334 xs = retF [.t 0] false (evX (orc T) T 0 b334 ⟨argEnv xs, [], 1⟩) := callF_eq CLaw11b.h334 hn
end
end Go.Ab
end

section
namespace Go.Ab
def b366 : AX :=
 (.seq
 (.reg [rg 2 (.mov (.c (.b false)))])
 (.seq
 (.seq
 (.reg [mv 5 0, rg 6 (.call 286 [(.t 5), (.c (.i .i64 12)), (.c (.i .i64 5))])])
 (.cond (.t 6)
 (.seq
 (.reg [rg 7 (.call 334 []), mv 2 7])
 (.pre (.norm false [2]) .ret))
 .skip))
 (.seq
 (.reg [mv 9 0, rg 10 (.call 287 [(.t 9)]), rg 11 (.call 274 [(.t 10)]), rg 12 (.call 275 [(.t 11)]), mv 8 12, rg 13 (.ext (.t 8) 0), rg 14 (.ext (.t 8) 1),
 rg 4 (.alloc [(.i .i64 0), (.i .i64 0), (.i .i64 0), (.i .i64 0)]), mv 3 13, so (.store 4 (.t 4) (.t 14))])
 (.seq
 (.reg [rg 15 (.load (some 4) (.t 4)), rg 16 (.build [(.i .i64 0), (.i .i64 0), (.i .i64 0), (.i .i64 0)] []),
 rg 17 (.eqs false [(0, .int), (1, .int), (2, .int), (3, .int)] (.t 15) (.t 16)), mv 18 17, gd 19 18 true (.mov (.t 3)), gd 20 18 true (.mov (.t 0)),
 gd 21 18 true (.call 287 [(.t 20)]), gd 22 18 true (.call 265 [(.t 19), (.t 21)]), rg 23 (.pick (.t 18) (.t 22) (.c (.b false))), mv 24 23,
 gd 25 24 true (.call 334 []), rg 26 (.pick (.t 24) (.t 25) (.c (.b false))), mv 2 26])
 (.pre (.norm false [2]) .ret)))))
def b367 : AX :=
 (.seq
 (.reg [rg 5 (.xop (.box 3) [(.t 2)]), rg 6 (.mov (.c (.b false)))])
 (.seq
 (.seq
 (.reg [mv 18 0, rg 19 (.call 286 [(.t 18), (.c (.i .i64 12)), (.c (.i .i64 4))]), mv 20 19, gd 21 20 false (.mov (.t 1)),
 gd 22 20 false (.call 286 [(.t 21), (.c (.i .i64 12)), (.c (.i .i64 4))]), rg 23 (.pick (.t 20) (.c (.b true)) (.t 22)), mv 24 23,
 gd 25 24 false (.load (some 3) (.t 5)), gd 26 24 false (.call 247 [(.t 25), (.c (.i .i64 4))]), rg 27 (.pick (.t 24) (.c (.b true)) (.t 26))])
 (.cond (.t 27)
 (.seq
 (.reg [rg 28 (.call 334 []), mv 6 28])
 (.pre (.norm false [6]) .ret))
 .skip))
 (.seq
 (.reg [mv 29 0, rg 30 (.call 278 [(.t 29)]), mv 7 30])
 (.seq
 (.reg [mv 31 1, rg 32 (.call 278 [(.t 31)]), mv 8 32])
 (.seq
 (.reg [rg 33 (.load (some 3) (.t 5)), rg 34 (.call 231 [(.t 33)]), rg 9 (.alloc [(.b false), (.sl [] .nl), (.sl [] .nl)]), so (.store 3 (.t 9) (.t 34))])
 (.seq
 (.reg [mv 36 0, rg 37 (.call 287 [(.t 36)]), mv 38 1, rg 39 (.call 287 [(.t 38)]), mv 40 0, rg 41 (.call 287 [(.t 40)]),
 rg 42 (.bsl 1 [(.sl [] .nl)] 3 [(0, (.t 37)), (1, (.t 39)), (2, (.t 41))]), rg 43 (.call 267 [(.t 42)]), mv 35 43, rg 44 (.ext (.t 35) 0),
 rg 45 (.ext (.t 35) 1), mv 10 44, mv 11 45])
 (.seq
 (.reg [mv 47 0, rg 48 (.call 287 [(.t 47)]), mv 49 1, rg 50 (.call 287 [(.t 49)]), rg 51 (.call 268 [(.t 48), (.t 50)]), mv 46 51, rg 52 (.ext (.t 46) 0),
 rg 53 (.ext (.t 46) 1), mv 12 52, mv 13 53])
 (.seq
 (.reg [mv 55 0, rg 56 (.call 287 [(.t 55)]), mv 57 1, rg 58 (.call 287 [(.t 57)]), rg 59 (.call 270 [(.t 56), (.t 58)]), mv 54 59, rg 60 (.ext (.t 54) 0),
 rg 61 (.ext (.t 54) 1), rg 14 (.alloc [(.b false), (.sl [] .nl), (.sl [] .nl)]), so (.store 3 (.t 14) (.t 60)), mv 15 61])
 (.seq
 (.reg [rg 63 (.call 267 [(.c (.sl [] .nl))]), mv 62 63, rg 64 (.ext (.t 62) 0), rg 65 (.ext (.t 62) 1), mv 16 64, mv 17 65])
 (.seq
 (.seq
 (.drawT [rg 66 (.load (some 3) (.t 5)), rg 67 (.call 248 [(.t 66)]), mv 68 0, rg 69 (.call 287 [(.t 68)]), rg 70 (.call 269 [(.t 67), (.t 69)]),
 rg 71 (.load (some 3) (.t 9)), mv 72 7]
 [rg 73 (.call 281 [(.t 71), (.t 72)]), rg 74 (.call 289 [(.t 70), (.t 73)]), rg 75 (.un .not (.t 74)), mv 76 75, gd 77 76 false (.mov (.t 16)),
 gd 78 76 false (.len (.t 77)), gd 79 76 false (.bin .neq (.t 78) (.c (.i .i64 0))), rg 80 (.pick (.t 76) (.c (.b true)) (.t 79)), mv 81 80,
 gd 82 81 false (.mov (.t 17)), gd 83 81 false (.un .not (.t 82)), rg 84 (.pick (.t 81) (.c (.b true)) (.t 83))])
 (.cond (.t 84)
 (.seq
 (.reg [rg 6 (.mov (.c (.b false)))])
 (.pre (.norm false [6]) .ret))
 .skip))
 (.seq
 (.seq
 (.reg [mv 85 0, rg 86 (.len (.t 85)), mv 87 1, rg 88 (.len (.t 87)), rg 89 (.bin .neq (.t 86) (.t 88))])
 (.cond (.t 89)
 (.seq
 (.reg [mv 90 10, rg 91 (.len (.t 90)), rg 92 (.bin .eql (.t 91) (.c (.i .i64 0))), mv 93 92, gd 94 93 true (.mov (.t 11)), gd 95 93 true (.un .not (.t 94)),
 rg 96 (.pick (.t 93) (.t 95) (.c (.b false))), mv 97 96, gd 98 97 true (.mov (.t 12)), gd 99 97 true (.len (.t 98)),
 gd 100 97 true (.bin .eql (.t 99) (.c (.i .i64 0))), rg 101 (.pick (.t 97) (.t 100) (.c (.b false))), mv 102 101, gd 103 102 true (.mov (.t 13)),
 gd 104 102 true (.un .not (.t 103)), rg 105 (.pick (.t 102) (.t 104) (.c (.b false))), mv 106 105, gd 107 106 true (.load (some 3) (.t 14)),
 gd 108 106 true (.call 209 [(.t 107)]), gd 109 106 true (.bin .eql (.t 108) (.c (.i .i64 0))), rg 110 (.pick (.t 106) (.t 109) (.c (.b false))),
 mv 111 110, gd 112 111 true (.mov (.t 15)), gd 113 111 true (.un .not (.t 112)), rg 114 (.pick (.t 111) (.t 113) (.c (.b false))), mv 115 114,
 gd 116 115 true (.call 334 []), rg 117 (.pick (.t 115) (.t 116) (.c (.b false))), mv 6 117])
 (.pre (.norm false [6]) .ret))
 .skip))
 (.seq
 (.drawT [mv 118 10, mv 119 7, mv 120 8, rg 121 (.call 280 [(.t 119), (.t 120)]), mv 122 7, rg 123 (.call 280 [(.t 121), (.t 122)]),
 rg 124 (.call 289 [(.t 118), (.t 123)]), mv 125 124, gd 126 125 true (.mov (.t 11)), rg 127 (.pick (.t 125) (.t 126) (.c (.b false))), mv 128 127,
 gd 129 128 true (.mov (.t 12)), gd 130 128 true (.mov (.t 7)), gd 131 128 true (.call 232 [(.c (.i .i64 (-1)))]), gd 132 128 true (.mov (.t 8)),
 gd 133 128 true (.call 281 [(.t 131), (.t 132)]), gd 134 128 true (.call 280 [(.t 130), (.t 133)]), gd 135 128 true (.call 289 [(.t 129), (.t 134)]),
 rg 136 (.pick (.t 128) (.t 135) (.c (.b false))), mv 137 136, gd 138 137 true (.mov (.t 13)), rg 139 (.pick (.t 137) (.t 138) (.c (.b false))),
 mv 140 139, gd 141 140 true (.load (some 3) (.t 14)), gd 142 140 true (.mov (.t 7)), gd 143 140 true (.mov (.t 8)),
 gd 144 140 true (.call 282 [(.t 142), (.t 143)])]
 [gd 145 140 true (.call 250 [(.t 141), (.t 144)]), rg 146 (.pick (.t 140) (.t 145) (.c (.b false))), mv 147 146, gd 148 147 true (.mov (.t 15)),
 rg 149 (.pick (.t 147) (.t 148) (.c (.b false))), mv 150 149, gd 151 150 true (.call 334 []), rg 152 (.pick (.t 150) (.t 151) (.c (.b false))), mv 6 152])
 (.pre (.norm false [6]) .ret)))))))))))))
def l368_0 : AX :=
 (.note
 (.seq
 (.seq
 (.reg [mv 35 9, mv 36 1, rg 37 (.len (.t 36)), rg 38 (.bin .lss (.t 35) (.t 37))])
 (.cond (.t 38)
 .skip
 (.exit 0)))
 (.seq
 (.block 1
 (.seq
 (.seq
 (.reg [mv 41 1, mv 42 9, rg 43 (.iad 1 (.t 41) (.t 42)), rg 44 (.load none (.t 43)), rg 45 (.call 286 [(.t 44), (.c (.i .i64 8)), (.c (.i .i64 3))])])
 (.cond (.t 45)
 (.seq
 (.reg [rg 46 (.call 334 []), mv 6 46])
 (.pre (.norm false [6]) .ret))
 .skip))
 (.seq
 (.reg [mv 47 7, mv 48 47, gd 49 48 true (.mov (.t 1)), gd 50 48 true (.mov (.t 9)), gd 51 48 true (.iad 1 (.t 49) (.t 50)), gd 52 48 true (.load none (.t 51)),
 gd 53 48 true (.len (.t 52)), gd 54 48 true (.mov (.t 2)), gd 55 48 true (.bin .eql (.t 53) (.t 54)), rg 56 (.pick (.t 48) (.t 55) (.c (.b false))),
 mv 7 56])
 (.reg [mv 57 8, mv 58 1, mv 59 9, rg 60 (.iad 1 (.t 58) (.t 59)), rg 61 (.load none (.t 60)), rg 62 (.call 287 [(.t 61)]),
 rg 63 (.bsl 1 [(.sl [] .nl)] 1 [(0, (.t 62))]), rg 64 (.app 1 (.t 57) (.t 63)), mv 8 64]))))
 (.reg [mv 39 9, rg 40 (.bin .add (.t 39) (.c (.i .i64 1))), mv 9 40])))
 (.norm false [0, 1, 2, 7, 8, 9]))
def l368_1 : AX :=
 (.note
 (.seq
 (.seq
 (.reg [mv 87 13, mv 88 1, rg 89 (.len (.t 88)), rg 90 (.bin .lss (.t 87) (.t 89))])
 (.cond (.t 90)
 .skip
 (.exit 2)))
 (.seq
 (.block 3
 (.drawT [mv 93 12, mv 94 0, mv 95 13, rg 96 (.iad 3 (.t 94) (.t 95)), rg 97 (.load (some 3) (.t 96)), rg 98 (.call 231 [(.t 97)]), mv 99 1, mv 100 13,
 rg 101 (.iad 1 (.t 99) (.t 100)), rg 102 (.load none (.t 101)), rg 103 (.call 278 [(.t 102)]), rg 104 (.call 281 [(.t 98), (.t 103)])]
 [rg 105 (.call 280 [(.t 93), (.t 104)]), mv 12 105]))
 (.reg [mv 91 13, rg 92 (.bin .add (.t 91) (.c (.i .i64 1))), mv 13 92])))
 (.norm false [0, 1, 10, 11, 12, 13]))
def b368 : AX :=
 (.seq
 (.reg [rg 6 (.mov (.c (.b false)))])
 (.seq
 (.seq
 (.reg [mv 14 0, rg 15 (.call 286 [(.t 14), (.c (.i .i64 8)), (.c (.i .i64 3))]), mv 16 15, gd 17 16 false (.mov (.t 1)), gd 18 16 false (.len (.t 17)),
 gd 19 16 false (.bin .gtr (.t 18) (.c (.i .i64 8))), rg 20 (.pick (.t 16) (.c (.b true)) (.t 19))])
 (.cond (.t 20)
 (.seq
 (.reg [rg 21 (.call 334 []), mv 6 21])
 (.pre (.norm false [6]) .ret))
 .skip))
 (.seq
 (.reg [mv 22 0, rg 23 (.len (.t 22)), mv 24 1, rg 25 (.len (.t 24)), rg 26 (.bin .eql (.t 23) (.t 25)), mv 27 26, gd 28 27 true (.mov (.t 2)),
 gd 29 27 true (.bin .geq (.t 28) (.c (.i .i64 0))), rg 30 (.pick (.t 27) (.t 29) (.c (.b false))), mv 31 30, gd 32 31 true (.mov (.t 2)),
 gd 33 31 true (.bin .leq (.t 32) (.c (.i .i64 300))), rg 34 (.pick (.t 31) (.t 33) (.c (.b false))), mv 7 34])
 (.seq
 (.note (.reg [rg 8 (.mov (.c (.sl [] .nl)))]) (.nil 8 1))
 (.seq
 (.seq
 (.reg [rg 9 (.mov (.c (.i .i64 0)))])
 (.lp 0 (.norm false [0, 1, 2, 7, 8, 9]) l368_0 (.norm false [0, 1, 2, 7, 8])))
 (.seq
 (.reg [mv 66 0, rg 67 (.call 287 [(.t 66)]), mv 68 8, mv 69 2, rg 70 (.call 271 [(.t 67), (.t 68), (.t 69)]), mv 65 70, rg 71 (.ext (.t 65) 0),
 rg 72 (.ext (.t 65) 1), mv 10 71, mv 11 72])
 (.seq
 (.seq
 (.reg [mv 73 7, rg 74 (.un .not (.t 73))])
 (.cond (.t 74)
 (.seq
 (.reg [mv 75 10, rg 76 (.len (.t 75)), rg 77 (.bin .eql (.t 76) (.c (.i .i64 0))), mv 78 77, gd 79 78 true (.mov (.t 11)), gd 80 78 true (.un .not (.t 79)),
 rg 81 (.pick (.t 78) (.t 80) (.c (.b false))), mv 82 81, gd 83 82 true (.call 334 []), rg 84 (.pick (.t 82) (.t 83) (.c (.b false))), mv 6 84])
 (.pre (.norm false [6]) .ret))
 .skip))
 (.seq
 (.reg [mv 85 2, rg 86 (.call 276 [(.t 85)]), mv 12 86])
 (.seq
 (.seq
 (.reg [rg 13 (.mov (.c (.i .i64 0)))])
 (.lp 2 (.norm false [0, 1, 10, 11, 12, 13]) l368_1 (.norm false [10, 11, 12])))
 (.seq
 (.reg [mv 106 10, mv 107 12, rg 108 (.call 289 [(.t 106), (.t 107)]), mv 109 108, gd 110 109 true (.mov (.t 11)),
 rg 111 (.pick (.t 109) (.t 110) (.c (.b false))), mv 112 111, gd 113 112 true (.call 334 []), rg 114 (.pick (.t 112) (.t 113) (.c (.b false))), mv 6 114])
 (.pre (.norm false [6]) .ret)))))))))))
def b369 : AX :=
 (.seq
 (.reg [rg 5 (.xop (.box 3) [(.t 2)]), rg 6 (.mov (.c (.b false)))])
 (.seq
 (.seq
 (.reg [mv 19 0, rg 20 (.call 286 [(.t 19), (.c (.i .i64 6)), (.c (.i .i64 3))]), mv 21 20, gd 22 21 false (.mov (.t 1)),
 gd 23 21 false (.call 286 [(.t 22), (.c (.i .i64 6)), (.c (.i .i64 3))]), rg 24 (.pick (.t 21) (.c (.b true)) (.t 23)), mv 25 24,
 gd 26 25 false (.load (some 3) (.t 5)), gd 27 25 false (.call 247 [(.t 26), (.c (.i .i64 3))]), rg 28 (.pick (.t 25) (.c (.b true)) (.t 27)), mv 29 28,
 gd 30 29 false (.mov (.t 0)), gd 31 29 false (.len (.t 30)), gd 32 29 false (.mov (.t 1)), gd 33 29 false (.len (.t 32)),
 gd 34 29 false (.bin .neq (.t 31) (.t 33)), rg 35 (.pick (.t 29) (.c (.b true)) (.t 34))])
 (.cond (.t 35)
 (.seq
 (.reg [rg 36 (.call 334 []), mv 6 36])
 (.pre (.norm false [6]) .ret))
 .skip))
 (.seq
 (.reg [mv 37 0, rg 38 (.call 287 [(.t 37)]), mv 7 38])
 (.seq
 (.reg [mv 39 1, rg 40 (.call 287 [(.t 39)]), mv 8 40])
 (.seq
 (.reg [rg 41 (.load (some 3) (.t 5)), rg 42 (.call 248 [(.t 41)]), rg 9 (.alloc [(.b false), (.sl [] .nl), (.sl [] .nl)]), so (.store 3 (.t 9) (.t 42))])
 (.seq
 (.reg [mv 44 7, rg 45 (.load (some 3) (.t 9)), mv 46 8, rg 47 (.call 269 [(.t 45), (.t 46)]), rg 48 (.bsl 1 [(.sl [] .nl)] 2 [(0, (.t 44)), (1, (.t 47))]),
 rg 49 (.call 267 [(.t 48)]), mv 43 49, rg 50 (.ext (.t 43) 0), rg 51 (.ext (.t 43) 1), mv 10 50, mv 11 51])
 (.seq
 (.reg [mv 53 10, mv 54 8, rg 55 (.call 270 [(.t 53), (.t 54)]), mv 52 55, rg 56 (.ext (.t 52) 0), rg 57 (.ext (.t 52) 1),
 rg 12 (.alloc [(.b false), (.sl [] .nl), (.sl [] .nl)]), so (.store 3 (.t 12) (.t 56)), mv 13 57])
 (.seq
 (.reg [mv 59 7, mv 60 8, rg 61 (.call 270 [(.t 59), (.t 60)]), mv 58 61, rg 62 (.ext (.t 58) 0), rg 63 (.ext (.t 58) 1),
 rg 14 (.alloc [(.b false), (.sl [] .nl), (.sl [] .nl)]), so (.store 3 (.t 14) (.t 62)), mv 15 63])
 (.seq
 (.reg [mv 65 8, mv 66 8, rg 67 (.call 270 [(.t 65), (.t 66)]), mv 64 67, rg 68 (.ext (.t 64) 0), rg 69 (.ext (.t 64) 1),
 rg 16 (.alloc [(.b false), (.sl [] .nl), (.sl [] .nl)]), so (.store 3 (.t 16) (.t 68)), mv 17 69])
 (.seq
 (.seq
 (.drawT [mv 70 11, rg 71 (.un .not (.t 70)), mv 72 71, gd 73 72 false (.mov (.t 13)), gd 74 72 false (.un .not (.t 73)),
 rg 75 (.pick (.t 72) (.c (.b true)) (.t 74)), mv 76 75, gd 77 76 false (.mov (.t 15)), gd 78 76 false (.un .not (.t 77)),
 rg 79 (.pick (.t 76) (.c (.b true)) (.t 78)), mv 80 79, gd 81 80 false (.mov (.t 17)), gd 82 80 false (.un .not (.t 81)),
 rg 83 (.pick (.t 80) (.c (.b true)) (.t 82)), mv 84 83, gd 85 84 false (.load (some 3) (.t 12)), gd 86 84 false (.load (some 3) (.t 14)),
 gd 87 84 false (.load (some 3) (.t 9)), gd 88 84 false (.load (some 3) (.t 16)), gd 89 84 false (.call 217 [(.t 87), (.t 88)]),
 gd 90 84 false (.call 215 [(.t 86), (.t 89)])]
 [gd 91 84 false (.call 212 [(.t 85), (.t 90)]), gd 92 84 false (.un .not (.t 91)), rg 93 (.pick (.t 84) (.c (.b true)) (.t 92))])
 (.cond (.t 93)
 (.seq
 (.reg [rg 6 (.mov (.c (.b false)))])
 (.pre (.norm false [6]) .ret))
 .skip))
 (.seq
 (.draw [⟨mv 94 7, 0, 1⟩, ⟨rg 95 (.call 272 [(.t 94)]), 0, 1⟩, ⟨rg 96 (.load (some 3) (.t 9)), 0, 1⟩, ⟨mv 97 8, 0, 1⟩,
 ⟨rg 98 (.call 269 [(.t 96), (.t 97)]), 0, 1⟩, ⟨rg 99 (.call 272 [(.t 98)]), 0, 1⟩, ⟨rg 100 (.call 215 [(.t 95), (.t 99)]), 0, 1⟩,
 ⟨rg 18 (.alloc [(.b false), (.sl [] .nl), (.sl [] .nl)]), 0, 1⟩, ⟨so (.store 3 (.t 18) (.t 100)), 1, 2⟩])
 (.seq
 (.drawT [mv 101 10, rg 102 (.call 272 [(.t 101)]), rg 103 (.load (some 3) (.t 18))]
 [rg 104 (.call 211 [(.t 102), (.t 103)]), rg 105 (.bin .leq (.t 104) (.c (.i .i64 0))), mv 106 105, gd 107 106 true (.load (some 3) (.t 16)),
 gd 108 106 true (.call 209 [(.t 107)]), gd 109 106 true (.bin .geq (.t 108) (.c (.i .i64 0))), rg 110 (.pick (.t 106) (.t 109) (.c (.b false))),
 mv 111 110, gd 112 111 true (.call 334 []), rg 113 (.pick (.t 111) (.t 112) (.c (.b false))), mv 6 113])
 (.pre (.norm false [6]) .ret)))))))))))))
def b370 : AX :=
 (.seq
 (.reg [rg 5 (.xop (.box 2) [(.t 2)]), rg 6 (.mov (.c (.b false)))])
 (.seq
 (.seq
 (.reg [mv 9 0, rg 10 (.call 286 [(.t 9), (.c (.i .i64 12)), (.c (.i .i64 6))]), mv 11 10, gd 12 11 false (.mov (.t 1)),
 gd 13 11 false (.call 286 [(.t 12), (.c (.i .i64 12)), (.c (.i .i64 6))]), rg 14 (.pick (.t 11) (.c (.b true)) (.t 13))])
 (.cond (.t 14)
 (.seq
 (.reg [rg 15 (.call 334 []), mv 6 15])
 (.pre (.norm false [6]) .ret))
 .skip))
 (.seq
 (.reg [mv 16 0, rg 17 (.call 278 [(.t 16)]), mv 7 17])
 (.seq
 (.reg [mv 18 1, rg 19 (.call 278 [(.t 18)]), mv 8 19])
 (.seq
 (.drawT [rg 20 (.iaa 1 2 (.t 5) (.c (.i .i64 0))), rg 21 (.load none (.t 20)), rg 22 (.call 263 [(.t 21)]), rg 23 (.iaa 1 2 (.t 5) (.c (.i .i64 0))),
 rg 24 (.load none (.t 23)), rg 25 (.call 276 [(.t 24)]), rg 26 (.call 289 [(.t 22), (.t 25)]), mv 27 26,
 gd 28 27 true (.iaa 1 2 (.t 5) (.c (.i .i64 0))), gd 29 27 true (.load none (.t 28)), gd 30 27 true (.iaa 1 2 (.t 5) (.c (.i .i64 1))),
 gd 31 27 true (.load none (.t 30)), gd 32 27 true (.call 264 [(.t 29), (.t 31)]), gd 33 27 true (.iaa 1 2 (.t 5) (.c (.i .i64 0))),
 gd 34 27 true (.load none (.t 33)), gd 35 27 true (.iaa 1 2 (.t 5) (.c (.i .i64 1))), gd 36 27 true (.load none (.t 35)),
 gd 37 27 true (.call 277 [(.t 34), (.t 36)]), gd 38 27 true (.call 289 [(.t 32), (.t 37)]), rg 39 (.pick (.t 27) (.t 38) (.c (.b false))), mv 40 39,
 gd 41 40 true (.mov (.t 0)), gd 42 40 true (.call 287 [(.t 41)]), gd 43 40 true (.mov (.t 1)), gd 44 40 true (.call 287 [(.t 43)]),
 gd 45 40 true (.call 265 [(.t 42), (.t 44)]), gd 46 40 true (.mov (.t 7)), gd 47 40 true (.mov (.t 8)), gd 48 40 true (.call 279 [(.t 46), (.t 47)]),
 gd 49 40 true (.eqb false (.t 45) (.t 48)), rg 50 (.pick (.t 40) (.t 49) (.c (.b false))), mv 51 50, gd 52 51 true (.mov (.t 0)),
 gd 53 51 true (.call 287 [(.t 52)]), gd 54 51 true (.call 272 [(.t 53)]), gd 55 51 true (.mov (.t 7)), gd 56 51 true (.call 283 [(.t 55)]),
 gd 57 51 true (.call 250 [(.t 54), (.t 56)]), rg 58 (.pick (.t 51) (.t 57) (.c (.b false))), mv 59 58, gd 60 59 true (.mov (.t 0)),
 gd 61 59 true (.call 287 [(.t 60)]), gd 62 59 true (.call 273 [(.t 61)]), gd 63 59 true (.mov (.t 0))]
 [gd 64 59 true (.call 371 [(.t 63)]), gd 65 59 true (.bin .eql (.t 62) (.t 64)), rg 66 (.pick (.t 59) (.t 65) (.c (.b false))), mv 67 66,
 gd 68 67 true (.call 334 []), rg 69 (.pick (.t 67) (.t 68) (.c (.b false))), mv 6 69])
 (.pre (.norm false [6]) .ret))))))
def l371_0 : AX :=
 (.note
 (.seq
 (.seq
 (.reg [mv 5 4, mv 6 0, rg 7 (.len (.t 6)), rg 8 (.bin .lss (.t 5) (.t 7))])
 (.cond (.t 8)
 .skip
 (.exit 0)))
 (.seq
 (.block 1
 (.reg [mv 11 3, mv 12 0, mv 13 4, rg 14 (.iad 3 (.t 12) (.t 13)), rg 15 (.load (some 3) (.t 14)), rg 16 (.call 245 [(.t 15)]),
 rg 17 (.mm true [(.t 11), (.t 16)]), mv 3 17]))
 (.reg [mv 9 4, rg 10 (.bin .add (.t 9) (.c (.i .i64 1))), mv 4 10])))
 (.norm false [0, 3, 4]))
def b371 : AX :=
 (.seq
 (.reg [rg 2 (.mov (.c (.i .i64 0)))])
 (.seq
 (.reg [rg 3 (.mov (.c (.i .i64 0)))])
 (.seq
 (.seq
 (.reg [rg 4 (.mov (.c (.i .i64 0)))])
 (.lp 0 (.norm false [0, 3, 4]) l371_0 (.norm false [3])))
 (.seq
 (.reg [mv 18 3, mv 2 18])
 (.pre (.norm false [2]) .ret)))))
class CLaw11c (T : Tbl) : Prop where
 h366 : T 366 = some ⟨1, 27, [.t 2], b366, none, false⟩
 h367 : T 367 = some ⟨3, 153, [.t 6], b367, none, false⟩
 h368 : T 368 = some ⟨3, 115, [.t 6], b368, none, false⟩
 h369 : T 369 = some ⟨3, 114, [.t 6], b369, none, false⟩
 h370 : T 370 = some ⟨3, 70, [.t 6], b370, none, false⟩
 h371 : T 371 = some ⟨1, 19, [.t 2], b371, none, false⟩
section
variable {T : Tbl} [CLaw11c T] {d : Option Nat} {st : St} {xs : List AV} {ps : List Opd} {e : Env} {h : Heap} {ol : List Heap}
theorem f370 (xs : List AV) (hn : xs.length = 3) : callF T 370 xs = retF [.t 6] false (evX (orc T) T 0 b370 ⟨argEnv xs, [], 1⟩) := callF_eq CLaw11c.h370 hn
@[simp] theorem x371 : callX (orc T) T 371 xs d st = cP T 371 false xs d st := callX_pure CLaw11c.h371
theorem f371 (xs : List AV) (hn : xs.length = 1) : callF T 371 xs = retF [.t 2] false (evX (orc T) T 0 b371 ⟨argEnv xs, [], 1⟩) := callF_eq CLaw11c.h371 hn
end
end Go.Ab
end

section
namespace Go.Ab
open Go.RowKit
def opU : AOp → Option Nat
 | .call u _ => some u
 | _ => none
def cXs : AX → List Nat
 | .reg l => l.filterMap fun o => opU o.op
 | .draw l => l.filterMap fun o => opU o.ao.op
 | .drawT hd tl => (hd.filterMap fun o => opU o.op) ++ tl.filterMap fun o => opU o.op
 | .seq a b => cXs a ++ cXs b
 | .cond _ x y => cXs x ++ cXs y
 | .block _ c | .loop c | .note c _ | .pre _ c | .scope c | .lp _ _ c _ => cXs c
 | _ => []
structure Agr (R : Nat → Bool) (T T' : Tbl) (O O' : Orc) : Prop where
 tbl : ∀ u, R u = true → T u = T' u
 call : ∀ u xs hb, R u = true → O.call u xs hb = O'.call u xs hb
 loop : ∀ k c st, (∀ u ∈ cXs c, R u = true) → O.loop k c st = O'.loop k c st
section
variable {R : Nat → Bool} {T T' : Tbl} {O O' : Orc}
theorem callX_agr (h : Agr R T T' O O') {u : Nat} (hu : R u = true) {xs : List AV} {d : Option Nat} {st : St} : callX O T u xs d st = callX O' T' u xs d st := by
 unfold callX
 rw [h.tbl u hu]
 simp only [h.call u _ _ hu]
theorem opX_agr (h : Agr R T T' O O') {op : AOp} (hu : ∀ u, opU op = some u → R u = true) {d : Option Nat} {st : St} : opX O T op d st = opX O' T' op d st := by
 cases op <;> simp only [opX]
 exact callX_agr h (hu _ rfl)
theorem stepX_agr (h : Agr R T T' O O') {o : AO} (hu : ∀ u, opU o.op = some u → R u = true) {st : St} : stepX O T o st = stepX O' T' o st := by
 unfold stepX gX
 simp only [opX_agr h hu]
theorem runX_agr (h : Agr R T T' O O') : ∀ (l : List AO), (∀ o ∈ l, ∀ u, opU o.op = some u → R u = true) → ∀ st, runX O T l st = runX O' T' l st
 | [], _, st => rfl
 | o :: l, hu, st => by
  simp only [runX]
  rw [stepX_agr h (hu o List.mem_cons_self)]
  congr 1
  funext s
  exact runX_agr h l (fun o ho => hu o (List.mem_cons_of_mem _ ho)) s
theorem opD_agr (h : Agr R T T' O O') {op : AOp} (hu : ∀ u, opU op = some u → R u = true) {e : Env} {hp : Heap} {older : List Heap} : opD O T op e hp older = opD O' T' op e hp older := by
 cases op <;> simp only [opD]
 rw [h.tbl _ (hu _ rfl)]
 simp only [h.call _ _ _ (hu _ rfl)]
theorem qX_agr (h : Agr R T T' O O') {o : AO} (hu : ∀ u, opU o.op = some u → R u = true) {e : Env} {hp : Heap} {older : List Heap} : qX O T o e hp older = qX O' T' o e hp older := by
 unfold qX
 simp only [opD_agr h hu]
theorem drawX_agr (h : Agr R T T' O O') : ∀ (l : List DO), (∀ o ∈ l, ∀ u, opU o.ao.op = some u → R u = true) → ∀ e hp clk older pend, drawX O T l e hp clk older pend = drawX O' T' l e hp clk older pend
 | [], _, e, hp, clk, older, pend => rfl
 | o :: l, hu, e, hp, clk, older, pend => by
  have ih := drawX_agr h l (fun o ho => hu o (List.mem_cons_of_mem _ ho))
  simp only [drawX]
  rw [qX_agr h (hu o List.mem_cons_self)]
  simp only [ih]
theorem headX_agr (h : Agr R T T' O O') (tl : List AO) (ht : ∀ o ∈ tl, ∀ u, opU o.op = some u → R u = true) : ∀ (l : List AO), (∀ o ∈ l, ∀ u, opU o.op = some u → R u = true) → ∀ e hp clk, headX O T tl l e hp clk = headX O' T' tl l e hp clk
 | [], _, e, hp, clk => runX_agr h tl ht _
 | o :: l, hu, e, hp, clk => by
  have ih := headX_agr h tl ht l (fun o ho => hu o (List.mem_cons_of_mem _ ho))
  simp only [headX]
  rw [qX_agr h (hu o List.mem_cons_self)]
  simp only [ih]
theorem evX_agr (h : Agr R T T' O O') (k : Nat) : ∀ (c : AX), (∀ u ∈ cXs c, R u = true) → ∀ st, evX O T k c st = evX O' T' k c st
 | .skip, _, st => rfl
 | .reg l, hu, st => by
  simp only [evX]
  rw [runX_agr h l fun o ho u hou => hu u (List.mem_filterMap.2 ⟨o, ho, hou⟩)]
 | .draw l, hu, st => by
  simp only [evX]
  rw [drawX_agr h l fun o ho u hou => hu u (List.mem_filterMap.2 ⟨o, ho, hou⟩)]
 | .drawT hd tl, hu, st => by
  simp only [evX]
  rw [headX_agr h tl (fun o ho u hou => hu u (List.mem_append_right _ (List.mem_filterMap.2 ⟨o, ho, hou⟩))) hd (fun o ho u hou => hu u (List.mem_append_left _ (List.mem_filterMap.2 ⟨o, ho, hou⟩)))]
 | .bad, _, st => rfl
 | .prim f, _, st => rfl
 | .seq a b, hu, st => by
  simp only [evX]
  rw [evX_agr h k a fun u hm => hu u (List.mem_append_left _ hm)]
  congr 1
  funext r
  rw [evX_agr h k b fun u hm => hu u (List.mem_append_right _ hm)]
 | .cond c x y, hu, st => by
  simp only [evX]
  rw [evX_agr h k x fun u hm => hu u (List.mem_append_left _ hm), evX_agr h k y fun u hm => hu u (List.mem_append_right _ hm)]
 | .block id c, hu, st => by
  simp only [evX]
  rw [evX_agr h k c hu]
 | .loop c, hu, st => h.loop k c st hu
 | .exit id, _, st => rfl
 | .ret, _, st => rfl
 | .note c g, hu, st => by
  simp only [evX]
  rw [evX_agr h k c hu]
 | .pre g c, hu, st => by
  simp only [evX]
  congr 1
  funext s
  exact evX_agr h k c hu s
 | .scope c, hu, st => by
  simp only [evX]
  exact evX_agr h k c hu st
 | .lp id g c g2, hu, st => by
  simp only [evX, h.loop k c _ hu]
theorem nextO_agr (hc : ∀ u af, R u = true → T u = some af → ∀ v ∈ cXs af.body, R v = true) (h : Agr R T T' O O') : Agr R T T' (nextO T O) (nextO T' O') where
 tbl := h.tbl
 call u xs hb hu := by
  simp only [nextO]
  rw [← h.tbl u hu]
  cases ht : T u with
  | none => rfl
  | some af =>
   simp only
   rw [evX_agr h hb.length af.body (hc u af hu ht)]
 loop k c st hu := by
  simp only [nextO]
  rw [evX_agr h k c hu]
  congr 1
  funext r
  rw [h.loop k c _ hu]
theorem orcN_agr (ht : ∀ u, R u = true → T u = T' u) (hc : ∀ u af, R u = true → T u = some af → ∀ v ∈ cXs af.body, R v = true) : ∀ n, Agr R T T' (orcN T n) (orcN T' n)
 | 0 => ⟨ht, fun _ _ _ _ => rfl, fun _ _ _ _ => rfl⟩
 | n + 1 => nextO_agr hc (orcN_agr ht hc n)
theorem orc_agr (ht : ∀ u, R u = true → T u = T' u) (hc : ∀ u af, R u = true → T u = some af → ∀ v ∈ cXs af.body, R v = true) : Agr R T T' (orc T) (orc T') := by
 refine ⟨ht, fun u xs hb hu => ?_, fun k c st hu => ?_⟩
 ·simp only [orc]
  congr 1
  funext n
  exact (orcN_agr ht hc n).call u xs hb hu
 ·simp only [orc]
  congr 1
  funext n
  exact (orcN_agr ht hc n).loop k c st hu
end
theorem mem_of_lookup {l : List (Nat × AFx)} {u : Nat} {af : AFx} (h : l.lookup u = some af) : (u, af) ∈ l := by
 induction l with
 | nil => cases h
 | cons q l ih =>
  obtain ⟨q1, q2⟩ := q
  simp only [List.lookup_cons] at h
  split at h
  ·rename_i he
   have := eq_of_beq he
   subst this
   cases h
   exact List.mem_cons_self
  ·exact List.mem_cons_of_mem _ (ih h)
structure Part (l l' : List (Nat × AFx)) : Prop where
 sub : ∀ p ∈ l', l.lookup p.1 = some p.2
 clo : (l'.all fun p => (cXs p.2.body).all fun v => (l'.lookup v).isSome || (l.lookup v).isNone) = true
theorem Part.agr {l l' : List (Nat × AFx)} (h : Part l l') : Agr (fun u => (l'.lookup u).isSome || (l.lookup u).isNone) (fun u => l.lookup u) (fun u => l'.lookup u) (orc fun u => l.lookup u) (orc fun u => l'.lookup u) := by
 refine orc_agr (fun v hv => ?_) (fun v a hv hva w hw => ?_)
 ·cases hv2 : l'.lookup v with
  | none =>
   simp only [hv2] at hv
   cases hv3 : l.lookup v with
   | none => rfl
   | some a => rw [hv3] at hv; cases hv
  | some a => exact h.sub _ (mem_of_lookup hv2)
 ·cases hv2 : l'.lookup v with
  | none => simp only [hv2, hva] at hv; cases hv
  | some b =>
   have hb := mem_of_lookup hv2
   have h1 := h.sub _ hb
   simp only at hva h1
   rw [hva] at h1
   cases h1
   exact List.all_eq_true.1 (List.all_eq_true.1 h.clo _ hb) w hw
theorem Part.ev {l l' : List (Nat × AFx)} (h : Part l l') {c : AX} (hc : ((cXs c).all fun v => (l'.lookup v).isSome) = true) {st : St} {r : Option (Ex × St)}
  (he : evX (orc fun u => l.lookup u) (fun u => l.lookup u) 0 c st = r) : evX (orc fun u => l'.lookup u) (fun u => l'.lookup u) 0 c st = r := by
 rw [← evX_agr h.agr 0 c (fun v hv => by rw [List.all_eq_true.1 hc v hv]; rfl) st]
 exact he
theorem Part.call {l l' : List (Nat × AFx)} (h : Part l l') {u : Nat} (hu : (l'.lookup u).isSome = true) {xs : List AV} {r : Option AV} (he : callF (fun u => l.lookup u) u xs = r) : callF (fun u => l'.lookup u) u xs = r := by
 rw [← he]
 unfold callF
 rw [h.agr.call u xs [] (by rw [hu]; rfl)]
end Go.Ab
end
