/-
  A calculus of values, boxes and code, and what functions of the program compute, proved in it.
  Conditions: none beyond those that the theorems state. (Part 7: GpRef06, GpRef08, GpRef09, GpRef11, GpLaw11, GpGrid, GpGrid2, NmGrid, GpRef12, GpLaw12, GpLaw12b.)
-/
import Derived.Test.YtefdnbbfkhkjeaaGreatDoorPart6

set_option linter.unusedSectionVars false
set_option linter.unusedVariables false
set_option linter.unusedSimpArgs false
set_option linter.unnecessarySimpa false

section
namespace Go.Ab
section
variable {T : Tbl}
theorem zeros_loop (m : Nat) (hm : m % 2 = 1) (K : Nat) (hK : 2 ^ K * m < 4294967296) (hK2 : K ≤ 32) : ∀ v : Nat, v ≤ K →
    loopN T 0 0 (.norm false [3]) l224_0 ⟨[(0, u32 (2 ^ v * m)), (3, .i .i64 (K - v : Nat))], [], 2⟩ = some (.n, ⟨[(3, .i .i64 K)], [], 2⟩) := by
  refine loopN_eq (fun v : Nat => ⟨[(0, u32 (2 ^ v * m)), (3, .i .i64 (K - v : Nat))], [], 2⟩) _ (fun v => v) _ ?_
  intro v hv
  cases v with
  | zero =>
    right
    rw [Nat.pow_zero, Nat.one_mul, Nat.sub_zero]
    constructor <;> simp -implicitDefEqProofs [l224_0, hm]
  | succ v =>
    left
    have hle : 2 ^ (v + 1) * m ≤ 2 ^ K * m := Nat.mul_le_mul_right _ (Nat.pow_le_pow_right (by decide) hv)
    have e : 2 ^ (v + 1) * m = 2 ^ v * m * 2 := by rw [Nat.pow_succ, Nat.mul_assoc, Nat.mul_comm 2 m, Nat.mul_assoc]
    have hw : IntKind.wrap .i64 (((K - (v + 1) : Nat) : Int) + 1) = ((K - v : Nat) : Int) := by rw [wrap_i64 _ (by omega)]; omega
    refine ⟨v, by omega, Nat.lt_succ_self v, ?_, rfl⟩
    rw [e] at hle ⊢
    generalize 2 ^ v * m = x at *
    have e1 : x * 2 % 2 = 0 := by omega
    have e2 : x * 2 / 2 % 4294967296 = x := by omega
    have e3 : x < 4294967296 := by omega
    simp -implicitDefEqProofs [l224_0, e1, e2, e3, hw]
end
section
variable {T : Tbl} [CRef06 T]
theorem ref01_zeros (m K : Nat) (hm : m % 2 = 1) (hK : 2 ^ K * m < 4294967296) : callF T 224 [u32 (2 ^ K * m)] = some (.i .i64 K) := by
  have hK2 : K ≤ 32 := by
    rcases Nat.lt_or_ge 32 K with h | h
    · have h1 : 2 ^ 32 ≤ 2 ^ K := Nat.pow_le_pow_right (by decide) (by omega)
      have h2 : 2 ^ K ≤ 2 ^ K * m := Nat.le_mul_of_pos_right _ (by omega)
      have h3 : (2 : Nat) ^ 32 = 4294967296 := rfl
      omega
    · exact h
  have h := zeros_loop (T := T) m hm K hK hK2 K (Nat.le_refl _)
  rw [Nat.sub_self] at h
  simp only [Int.natCast_zero] at h
  have h0 : 2 ^ K * m ≠ 0 := Nat.mul_ne_zero (by have := Nat.pow_pos (n := K) (show 0 < 2 by decide); omega) (by omega)
  rw [f224 _ rfl, b224]
  generalize 2 ^ K * m = x at *
  simp -implicitDefEqProofs [h, h0]
end
theorem get_win {P m a S : List UInt32} {i : Nat} (hm : m.length = i) (hi : i < a.length) : (P ++ (m ++ (a.drop i ++ S)))[P.length + i]? = some (a[i]'hi) := by
  rw [List.getElem?_append_right (by omega), Nat.add_sub_cancel_left, List.getElem?_append_right (by omega), hm, Nat.sub_self, List.drop_eq_getElem_cons hi]
  rfl
theorem get_win1 {P m a S : List UInt32} {i : Nat} (hm : m.length = i) (hi : i + 1 < a.length) : (P ++ (m ++ (a.drop i ++ S)))[P.length + (i + 1)]? = some (a[i + 1]'hi) := by
  rw [List.getElem?_append_right (by omega), Nat.add_sub_cancel_left, List.getElem?_append_right (by omega), hm, Nat.add_sub_cancel_left, List.drop_eq_getElem_cons (show i < a.length by omega), List.drop_eq_getElem_cons hi]
  rfl
theorem set_win {P m a S : List UInt32} {i : Nat} (hm : m.length = i) (hi : i < a.length) (w : UInt32) : (P ++ (m ++ (a.drop i ++ S))).set (P.length + i) w = P ++ ((m ++ [w]) ++ (a.drop (i + 1) ++ S)) := by
  rw [List.set_append_right _ _ (by omega), Nat.add_sub_cancel_left, List.set_append_right _ _ (by omega), hm, Nat.sub_self, List.drop_eq_getElem_cons hi, List.cons_append, List.set_cons_zero]
  simp
section
variable {T : Tbl}
def stDw (Q : List UInt32) (o n s i : Nat) : St := ⟨[(0, .bs (.bor 0) 0 1 o n), (1, .i .i64 s), (5, .i .i64 i)], [(.bor 0, ⟨0, .own, 1, u32s Q⟩)], 4⟩
theorem dw_step1 (Q : List UInt32) (o n s i : Nat) (x y : UInt32) (hi : i + 1 < n) (hn : n ≤ 1000000) (hs : s < 32) (hx : Q[o + i]? = some x) (hy : Q[o + (i + 1)]? = some y) :
    evX (orc T) T 1 l225_0 (stDw Q o n s i) = some (.n, stDw (Q.set (o + i) (w32 ((x.toNat + y.toNat * 4294967296) / 2 ^ s % 4294967296))) o n s (i + 1)) := by
  have h1 : (i : Int) < n := by omega
  have h2 : (i : Int) + 1 < n := by omega
  have hw : IntKind.wrap .i64 ((i : Int) + 1) = ((i + 1 : Nat) : Int) := wrap_i64 _ (by omega)
  have lx := u32_lt x
  have ly := u32_lt y
  have m2 : y.toNat * 4294967296 % 18446744073709551616 = y.toNat * 4294967296 := Nat.mod_eq_of_lt (by omega)
  have m3 : (y.toNat * 4294967296 + x.toNat) % 18446744073709551616 = x.toNat + y.toNat * 4294967296 := by rw [Nat.add_comm]; exact Nat.mod_eq_of_lt (by omega)
  have hmin : min s 64 = s := by omega
  obtain ⟨b1, hgx⟩ := List.getElem?_eq_some_iff.1 hx
  have i1 : i < n := by omega
  unfold stDw
  simp -implicitDefEqProofs [l225_0, h1, h2, i1, hi, hw, hx, hy, m2, m3, hmin, b1, hgx, w32_modw]
theorem dw_step2 (Q : List UInt32) (o n s i : Nat) (x : UInt32) (hi : i + 1 = n) (hn : n ≤ 1000000) (hs : s < 32) (hx : Q[o + i]? = some x) :
    evX (orc T) T 1 l225_0 (stDw Q o n s i) = some (.n, stDw (Q.set (o + i) (w32 (x.toNat / 2 ^ s % 4294967296))) o n s (i + 1)) := by
  have h1 : (i : Int) < n := by omega
  have h2 : ¬ (i : Int) + 1 < n := by omega
  have hw : IntKind.wrap .i64 ((i : Int) + 1) = ((i + 1 : Nat) : Int) := wrap_i64 _ (by omega)
  have hmin : min s 64 = s := by omega
  obtain ⟨b1, hgx⟩ := List.getElem?_eq_some_iff.1 hx
  have i1 : i < n := by omega
  have i2 : ¬ i + 1 < n := by omega
  unfold stDw
  simp -implicitDefEqProofs [l225_0, h1, h2, i1, i2, hw, hx, hmin, b1, hgx, w32_modw]
theorem dw_loop (P a S : List UInt32) (s : Nat) (hs : s < 32) (hl : a.length ≤ 1000000) : ∀ y : Nat × List UInt32,
    (y.1 ≤ a.length ∧ y.2.length = y.1 ∧ val y.2 + 4294967296 ^ y.1 * (val (a.drop y.1) / 2 ^ s) = val a / 2 ^ s) →
    ∃ r, (∃ m : List UInt32, r = (Ex.n, (⟨[(0, .bs (.bor 0) 0 1 P.length a.length)], [(.bor 0, ⟨0, .own, 1, u32s (P ++ (m ++ S))⟩)], 4⟩ : St)) ∧ m.length = a.length ∧ val m = val a / 2 ^ s) ∧
      loopN T 1 0 (.norm false [0]) l225_0 (stDw (P ++ (y.2 ++ (a.drop y.1 ++ S))) P.length a.length s y.1) = some r := by
  refine loopN_ex (fun y : Nat × List UInt32 => stDw (P ++ (y.2 ++ (a.drop y.1 ++ S))) P.length a.length s y.1) _ (fun y => a.length - y.1) _ ?_
  rintro ⟨i, m⟩ ⟨hi, hm, hv⟩
  simp only at hi hm hv
  by_cases h0 : i < a.length
  · left
    have hx := u32_lt (a[i]'h0)
    have hd := List.drop_eq_getElem_cons h0
    have fin : ∀ y R : Nat, val (a.drop (i + 1)) = y + 4294967296 * R → val (m ++ [w32 (((a[i]'h0).toNat + y * 4294967296) / 2 ^ s % 4294967296)]) + 4294967296 ^ (i + 1) * (val (a.drop (i + 1)) / 2 ^ s) = val a / 2 ^ s := by
      intro y R hR
      have hmod : ((a[i]'h0).toNat + y * 4294967296) / 2 ^ s % 4294967296 < 4294967296 := Nat.mod_lt _ (by decide)
      have hdw := down_word (x := (a[i]'h0).toNat) (y := y) (R := R) hs hx
      rw [hd, val_cons, hR, hdw, ← hR] at hv
      rw [val_append, hm, Nat.pow_succ]
      rw [val_cons, val_nil, Nat.mul_zero, Nat.add_zero, w32_of_lt hmod]
      rw [Nat.mul_add] at hv
      rw [← hv, Nat.mul_assoc, Nat.add_assoc]
    by_cases h1 : i + 1 < a.length
    · have hd1 := List.drop_eq_getElem_cons h1
      refine ⟨(i + 1, m ++ [w32 (((a[i]'h0).toNat + (a[i + 1]'h1).toNat * 4294967296) / 2 ^ s % 4294967296)]), ⟨h0, by simp [hm], fin _ (val (a.drop (i + 1 + 1))) (by rw [hd1, val_cons])⟩, by simp only; omega, ?_⟩
      simp only
      rw [dw_step1 _ _ _ _ _ _ _ h1 hl hs (get_win hm h0) (get_win1 hm h1), set_win hm h0]
    · have f0 := fin 0 0 (by rw [List.drop_of_length_le (by omega), val_nil, Nat.mul_zero])
      rw [Nat.zero_mul, Nat.add_zero] at f0
      refine ⟨(i + 1, m ++ [w32 ((a[i]'h0).toNat / 2 ^ s % 4294967296)]), ⟨h0, by simp [hm], f0⟩, by simp only; omega, ?_⟩
      simp only
      rw [dw_step2 _ _ _ _ _ _ (by omega) hl hs (get_win hm h0), set_win hm h0]
  · right
    have : i = a.length := by omega
    subst this
    rw [List.drop_length, val_nil, Nat.zero_div, Nat.mul_zero, Nat.add_zero] at hv
    refine ⟨_, ⟨m, rfl, hm, hv⟩, ?_, ?_⟩ <;> simp -implicitDefEqProofs [l225_0, stDw]
theorem trimw_loop (P a S : List UInt32) (hl : a.length ≤ 1000000) {n : Nat} (hn : n ≤ a.length) (h0 : ∀ (i : Nat) (x : UInt32), n ≤ i → a[i]? = some x → x.toNat = 0) (h1 : ∀ x : UInt32, 0 < n → a[n - 1]? = some x → x.toNat ≠ 0) :
    ∀ k : Nat, (n ≤ k ∧ k ≤ a.length) → loopN T 1 2 (.norm false [0]) l225_1 ⟨[(0, .bs (.bor 0) 0 1 P.length k)], [(.bor 0, ⟨0, .own, 1, u32s (P ++ (a ++ S))⟩)], 4⟩ =
      some (.n, ⟨[(0, .bs (.bor 0) 0 1 P.length n)], [(.bor 0, ⟨0, .own, 1, u32s (P ++ (a ++ S))⟩)], 4⟩) := by
  refine loopN_eq (fun k : Nat => ⟨[(0, .bs (.bor 0) 0 1 P.length k)], [(.bor 0, ⟨0, .own, 1, u32s (P ++ (a ++ S))⟩)], 4⟩) _ (fun k => k) _ ?_
  rintro k ⟨hk, hka⟩
  have hget : ∀ j, j < a.length → (P ++ (a ++ S))[P.length + j]? = a[j]? := by
    intro j hj
    rw [List.getElem?_append_right (by omega), Nat.add_sub_cancel_left, List.getElem?_append_left hj]
  by_cases h2 : k = 0
  · right
    have : n = 0 := by omega
    subst this; subst h2
    generalize P ++ (a ++ S) = Q at *
    constructor <;> simp -implicitDefEqProofs [l225_1]
  · have hw : IntKind.wrap .i64 ((k : Int) - 1) = ((k - 1 : Nat) : Int) := by rw [wrap_i64 _ (by omega)]; omega
    have hg : a[k - 1]? = some (a[k - 1]'(by omega)) := List.getElem?_eq_getElem _
    have hq := hget (k - 1) (by omega)
    rw [hg] at hq
    have hpos : 0 < k := by omega
    have hlt : k - 1 < k := by omega
    generalize P ++ (a ++ S) = Q at *
    by_cases h3 : k = n
    · right
      subst h3
      have hx := h1 _ hpos hg
      constructor <;> simp -implicitDefEqProofs [l225_1, hpos, hw, hq, hx, hlt]
    · left
      have hx := h0 (k - 1) _ (by omega) hg
      refine ⟨k - 1, ⟨by omega, by omega⟩, hlt, ?_, rfl⟩
      simp -implicitDefEqProofs [l225_1, hpos, hw, hq, hx, hlt]
end
section
variable {T : Tbl} [CRef06 T]
theorem ref06_down (P a S : List UInt32) (s : Nat) (hs : s < 32) (hl : a.length ≤ 1000000) :
    ∃ S', S'.length + (ofN (val a / 2 ^ s)).length = a.length + S.length ∧
      callH T 225 [.bs (.bor 0) 0 1 P.length a.length, .i .i64 s] [(.bor 0, ⟨0, .own, 1, u32s (P ++ (a ++ S))⟩)] =
        some (.bs (.bor 0) 0 1 P.length (ofN (val a / 2 ^ s)).length, [(.bor 0, ⟨0, .own, 1, u32s (P ++ (ofN (val a / 2 ^ s) ++ S'))⟩)]) := by
  obtain ⟨_, ⟨m, rfl, hm, hv⟩, hr⟩ := dw_loop (T := T) P a S s hs hl (0, []) ⟨Nat.zero_le _, rfl, by simp⟩
  obtain ⟨n, h1, h2, h3, h4⟩ := ofN_take m
  have ht := trimw_loop (T := T) P m S (by omega) h1 h3 h4 m.length ⟨h1, Nat.le_refl _⟩
  rw [hv] at h2
  have hlen : (ofN (val a / 2 ^ s)).length = n := by rw [← h2]; simp; omega
  have e : P ++ (m ++ S) = P ++ (ofN (val a / 2 ^ s) ++ (m.drop n ++ S)) := by rw [← h2, ← List.append_assoc (m.take n), List.take_append_drop]
  refine ⟨m.drop n ++ S, by simp; omega, ?_⟩
  rw [hlen, ← e]
  rw [hm] at ht
  unfold stDw at hr
  simp only [List.nil_append, List.drop_zero, Int.natCast_zero] at hr
  rw [f225 _ _ rfl, b225]
  clear e h3 h4 h2
  generalize P ++ (m ++ S) = Q at *
  generalize P ++ (a ++ S) = R at *
  simp -implicitDefEqProofs [hr, ht]
theorem win_bound {P a S : List UInt32} {j : Nat} (hj : j < a.length) : (P ++ (a ++ S))[P.length + j]? = a[j]? := by
  rw [List.getElem?_append_right (by omega), Nat.add_sub_cancel_left, List.getElem?_append_left hj]
theorem strip_loop (Q : List UInt32) (o n j0 : Nat) (hn : n ≤ 1000000) (hj : j0 < n) (hz : ∀ j, j < j0 → ∃ x : UInt32, Q[o + j]? = some x ∧ x.toNat = 0) (h1 : ∃ x : UInt32, Q[o + j0]? = some x ∧ x.toNat ≠ 0) :
    ∀ j : Nat, j ≤ j0 → loopN T 1 0 (.norm false [0, 4]) l226_0 ⟨[(0, .bs (.bor 0) 0 1 (o + j) (n - j)), (4, .i .i64 (32 * j : Nat))], [(.bor 0, ⟨0, .own, 1, u32s Q⟩)], 4⟩ =
      some (.n, ⟨[(0, .bs (.bor 0) 0 1 (o + j0) (n - j0)), (4, .i .i64 (32 * j0 : Nat))], [(.bor 0, ⟨0, .own, 1, u32s Q⟩)], 4⟩) := by
  refine loopN_eq (fun j : Nat => ⟨[(0, .bs (.bor 0) 0 1 (o + j) (n - j)), (4, .i .i64 (32 * j : Nat))], [(.bor 0, ⟨0, .own, 1, u32s Q⟩)], 4⟩) _ (fun j => j0 - j) _ ?_
  intro j hj2
  have hpos : 0 < n - j := by omega
  by_cases h : j = j0
  · right
    subst h
    obtain ⟨x, hx, hx0⟩ := h1
    constructor <;> simp -implicitDefEqProofs [l226_0, hpos, hx, hx0]
  · left
    obtain ⟨x, hx, hx0⟩ := hz j (by omega)
    have hw : IntKind.wrap .i64 (((32 * j : Nat) : Int) + 32) = ((32 * (j + 1) : Nat) : Int) := by rw [wrap_i64 _ (by omega)]; omega
    have e1 : 1 < n - j := by omega
    have e2 : n - j - 1 = n - (j + 1) := by omega
    have e3 : (1 : Int) ≤ ((n - j : Nat) : Int) := by omega
    refine ⟨j + 1, by omega, by show j0 - (j + 1) < j0 - j; omega, ?_, rfl⟩
    generalize 32 * j = c at *
    generalize 32 * (j + 1) = c' at *
    rw [← Nat.add_assoc, ← e2]
    generalize n - j = k at *
    have e4 : 1 ≤ k := by omega
    simp -implicitDefEqProofs [l226_0, hpos, hx, hx0, hw, e1, e3, e4]
theorem low_words : ∀ (a : List UInt32), val a ≠ 0 → ∃ j, ∃ h : j < a.length, (∀ i (hi : i < j), (a[i]'(by omega)).toNat = 0) ∧ (a[j]'h).toNat ≠ 0 ∧ val a = 4294967296 ^ j * val (a.drop j)
  | [], h => by simp at h
  | x :: a, h => by
    by_cases hx : x.toNat = 0
    · have h2 : val a ≠ 0 := by
        intro e
        apply h
        rw [val_cons, hx, e]
      obtain ⟨j, hj, h3, h4, h5⟩ := low_words a h2
      refine ⟨j + 1, by simpa using hj, ?_, by simpa using h4, ?_⟩
      · intro i hi
        cases i with
        | zero => simpa using hx
        | succ i => simpa using h3 i (by omega)
      · rw [val_cons, hx, h5, List.drop_succ_cons, Nat.pow_succ, Nat.zero_add, Nat.mul_comm (4294967296 ^ j) 4294967296, Nat.mul_assoc]
    · exact ⟨0, by simp, fun i hi => by omega, by simpa using hx, by simp⟩
theorem ref06_odd (P a S : List UInt32) (hl : a.length ≤ 100000) (h : val a ≠ 0) : ∃ (P' S' : List UInt32) (m k : Nat), val a = 2 ^ k * m ∧ m % 2 = 1 ∧ k ≤ 32 * a.length ∧ (ofN m).length ≤ a.length ∧ P'.length + (ofN m).length + S'.length = P.length + a.length + S.length ∧
    callH T 226 [.bs (.bor 0) 0 1 P.length a.length] [(.bor 0, ⟨0, .own, 1, u32s (P ++ (a ++ S))⟩)] =
      some (.tup [.bs (.bor 0) 0 1 P'.length (ofN m).length, .i .i64 k], [(.bor 0, ⟨0, .own, 1, u32s (P' ++ (ofN m ++ S'))⟩)]) := by
  obtain ⟨j, hj, hz, hne, hv⟩ := low_words a h
  obtain ⟨s, c, hsc, hc⟩ := odd_part hne
  have hx := u32_lt (a[j]'hj)
  have hs : s < 32 := by
    rcases Nat.lt_or_ge s 32 with h1 | h1
    · exact h1
    · have h2 : 2 ^ 32 ≤ 2 ^ s := Nat.pow_le_pow_right (by decide) h1
      have h3 : 2 ^ s ≤ 2 ^ s * c := Nat.le_mul_of_pos_right _ (by omega)
      have h4 : (2 : Nat) ^ 32 = 4294967296 := rfl
      omega
  have hd := List.drop_eq_getElem_cons hj
  -- the rest is odd
  have hm : ∃ m, val (a.drop j) = 2 ^ s * m ∧ m % 2 = 1 := by
    refine ⟨c + 2 ^ (32 - s) * val (a.drop (j + 1)), ?_, ?_⟩
    · rw [hd, val_cons, hsc, Nat.mul_add, ← Nat.mul_assoc, ← Nat.pow_add, show s + (32 - s) = 32 by omega]
    · have : 2 ^ (32 - s) = 2 * 2 ^ (31 - s) := by rw [← Nat.pow_succ']; congr 1; omega
      rw [this, Nat.mul_assoc]
      omega
  obtain ⟨m, hm1, hm2⟩ := hm
  have hdiv : val (a.drop j) / 2 ^ s = m := by rw [hm1, Nat.mul_div_cancel_left _ (Nat.pow_pos (by decide))]
  have hlen : (a.drop j).length = a.length - j := by simp
  obtain ⟨S', hS', hdown⟩ := ref06_down (T := T) (P ++ a.take j) (a.drop j) S s hs (by omega)
  rw [hdiv] at hS' hdown
  have hPl : (P ++ a.take j).length = P.length + j := by simp; omega
  have hbox : (P ++ a.take j) ++ (a.drop j ++ S) = P ++ (a ++ S) := by
    rw [List.append_assoc, ← List.append_assoc (a.take j), List.take_append_drop]
  rw [hPl, hlen, hbox] at hdown
  have hml : (ofN m).length ≤ a.length := by
    have h1 : m ≤ val (a.drop j) := by rw [hm1]; exact Nat.le_mul_of_pos_left _ (Nat.pow_pos (by decide))
    have h2 := ofN_len_le h1
    have h3 := ofN_length_le (a.drop j)
    omega
  refine ⟨P ++ a.take j, S', m, 32 * j + s, ?_, hm2, by omega, hml, by simp at hS' ⊢; omega, ?_⟩
  · rw [hv, hm1, pow32, Nat.pow_add, Nat.mul_assoc]
  · have hst := strip_loop (T := T) (P ++ (a ++ S)) P.length a.length j (by omega) hj (fun i hi => ⟨_, by rw [win_bound (by omega)]; exact List.getElem?_eq_getElem (by omega), hz i hi⟩) ⟨_, by rw [win_bound hj]; exact List.getElem?_eq_getElem hj, hne⟩ 0 (Nat.zero_le _)
    have hzr := ref01_zeros (T := T) c s hc (by rw [← hsc]; exact hx)
    rw [← hsc] at hzr
    have hg : (P ++ (a ++ S))[P.length + j]? = some (a[j]'hj) := by rw [win_bound hj]; exact List.getElem?_eq_getElem hj
    have hpos : 0 < a.length - j := by omega
    have hw : IntKind.wrap .i64 (((32 * j : Nat) : Int) + s) = ((32 * j + s : Nat) : Int) := by rw [wrap_i64 _ (by omega)]; omega
    simp only [Nat.mul_zero, Nat.add_zero, Nat.sub_zero, Int.natCast_zero] at hst
    rw [hPl, f226 _ _ rfl, b226]
    generalize a[j]'hj = x at *
    clear hsc hv hm1 hd hz hne hbox hS' h hdiv hx
    generalize 32 * j = c1 at *
    generalize c1 + s = c2 at *
    generalize P ++ (a ++ S) = Q at *
    generalize P ++ a.take j ++ (ofN m ++ S') = Q' at *
    simp -implicitDefEqProofs [hst, hzr, hg, hpos, hw, hdown]
end
theorem ls_law {P m a S b : List UInt32} {i c s d : Nat} (hm : m.length = i) (h0 : i < a.length) (hv : val m + val (b.take i) = val (a.take i) + 4294967296 ^ i * c) (hs : s < 4294967296) (h : s + (atW b i + c) = (a[i]'h0).toNat + 4294967296 * d) :
    val (m ++ [w32 s]) + val (b.take (i + 1)) = val (a.take (i + 1)) + 4294967296 ^ (i + 1) * d := by
  have e1 := val_take_succ (List.getElem?_eq_getElem h0)
  have e2 := val_take_atW b i
  rw [val_append, hm, e1, e2, Nat.pow_succ]
  simp only [val_cons, val_nil, Nat.mul_zero, Nat.add_zero, w32_of_lt hs]
  generalize 4294967296 ^ i = p at *
  have e3 : p * s + p * (atW b i + c) = p * (a[i]'h0).toNat + p * 4294967296 * d := by rw [← Nat.mul_add, h, Nat.mul_add, Nat.mul_assoc]
  rw [Nat.mul_add] at e3
  omega
section
variable {T : Tbl} [CRef02 T] [CRef04 T] [CRef05 T] [CRef07 T] [CRef06 T]
def stLw (Q R : List UInt32) (o n o2 n2 c i : Nat) : St := ⟨[(0, .bs (.bor 0) 0 1 o n), (1, .bs (.bor 1) 1 1 o2 n2), (4, u64 c), (5, .i .i64 i)], [(.bor 0, ⟨0, .own, 1, u32s Q⟩), (.bor 1, ⟨1, .own, 1, u32s R⟩)], 6⟩
theorem lw_step (Q R b : List UInt32) (o n o2 n2 c i : Nat) (x : UInt32) (hi : i < n) (hn : n ≤ 1000000) (hb : b.length ≤ 1000000) (hc : c ≤ 1) (hx : Q[o + i]? = some x) (hR : List.take n2 (List.drop o2 R) = b) (hR2 : o2 + n2 ≤ R.length) :
    evX (orc T) T 2 l2097_0 (stLw Q R o n o2 n2 c i) = some (.n, stLw (Q.set (o + i) (w32 (if x.toNat < atW b i + c then x.toNat + 4294967296 - (atW b i + c) else x.toNat - (atW b i + c)))) R o n o2 n2 (if x.toNat < atW b i + c then 1 else 0) (i + 1)) := by
  have h1 : (i : Int) < n := by omega
  have hw : IntKind.wrap .i64 ((i : Int) + 1) = ((i + 1 : Nat) : Int) := wrap_i64 _ (by omega)
  have cb := ref02_at (T := T) b i hb
  have lx := u32_lt x
  have lb := atW_lt b i
  generalize atW b i = y at *
  have m2 : y % 18446744073709551616 = y := Nat.mod_eq_of_lt (by omega)
  have m3 : (y + c) % 18446744073709551616 = y + c := Nat.mod_eq_of_lt (by omega)
  have m4 : (x.toNat + 4294967296) % 18446744073709551616 = x.toNat + 4294967296 := Nat.mod_eq_of_lt (by omega)
  obtain ⟨b1, hgx⟩ := List.getElem?_eq_some_iff.1 hx
  unfold stLw
  by_cases hlt : x.toNat < y + c
  · have hs : sub64 (x.toNat + 4294967296) (y + c) = x.toNat + 4294967296 - (y + c) := sub64_le (by omega) (by omega)
    simp -implicitDefEqProofs [l2097_0, h1, hi, hw, cb, m2, m3, m4, hx, b1, hgx, hR, hR2, hlt, hs]
  · have hs : sub64 x.toNat (y + c) = x.toNat - (y + c) := sub64_le (by omega) (by omega)
    simp -implicitDefEqProofs [l2097_0, h1, hi, hw, cb, m2, m3, m4, hx, b1, hgx, hR, hR2, hlt, hs]
theorem lw_loop (P a S R b : List UInt32) (o2 n2 : Nat) (hl : a.length ≤ 1000000) (hb : b.length ≤ 1000000) (hR : List.take n2 (List.drop o2 R) = b) (hR2 : o2 + n2 ≤ R.length) : ∀ y : Nat × Nat × List UInt32,
    (y.1 ≤ a.length ∧ y.2.1 ≤ 1 ∧ y.2.2.length = y.1 ∧ val y.2.2 + val (b.take y.1) = val (a.take y.1) + 4294967296 ^ y.1 * y.2.1) →
    ∃ r, (∃ (c : Nat) (m : List UInt32), r = (Ex.n, (⟨[], [(.bor 0, ⟨0, .own, 1, u32s (P ++ (m ++ S))⟩), (.bor 1, ⟨1, .own, 1, u32s R⟩)], 6⟩ : St)) ∧
      m.length = a.length ∧ c ≤ 1 ∧ val m + val (b.take a.length) = val a + 4294967296 ^ a.length * c) ∧
      loopN T 2 0 (.norm false []) l2097_0 (stLw (P ++ (y.2.2 ++ (a.drop y.1 ++ S))) R P.length a.length o2 n2 y.2.1 y.1) = some r := by
  refine loopN_ex (fun y : Nat × Nat × List UInt32 => stLw (P ++ (y.2.2 ++ (a.drop y.1 ++ S))) R P.length a.length o2 n2 y.2.1 y.1) _ (fun y => a.length - y.1) _ ?_
  rintro ⟨i, c, m⟩ ⟨hi, hc, hm, hv⟩
  simp only at hi hc hm hv
  by_cases h0 : i < a.length
  · left
    have lx := u32_lt (a[i]'h0)
    have lb := atW_lt b i
    have hstep := lw_step (T := T) (P ++ (m ++ (a.drop i ++ S))) R b P.length a.length o2 n2 c i (a[i]'h0) h0 hl hb hc (get_win hm h0) hR hR2
    rw [set_win hm h0] at hstep
    by_cases hlt : (a[i]'h0).toNat < atW b i + c
    · rw [if_pos hlt, if_pos hlt] at hstep
      exact ⟨(i + 1, 1, m ++ [w32 ((a[i]'h0).toNat + 4294967296 - (atW b i + c))]), ⟨h0, Nat.le_refl _, by simp [hm], by simp only; exact ls_law (P := P) (S := S) hm h0 hv (by omega) (by omega)⟩, by simp only; omega, hstep⟩
    · rw [if_neg hlt, if_neg hlt] at hstep
      exact ⟨(i + 1, 0, m ++ [w32 ((a[i]'h0).toNat - (atW b i + c))]), ⟨h0, Nat.zero_le _, by simp [hm], by simp only; exact ls_law (P := P) (S := S) hm h0 hv (by omega) (by omega)⟩, by simp only; omega, hstep⟩
  · right
    have : i = a.length := by omega
    subst this
    rw [List.take_of_length_le (Nat.le_refl a.length)] at hv
    refine ⟨_, ⟨c, m, rfl, hm, hc, hv⟩, ?_, ?_⟩ <;> simp -implicitDefEqProofs [l2097_0, stLw]
theorem ref05_less2 (P a S P2 b S2 : List UInt32) (hl : a.length ≤ 1000000) (hb : b.length ≤ a.length) (hab : val b ≤ val a) :
    ∃ m : List UInt32, m.length = a.length ∧ val m = val a - val b ∧
      callH T 2097 [.bs (.bor 0) 0 1 P.length a.length, .bs (.bor 1) 1 1 P2.length b.length] [(.bor 0, ⟨0, .own, 1, u32s (P ++ (a ++ S))⟩), (.bor 1, ⟨1, .own, 1, u32s (P2 ++ (b ++ S2))⟩)] =
        some (.tup [], [(.bor 0, ⟨0, .own, 1, u32s (P ++ (m ++ S))⟩), (.bor 1, ⟨1, .own, 1, u32s (P2 ++ (b ++ S2))⟩)]) := by
  obtain ⟨_, ⟨c, m, rfl, hm, hc, hv⟩, hr⟩ := lw_loop (T := T) P a S (P2 ++ (b ++ S2)) b P2.length b.length hl (by omega) (by simp) (by simp) (0, 0, []) ⟨Nat.zero_le _, Nat.zero_le _, rfl, by simp⟩
  rw [List.take_of_length_le hb] at hv
  have hlo := val_lt m
  rw [hm] at hlo
  have hval : val m = val a - val b := by
    rcases Nat.eq_zero_or_pos c with h1 | h1
    · subst h1; omega
    · have : c = 1 := by omega
      subst this
      omega
  refine ⟨m, hm, hval, ?_⟩
  unfold stLw at hr
  simp only [List.nil_append, List.drop_zero, Int.natCast_zero] at hr
  rw [f2097 _ _ rfl, b2097]
  generalize P ++ (a ++ S) = Q at *
  generalize P ++ (m ++ S) = Q2 at *
  generalize P2 ++ (b ++ S2) = R at *
  clear hv hlo hval
  simp -implicitDefEqProofs [hr]
theorem ref06_one (a : List UInt32) : callF T 229 [.sl (u32s (ofN (val a))) .an] = some (.b (decide (val a = 1))) := by
  rw [f229 _ rfl, b229]
  generalize val a = n
  by_cases h0 : n = 0
  · subst h0
    simp -implicitDefEqProofs
  · rw [ofN_pos h0]
    by_cases h1 : n / 4294967296 = 0
    · have e : ofN (n / 4294967296) = [] := ofN_eq_nil.2 h1
      have e2 : n % 4294967296 = n := Nat.mod_eq_of_lt (by omega)
      simp -implicitDefEqProofs [e, u32s, w32_mod, e2]
    · have h2 : ¬ ofN (n / 4294967296) = [] := fun e => h1 (ofN_eq_nil.1 e)
      have h3 : ¬ n = 1 := by rintro rfl; simp at h1
      have h4 : ¬ ((ofN (n / 4294967296)).length : Int) + 1 = 1 := by
        have := List.length_pos_iff.2 h2
        omega
      simp -implicitDefEqProofs [u32s, h3, h4]
theorem ref06_over (a g : List UInt32) (ha : a.length ≤ 10000) (hg : g.length ≤ 10000) (h0 : val g ≠ 0) : callF T 230 [.sl (u32s a) .an, .sl (u32s (ofN (val g))) .an] = some (.sl (u32s (ofN (val a / val g))) .an) := by
  have ho := ref06_one (T := T) g
  have hn := ref02_norm (T := T) a (by omega)
  have hd := ref05_div (T := T) a (ofN (val g)) (by omega) (by have := ofN_length_le g; omega) (by rw [val_ofN]; omega)
  rw [val_ofN] at hd
  rw [f230 _ rfl, b230]
  by_cases h1 : val g = 1
  · rw [h1] at ho hd ⊢
    simp -implicitDefEqProofs [ho, hn]
  · simp -implicitDefEqProofs [ho, h1, hd]
theorem ref06_double (a : List UInt32) (k : Nat) (ha : a.length ≤ 10000) (hk : k ≤ 1000000) : callF T 227 [.sl (u32s a) .an, .i .i64 k] = some (.sl (u32s (ofN (2 ^ k * val a))) .an) := by
  have hq : (k : Int).tdiv 32 = (k : Int) / 32 := Int.tdiv_eq_ediv_of_nonneg (by omega)
  have hm2 : (k : Int).tmod 32 = (k : Int) % 32 := Int.tmod_eq_emod_of_nonneg (by omega)
  have s0 : ¬ (k : Int) % 32 < 0 := by omega
  have s1 : ((k : Int) % 32).toNat = k % 32 := by omega
  have s2 : min (k % 32) 32 = k % 32 := by omega
  have w1 : IntKind.wrap .i64 ((k : Int) / 32) = ((k / 32 : Nat) : Int) := by rw [wrap_i64 (k / 32) (by omega)]; omega
  have h2 : 2 ^ (k % 32) < 4294967296 := by
    have := Nat.pow_lt_pow_right (show 1 < 2 by decide) (Nat.mod_lt k (show 0 < 32 by decide))
    have h4 : (2 : Nat) ^ 32 = 4294967296 := rfl
    omega
  have s3 : 2 ^ (k % 32) % 4294967296 = 2 ^ (k % 32) := Nat.mod_eq_of_lt h2
  have hmul := ref04_mul (T := T) (List.replicate (k / 32) 0 ++ a) [w32 (2 ^ (k % 32))] (by simp; omega) (by simp)
  have hv : val (List.replicate (k / 32) 0 ++ a) * val [w32 (2 ^ (k % 32))] = 2 ^ k * val a := by
    rw [val_append, val_replicate, List.length_replicate, val_cons, val_nil, w32_of_lt h2, Nat.mul_zero, Nat.add_zero, Nat.zero_add, pow32, Nat.mul_comm, ← Nat.mul_assoc, ← Nat.pow_add, show k % 32 + 32 * (k / 32) = k by omega]
  rw [hv] at hmul
  have b2 : k / 32 + a.length ≤ 4294967296 := by omega
  have b3 : ((k / 32 : Nat) : Int) ≤ 4294967296 := by omega
  have hu : u32s [w32 (2 ^ (k % 32))] = [[u32 (2 ^ (k % 32))]] := by simp [u32s, w32_of_lt h2]
  rw [hu] at hmul
  have ht : List.take (k / 32 + a.length) (List.replicate (k / 32) 0 ++ a) = List.replicate (k / 32) 0 ++ a := List.take_of_length_le (by simp)
  rw [f227 _ rfl, b227]
  generalize 2 ^ k * val a = V at *
  clear hv hu
  generalize k / 32 = q at *
  simp -implicitDefEqProofs [hq, hm2, w1, s0, s1, s2, s3, hmul, b2, b3, ht]
def nmX : BId := .fld (.loc 12) 22
def nmY : BId := .fld (.loc 14) 22
def nm2 (f : Bool) : BId × BId := if f then (nmX, nmY) else (nmY, nmX)
def stGc (f : Bool) (P a S P2 b S2 : List UInt32) (m n : Nat) : St :=
  ⟨[(5, .bs (nm2 f).1 1 1 P.length a.length), (6, .bs (nm2 f).2 2 1 P2.length b.length), (7, .i .i64 m), (8, .i .i64 n)], [((nm2 f).1, ⟨1, .own, 1, u32s (P ++ (a ++ S))⟩), ((nm2 f).2, ⟨2, .own, 1, u32s (P2 ++ (b ++ S2))⟩)], 4⟩
theorem gc_gt (f : Bool) (P S P2 S2 : List UInt32) (X Y m n : Nat) (hX : (ofN X).length ≤ 10000) (hY : (ofN Y).length ≤ 10000) (h : Y < X) :
    ∃ (P' S' : List UInt32) (k x : Nat), X - Y = 2 ^ k * x ∧ x % 2 = 1 ∧
      evX (orc T) T 0 l228_0 (stGc f P (ofN X) S P2 (ofN Y) S2 m n) = some (.n, stGc f P' (ofN x) S' P2 (ofN Y) S2 m n) := by
  have hc := ref02_cmp (T := T) (ofN X) (ofN Y) (by omega) (by omega)
  rw [val_ofN, val_ofN, show cmpN X Y = 1 by unfold cmpN; rw [if_neg (by omega), if_pos h]] at hc
  obtain ⟨d, hd, hv, hless⟩ := ref05_less2 (T := T) P (ofN X) S P2 (ofN Y) S2 (by omega) (ofN_len_le (Nat.le_of_lt h)) (by rw [val_ofN, val_ofN]; omega)
  rw [val_ofN, val_ofN] at hv
  obtain ⟨P', S', x, k, e1, e2, e3, e4, e5, hodd⟩ := ref06_odd (T := T) P d S (by omega) (by omega)
  refine ⟨P', S', k, x, by omega, e2, ?_⟩
  have t1 : List.take (ofN X).length (List.drop P.length (P ++ (ofN X ++ S))) = ofN X := by simp
  have t2 : List.take (ofN Y).length (List.drop P2.length (P2 ++ (ofN Y ++ S2))) = ofN Y := by simp
  have b1 : P.length + (ofN X).length ≤ (P ++ (ofN X ++ S)).length := by simp
  have b2 : P2.length + (ofN Y).length ≤ (P2 ++ (ofN Y ++ S2)).length := by simp
  rw [hd] at hodd
  unfold stGc
  clear hv e1 e3 e4 e5 hd hX hY
  generalize P ++ (ofN X ++ S) = Q at *
  generalize P2 ++ (ofN Y ++ S2) = R at *
  generalize P' ++ (ofN x ++ S') = Q' at *
  generalize P ++ (d ++ S) = Q2 at *
  generalize ofN X = A at *
  generalize ofN Y = B at *
  cases f <;> simp -implicitDefEqProofs [l228_0, nm2, nmX, nmY, hc, t1, t2, b1, b2, hless, hodd]
theorem gc_lt (f : Bool) (P S P2 S2 : List UInt32) (X Y m n : Nat) (hX : (ofN X).length ≤ 10000) (hY : (ofN Y).length ≤ 10000) (h : X < Y) :
    ∃ (P' S' : List UInt32) (k x : Nat), Y - X = 2 ^ k * x ∧ x % 2 = 1 ∧
      evX (orc T) T 0 l228_0 (stGc f P (ofN X) S P2 (ofN Y) S2 m n) = some (.n, stGc (!f) P' (ofN x) S' P (ofN X) S m n) := by
  have hc := ref02_cmp (T := T) (ofN X) (ofN Y) (by omega) (by omega)
  rw [val_ofN, val_ofN, show cmpN X Y = -1 by unfold cmpN; rw [if_pos h]] at hc
  obtain ⟨d, hd, hv, hless⟩ := ref05_less2 (T := T) P2 (ofN Y) S2 P (ofN X) S (by omega) (ofN_len_le (Nat.le_of_lt h)) (by rw [val_ofN, val_ofN]; omega)
  rw [val_ofN, val_ofN] at hv
  obtain ⟨P', S', x, k, e1, e2, e3, e4, e5, hodd⟩ := ref06_odd (T := T) P2 d S2 (by omega) (by omega)
  refine ⟨P', S', k, x, by omega, e2, ?_⟩
  have t1 : List.take (ofN X).length (List.drop P.length (P ++ (ofN X ++ S))) = ofN X := by simp
  have t2 : List.take (ofN Y).length (List.drop P2.length (P2 ++ (ofN Y ++ S2))) = ofN Y := by simp
  have b1 : P.length + (ofN X).length ≤ (P ++ (ofN X ++ S)).length := by simp
  have b2 : P2.length + (ofN Y).length ≤ (P2 ++ (ofN Y ++ S2)).length := by simp
  rw [hd] at hodd
  unfold stGc
  clear hv e1 e3 e4 e5 hd hX hY
  generalize P ++ (ofN X ++ S) = Q at *
  generalize P2 ++ (ofN Y ++ S2) = R at *
  generalize P' ++ (ofN x ++ S') = Q' at *
  generalize P2 ++ (d ++ S2) = Q2 at *
  generalize ofN X = A at *
  generalize ofN Y = B at *
  cases f <;> simp -implicitDefEqProofs [l228_0, nm2, nmX, nmY, hc, t1, t2, b1, b2, hless, hodd]
theorem gc_eq (f : Bool) (P S P2 S2 : List UInt32) (X m n : Nat) (hX : (ofN X).length ≤ 10000) {G : Option (Ex × St)}
    (hG : G = some (.n, ⟨[(5, .bs (nm2 f).1 1 1 P.length (ofN X).length), (7, .i .i64 m), (8, .i .i64 n)], [((nm2 f).1, ⟨1, .own, 1, u32s (P ++ (ofN X ++ S))⟩)], 3⟩)) :
    isEx (evX (orc T) T 0 l228_0 (stGc f P (ofN X) S P2 (ofN X) S2 m n)) = true ∧ finX 0 0 (Gh.norm false [5, 7, 8]) (evX (orc T) T 0 l228_0 (stGc f P (ofN X) S P2 (ofN X) S2 m n)) = G := by
  subst hG
  have hc := ref02_cmp (T := T) (ofN X) (ofN X) (by omega) (by omega)
  rw [val_ofN, show cmpN X X = 0 by unfold cmpN; rw [if_neg (by omega), if_neg (by omega)]] at hc
  have t1 : List.take (ofN X).length (List.drop P.length (P ++ (ofN X ++ S))) = ofN X := by simp
  have t2 : List.take (ofN X).length (List.drop P2.length (P2 ++ (ofN X ++ S2))) = ofN X := by simp
  have b1 : P.length + (ofN X).length ≤ (P ++ (ofN X ++ S)).length := by simp
  have b2 : P2.length + (ofN X).length ≤ (P2 ++ (ofN X ++ S2)).length := by simp
  unfold stGc
  generalize P ++ (ofN X ++ S) = Q at *
  generalize P2 ++ (ofN X ++ S2) = R at *
  generalize ofN X = A at *
  cases f <;> constructor <;> simp -implicitDefEqProofs [l228_0, nm2, nmX, nmY, hc, t1, t2, b1, b2]
structure Gc where
  f : Bool
  P : List UInt32
  S : List UInt32
  P2 : List UInt32
  S2 : List UInt32
  X : Nat
  Y : Nat
theorem gc_loop (G m n : Nat) : ∀ y : Gc, ((ofN y.X).length ≤ 10000 ∧ (ofN y.Y).length ≤ 10000 ∧ y.X % 2 = 1 ∧ y.Y % 2 = 1 ∧ Nat.gcd y.X y.Y = G) →
    ∃ r, (∃ (f : Bool) (P S : List UInt32), r = (Ex.n, (⟨[(5, .bs (nm2 f).1 1 1 P.length (ofN G).length), (7, .i .i64 m), (8, .i .i64 n)], [((nm2 f).1, ⟨1, .own, 1, u32s (P ++ (ofN G ++ S))⟩)], 3⟩ : St))) ∧
      loopN T 0 0 (.norm false [5, 7, 8]) l228_0 (stGc y.f y.P (ofN y.X) y.S y.P2 (ofN y.Y) y.S2 m n) = some r := by
  refine loopN_ex (fun y : Gc => stGc y.f y.P (ofN y.X) y.S y.P2 (ofN y.Y) y.S2 m n) _ (fun y => y.X + y.Y) _ ?_
  rintro ⟨f, P, S, P2, S2, X, Y⟩ ⟨hX, hY, oX, oY, hG⟩
  simp only at hX hY oX oY hG ⊢
  rcases Nat.lt_trichotomy X Y with h | h | h
  · left
    obtain ⟨P', S', k, x, e1, e2, he⟩ := gc_lt (T := T) f P S P2 S2 X Y m n hX hY h
    have hle : x ≤ Y - X := by rw [e1]; exact Nat.le_mul_of_pos_left _ (Nat.pow_pos (by decide))
    refine ⟨⟨!f, P', S', P, S, x, X⟩, ⟨?_, hX, e2, oX, ?_⟩, by simp only; omega, he⟩
    · have := ofN_len_le (show x ≤ Y by omega)
      simp only; omega
    · simp only
      rw [gcd_less oX (Nat.le_of_lt h) e1, ← hG, Nat.gcd_comm]
  · right
    subst h
    rw [Nat.gcd_self] at hG
    subst hG
    obtain ⟨h1, h2⟩ := gc_eq (T := T) f P S P2 S2 X m n hX rfl
    exact ⟨_, ⟨f, P, S, rfl⟩, h1, h2⟩
  · left
    obtain ⟨P', S', k, x, e1, e2, he⟩ := gc_gt (T := T) f P S P2 S2 X Y m n hX hY h
    have hle : x ≤ X - Y := by rw [e1]; exact Nat.le_mul_of_pos_left _ (Nat.pow_pos (by decide))
    refine ⟨⟨f, P', S', P2, S2, x, Y⟩, ⟨?_, hY, e2, oY, ?_⟩, by simp only; omega, he⟩
    · have := ofN_len_le (show x ≤ X by omega)
      simp only; omega
    · simp only
      rw [gcd_less oY (Nat.le_of_lt h) e1, ← hG]
theorem ref06_gcd (a b : List UInt32) (ha : a.length ≤ 10000) (hb : b.length ≤ 10000) : callF T 228 [.sl (u32s a) .an, .sl (u32s b) .an] = some (.sl (u32s (ofN (Nat.gcd (val a) (val b)))) .an) := by
  have n1 := ref02_norm_own (T := T) a (by omega)
  have n2 := ref02_norm_own (T := T) b (by omega)
  have la := ofN_length_le a
  have lb := ofN_length_le b
  rw [f228 _ rfl, b228]
  generalize val a = X at *
  generalize val b = Y at *
  have tX : List.take (ofN X).length (ofN X) = ofN X := List.take_of_length_le (Nat.le_refl _)
  have tY : List.take (ofN Y).length (ofN Y) = ofN Y := List.take_of_length_le (Nat.le_refl _)
  by_cases hX : X = 0
  · subst hX
    rw [Nat.gcd_zero_left]
    simp only [ofN_zero] at n1
    generalize ofN Y = B at *
    simp -implicitDefEqProofs [n1, n2, tY]
  · have eX : ¬ ofN X = [] := fun e => hX (ofN_eq_nil.1 e)
    by_cases hY : Y = 0
    · subst hY
      rw [Nat.gcd_zero_right]
      simp only [ofN_zero] at n2
      generalize ofN X = A at *
      simp -implicitDefEqProofs [n1, n2, eX, tX]
    · have eY : ¬ ofN Y = [] := fun e => hY (ofN_eq_nil.1 e)
      obtain ⟨P1, S1, x, m, e1, e2, e3, e4, e5, o1⟩ := ref06_odd (T := T) [] (ofN X) [] (by omega) (by rw [val_ofN]; exact hX)
      obtain ⟨P2, S2, y, n, g1, g2, g3, g4, g5, o2⟩ := ref06_odd (T := T) [] (ofN Y) [] (by omega) (by rw [val_ofN]; exact hY)
      rw [val_ofN] at e1 g1
      obtain ⟨_, ⟨f, P, S, rfl⟩, hl⟩ := gc_loop (T := T) (Nat.gcd x y) m n ⟨true, P1, S1, P2, S2, x, y⟩ ⟨by simp only; omega, by simp only; omega, e2, g2, rfl⟩
      have hG : Nat.gcd X Y = 2 ^ (min m n) * Nat.gcd x y := by rw [e1, g1]; exact gcd_two e2 g2
      have hgl : (ofN (Nat.gcd x y)).length ≤ 10000 := by
        have := ofN_len_le (Nat.gcd_le_left y (show 0 < x by omega))
        omega
      have hdb := ref06_double (T := T) (ofN (Nat.gcd x y)) (min m n) hgl (by omega)
      rw [val_ofN, ← hG] at hdb
      simp only [List.nil_append, List.append_nil, List.length_nil] at o1 o2
      unfold stGc at hl
      have t1 : List.take (ofN (Nat.gcd x y)).length (List.drop P.length (P ++ (ofN (Nat.gcd x y) ++ S))) = ofN (Nat.gcd x y) := by simp
      have b1 : P.length + (ofN (Nat.gcd x y)).length ≤ (P ++ (ofN (Nat.gcd x y) ++ S)).length := by simp
      have hmin : (if n < m then (n : Int) else (m : Int)) = ((min m n : Nat) : Int) := by split <;> omega
      clear e1 e2 e3 e4 e5 g1 g2 g3 g4 g5 hG hgl
      generalize min m n = K at *
      generalize P ++ (ofN (Nat.gcd x y) ++ S) = Q at *
      generalize P1 ++ (ofN x ++ S1) = Q1 at *
      generalize P2 ++ (ofN y ++ S2) = Q2 at *
      generalize ofN (Nat.gcd x y) = g at *
      generalize ofN (Nat.gcd X Y) = g' at *
      simp only [nm2, nmX, nmY, if_true] at hl
      generalize ofN X = A at *
      generalize ofN Y = B at *
      cases f <;> simp only [Bool.false_eq_true, if_false, if_true] at hl <;> simp -implicitDefEqProofs [n1, n2, eX, eY, o1, o2, hl, hdb, t1, b1, hmin, mm2]
end
end Go.Ab
end

section
namespace Go.Ab
section
variable {T : Tbl} [CRef08 T]
theorem ref08_norm (n : Bool) (a : List UInt32) (ha : a.length ≤ 1000000) : callF T 39 [wh n a] = some (ez (wv n a)) := by
  have h := ref02_norm (T := T) a ha
  have hl : (0 < (ofN (val a)).length) = (val a ≠ 0) := by
    rw [eq_iff_iff, List.length_pos_iff]
    exact not_congr ofN_eq_nil
  rw [f39 _ rfl, b39]
  unfold wv
  rw [ez_sg]
  cases n <;> simp -implicitDefEqProofs [h, hl]
theorem ref08_add (n m : Bool) (a b : List UInt32) (ha : a.length ≤ 10000) (hb : b.length ≤ 10000) : callF T 24 [wh n a, wh m b] = some (ez (wv n a + wv m b)) := by
  have hc := ref02_cmp (T := T) a b (by omega) (by omega)
  rw [f24 _ rfl, b24]
  have fin : ∀ (s : Bool) (k : Nat), sg s k = wv n a + wv m b → (ofN k).length ≤ 1000000 → callF T 39 [wh s (ofN k)] = some (ez (wv n a + wv m b)) := by
    intro s k h1 h2
    rw [ref08_norm (T := T) s (ofN k) h2]
    have : wv s (ofN k) = sg s k := by unfold wv; rw [val_ofN]
    rw [this, h1]
  have hla := ofN_length_le a
  have hlb := ofN_length_le b
  obtain ⟨z, hz⟩ : ∃ z, z = wv n a + wv m b := ⟨_, rfl⟩
  by_cases h : n = m
  · subst h
    have h1 := ref02_add (T := T) a b (by omega) (by omega)
    have h2 := fin n (val a + val b) (sg_add_same _ _ _) (by
      have := abs_add_len (x := (val a : Int)) (y := val b) (L := 10000) (by simpa using Nat.le_trans hla ha) (by simpa using Nat.le_trans hlb hb)
      have e : ((val a : Int) + val b).natAbs = val a + val b := by omega
      rw [e] at this
      omega)
    rw [← hz] at h2 ⊢
    simp -implicitDefEqProofs [h1, h2]
  · by_cases hlt : val a < val b
    · have h1 := ref02_sub (T := T) b a (by omega) (by omega) (by omega)
      have h2 := fin m (val b - val a) (sg_add_lt h hlt) (by have := ofN_len_le (Nat.sub_le (val b) (val a)); omega)
      rw [← hz] at h2 ⊢
      simp -implicitDefEqProofs [h, hc, cmpN_lt, hlt, h1, h2]
    · have h1 := ref02_sub (T := T) a b (by omega) (by omega) (by omega)
      have h2 := fin n (val a - val b) (sg_add_ge h hlt) (by have := ofN_len_le (Nat.sub_le (val a) (val b)); omega)
      rw [← hz] at h2 ⊢
      simp -implicitDefEqProofs [h, hc, cmpN_lt, hlt, h1, h2]
end
end Go.Ab
end

section
namespace Go.Ab
theorem sg_mulr (n : Bool) (x y : Nat) : sg n (x * y) = sg n x * (y : Int) := by cases n <;> simp [sg, Int.neg_mul]
theorem fz_den (q : Rat) : val (fz q).2.2 ≠ 0 := by
  unfold fz
  rw [val_ofN]
  exact q.den_nz
section
variable {T : Tbl} [CRef02 T] [CRef04 T] [CRef05 T] [CRef07 T] [CRef06 T] [CRef08 T] [CRef09 T]
theorem ref09_norm (x : Fz) (hx : fsz x ≤ 10000) : callF T 231 [efz x] = some (efz (fz (fv x))) := by
  obtain ⟨n, a, d⟩ := x
  have la := fsz_a (n, a, d)
  have ld := fsz_d (n, a, d)
  simp only at la ld
  have n1 := ref02_norm (T := T) a (by omega)
  have n2 := ref02_norm (T := T) d (by omega)
  have la2 := ofN_length_le a
  have ld2 := ofN_length_le d
  have ho := ref06_one (T := T) d
  have hg := ref06_gcd (T := T) (ofN (val a)) (ofN (val d)) (by omega) (by omega)
  rw [val_ofN, val_ofN] at hg
  show _ = some (efz (fz (mkRat (sg n (val a)) (val d))))
  by_cases hd : val d = 0
  · rw [hd, Rat.mkRat_zero, fz_zero, f231 _ rfl, b231]
    rw [hd] at n2
    simp only [ofN_zero] at n2
    simp -implicitDefEqProofs [n1, n2, show u32s [1] = [[u32 1]] from rfl]
  · by_cases ha : val a = 0
    · have e0 : mkRat (sg n (val a)) (val d) = 0 := by rw [Rat.mkRat_eq_zero hd, ha]; cases n <;> rfl
      have ed : ¬ ofN (val d) = [] := fun e => hd (ofN_eq_nil.1 e)
      rw [e0, fz_zero, f231 _ rfl, b231]
      rw [ha] at n1
      simp only [ofN_zero] at n1
      simp -implicitDefEqProofs [n1, n2, ed, show u32s [1] = [[u32 1]] from rfl]
    · have ea : ¬ ofN (val a) = [] := fun e => ha (ofN_eq_nil.1 e)
      have ed : ¬ ofN (val d) = [] := fun e => hd (ofN_eq_nil.1 e)
      rw [fz_mk n (val a) hd, show decide (val a ≠ 0) = true by simpa using ha, Bool.and_true]
      have gpos : Nat.gcd (val a) (val d) ≠ 0 := by
        have := Nat.gcd_pos_of_pos_right (val a) (Nat.pos_of_ne_zero hd)
        omega
      have glen : (ofN (Nat.gcd (val a) (val d))).length ≤ 10000 := by
        have := ofN_len_le (Nat.gcd_le_right (val a) (Nat.pos_of_ne_zero hd))
        omega
      have o1 := ref06_over (T := T) (ofN (val a)) (ofN (Nat.gcd (val a) (val d))) (by omega) glen (by rw [val_ofN]; exact gpos)
      have o2 := ref06_over (T := T) (ofN (val d)) (ofN (Nat.gcd (val a) (val d))) (by omega) glen (by rw [val_ofN]; exact gpos)
      rw [val_ofN, val_ofN] at o1 o2
      rw [f231 _ rfl, b231]
      by_cases h1 : val d = 1
      · rw [h1] at n2 ho ed ⊢
        rw [Nat.gcd_one_right, Nat.div_one, Nat.div_one]
        generalize ofN (val a) = A at *
        generalize ofN 1 = O at *
        simp -implicitDefEqProofs [n1, n2, ho, ea, ed]
      · generalize ofN (val a / Nat.gcd (val a) (val d)) = A' at *
        generalize ofN (val d / Nat.gcd (val a) (val d)) = D' at *
        generalize ofN (Nat.gcd (val a) (val d)) = G at *
        generalize ofN (val a) = A at *
        generalize ofN (val d) = D at *
        simp -implicitDefEqProofs [n1, n2, ho, ea, ed, h1, hg, o1, o2]
theorem ref02_of (n : Nat) (h : n < 18446744073709551616) : callF T 353 [u64 n] = some (.sl (u32s (ofN n)) .an) := by
  have e2 : val [w32 n, w32 (n / 4294967296)] = n := by simp [w32_mod]; omega
  have h2 := ref02_norm (T := T) [w32 n, w32 (n / 4294967296)] (by simp)
  rw [e2] at h2
  have h3 : n / 4294967296 % 4294967296 = n / 4294967296 := Nat.mod_eq_of_lt (by omega)
  have h4 : n / 4294967296 % 18446744073709551616 = n / 4294967296 := Nat.mod_eq_of_lt (by omega)
  rw [f353 _ rfl, b353]
  simp -implicitDefEqProofs [h3, h4, u32s_set _ _ _ (show n / 4294967296 < 4294967296 by omega), h2]
theorem ref09_int (k : Int) (h1 : -9223372036854775808 ≤ k) (h2 : k < 9223372036854775808) : callF T 232 [.i .i64 k] = some (efz (fz (k : Rat))) := by
  have hu : u32s [1] = [[u32 1]] := rfl
  rw [f232 _ rfl, b232]
  by_cases hk : k < 0
  · have w1 : IntKind.wrap .i64 (k + 1) = k + 1 := wrap_i64 _ (by omega)
    have w2 : IntKind.wrap .i64 (-(k + 1)) = -(k + 1) := wrap_i64 _ (by omega)
    have w3 : (-(k + 1) % 18446744073709551616).toNat = k.natAbs - 1 := by omega
    have c1 := ref02_of (T := T) (k.natAbs - 1) (by omega)
    have c2 := ref02_add (T := T) (ofN (k.natAbs - 1)) [1] (by have := ofN_length_le' (n := k.natAbs - 1) (k := 2) (by show _ < 18446744073709551616; omega); omega) (by decide)
    have e1 : val (ofN (k.natAbs - 1)) + val [1] = k.natAbs := by rw [val_ofN]; show _ + (1 + 4294967296 * 0) = _; omega
    rw [e1, hu] at c2
    have c3 := ref09_norm (T := T) (true, ofN k.natAbs, [1]) (by
      have := ofN_length_le' (n := k.natAbs) (k := 2) (by show _ < 18446744073709551616; omega)
      unfold fsz; simp only [List.length_singleton]; omega)
    have e2 : fv (true, ofN k.natAbs, [1]) = (k : Rat) := by
      unfold fv wv
      simp only [val_ofN]
      rw [show val [1] = 1 from rfl, show sg true k.natAbs = k by unfold sg; rw [if_pos rfl]; omega]
      rw [← Rat.divInt_ofNat]
      exact Rat.num_divInt_den (k : Rat)
    rw [e2] at c3
    change callF T 231 [.agg [.b true, .sl (u32s (ofN k.natAbs)) .an, .sl (u32s [1]) .an]] = _ at c3
    rw [hu] at c3
    generalize fz (k : Rat) = z at *
    simp -implicitDefEqProofs [hk, w1, w2, w3, c1, c2, c3]
  · have w3 : (k % 18446744073709551616).toNat = k.natAbs := by omega
    have c1 := ref02_of (T := T) k.natAbs (by omega)
    have c3 := ref09_norm (T := T) (false, ofN k.natAbs, [1]) (by
      have := ofN_length_le' (n := k.natAbs) (k := 2) (by show _ < 18446744073709551616; omega)
      unfold fsz; simp only [List.length_singleton]; omega)
    have e2 : fv (false, ofN k.natAbs, [1]) = (k : Rat) := by
      unfold fv wv
      simp only [val_ofN]
      rw [show val [1] = 1 from rfl, show sg false k.natAbs = k by unfold sg; simp; omega]
      rw [← Rat.divInt_ofNat]
      exact Rat.num_divInt_den (k : Rat)
    rw [e2] at c3
    change callF T 231 [.agg [.b false, .sl (u32s (ofN k.natAbs)) .an, .sl (u32s [1]) .an]] = _ at c3
    rw [hu] at c3
    generalize fz (k : Rat) = z at *
    simp -implicitDefEqProofs [hk, w3, c1, c3]
theorem ref09_int0 : callF T 232 [.i .i64 0] = some (efz (fz 0)) := ref09_int 0 (by decide) (by decide)
theorem ref09_same (x y : Fz) (hx : fsz x ≤ 10000) : callF T 233 [efz x, efz y] = some (.b (decide (x = y))) := by
  obtain ⟨n, a, d⟩ := x
  obtain ⟨m, b, e⟩ := y
  have la := fsz_a (n, a, d)
  have ld := fsz_d (n, a, d)
  simp only at la ld
  have c1 := ref02_same (T := T) a b (by omega)
  have c2 := ref02_same (T := T) d e (by omega)
  rw [f233 _ rfl, b233]
  by_cases h1 : n = m
  · subst h1
    by_cases h2 : a = b
    · subst h2
      by_cases h3 : d = e
      · subst h3
        simp -implicitDefEqProofs [c1, c2]
      · simp -implicitDefEqProofs [c1, c2, h3]
    · simp -implicitDefEqProofs [c1, h2]
  · simp -implicitDefEqProofs [c1, c2, h1]
theorem ref09_long (x : Fz) (k : Nat) : callF T 247 [efz x, .i .i64 k] = some (.b (decide (k < fsz x))) := by
  obtain ⟨n, a, d⟩ := x
  unfold fsz
  rw [f247 _ rfl, b247]
  by_cases h1 : k < a.length
  · have h3 : k < max a.length d.length := by omega
    simp -implicitDefEqProofs [h1, h3]
  · by_cases h2 : k < d.length
    · have h3 : k < max a.length d.length := by omega
      simp -implicitDefEqProofs [h1, h2, h3]
    · have h3 : ¬ k < max a.length d.length := by omega
      simp -implicitDefEqProofs [h1, h2, h3]
theorem ref09_mul (x y : Fz) (hx : fsz x ≤ 1000) (hy : fsz y ≤ 1000) : callF T 241 [efz x, efz y] = some (efz (fz (fv x * fv y))) := by
  obtain ⟨n, a, d⟩ := x
  obtain ⟨m, b, e⟩ := y
  have la := fsz_a (n, a, d)
  have ld := fsz_d (n, a, d)
  have lb := fsz_a (m, b, e)
  have le := fsz_d (m, b, e)
  simp only at la ld lb le
  have c1 := ref04_mul (T := T) a b (by omega) (by omega)
  have c2 := ref04_mul (T := T) d e (by omega) (by omega)
  have l1 : (ofN (val a * val b)).length ≤ 2000 := by
    have := nat_mul_len (x := val a) (y := val b) (L := 1000) (M := 1000) (Nat.le_trans (ofN_length_le a) (by omega)) (Nat.le_trans (ofN_length_le b) (by omega))
    omega
  have l2 : (ofN (val d * val e)).length ≤ 2000 := by
    have := nat_mul_len (x := val d) (y := val e) (L := 1000) (M := 1000) (Nat.le_trans (ofN_length_le d) (by omega)) (Nat.le_trans (ofN_length_le e) (by omega))
    omega
  have c3 := ref09_norm (T := T) (n != m, ofN (val a * val b), ofN (val d * val e)) (by unfold fsz; simp only; omega)
  have e1 : fv (n != m, ofN (val a * val b), ofN (val d * val e)) = fv (n, a, d) * fv (m, b, e) := by
    unfold fv wv
    simp only [val_ofN]
    rw [sg_mul, Rat.mkRat_mul_mkRat]
  rw [e1] at c3
  rw [f241 _ rfl, b241]
  clear e1 l1 l2
  generalize fz (fv (n, a, d) * fv (m, b, e)) = z at *
  generalize ofN (val a * val b) = A at *
  generalize ofN (val d * val e) = D at *
  simp -implicitDefEqProofs [c1, c2, c3, pendOk_cons]
theorem ref09_add (x y : Fz) (hx : fsz x ≤ 1000) (hy : fsz y ≤ 1000) (h1 : val x.2.2 ≠ 0) (h2 : val y.2.2 ≠ 0) : callF T 239 [efz x, efz y] = some (efz (fz (fv x + fv y))) := by
  obtain ⟨n, a, d⟩ := x
  obtain ⟨m, b, e⟩ := y
  have la := fsz_a (n, a, d)
  have ld := fsz_d (n, a, d)
  have lb := fsz_a (m, b, e)
  have le := fsz_d (m, b, e)
  simp only at la ld lb le h1 h2
  have c1 := ref04_mul (T := T) a e (by omega) (by omega)
  have c2 := ref04_mul (T := T) b d (by omega) (by omega)
  have c4 := ref04_mul (T := T) d e (by omega) (by omega)
  have l1 : (ofN (val a * val e)).length ≤ 2000 := by
    have := nat_mul_len (x := val a) (y := val e) (L := 1000) (M := 1000) (Nat.le_trans (ofN_length_le a) (by omega)) (Nat.le_trans (ofN_length_le e) (by omega))
    omega
  have l2 : (ofN (val b * val d)).length ≤ 2000 := by
    have := nat_mul_len (x := val b) (y := val d) (L := 1000) (M := 1000) (Nat.le_trans (ofN_length_le b) (by omega)) (Nat.le_trans (ofN_length_le d) (by omega))
    omega
  have l4 : (ofN (val d * val e)).length ≤ 2000 := by
    have := nat_mul_len (x := val d) (y := val e) (L := 1000) (M := 1000) (Nat.le_trans (ofN_length_le d) (by omega)) (Nat.le_trans (ofN_length_le e) (by omega))
    omega
  have c3 := ref08_add (T := T) n m (ofN (val a * val e)) (ofN (val b * val d)) (by omega) (by omega)
  have e3 : wv n (ofN (val a * val e)) + wv m (ofN (val b * val d)) = sg n (val a) * (val e : Int) + sg m (val b) * (val d : Int) := by
    unfold wv
    rw [val_ofN, val_ofN, sg_mulr, sg_mulr]
  have l3 : (ofN (sg n (val a) * (val e : Int) + sg m (val b) * (val d : Int)).natAbs).length ≤ 3000 := by
    rw [← e3]
    have := abs_add_len (x := wv n (ofN (val a * val e))) (y := wv m (ofN (val b * val d))) (L := 2000) (Nat.le_trans (wv_len _ _) l1) (Nat.le_trans (wv_len _ _) l2)
    omega
  rw [e3] at c3
  obtain ⟨z, hz⟩ : ∃ z, z = sg n (val a) * (val e : Int) + sg m (val b) * (val d : Int) := ⟨_, rfl⟩
  rw [← hz] at c3 l3
  have c5 := ref09_norm (T := T) (decide (z < 0), ofN z.natAbs, ofN (val d * val e)) (by unfold fsz; simp only; omega)
  have e1 : fv (decide (z < 0), ofN z.natAbs, ofN (val d * val e)) = fv (n, a, d) + fv (m, b, e) := by
    unfold fv
    simp only [val_ofN, wv_ez]
    rw [hz]
    exact (Rat.mkRat_add_mkRat _ _ h1 h2).symm
  rw [e1] at c5
  rw [f239 _ rfl, b239]
  clear e1 e3 hz l1 l2 l3 l4 h1 h2
  generalize fz (fv (n, a, d) + fv (m, b, e)) = R at *
  generalize ofN (val a * val e) = A at *
  generalize ofN (val b * val d) = B at *
  generalize ofN (val d * val e) = D at *
  simp -implicitDefEqProofs [c1, c2, c3, c4, c5, pendOk_cons]
theorem ref09_addQ (p q : Rat) (hp : sz p ≤ 1000) (hq : sz q ≤ 1000) : callF T 239 [efz (fz p), efz (fz q)] = some (efz (fz (p + q))) := by
  have := ref09_add (T := T) (fz p) (fz q) hp hq (fz_den p) (fz_den q)
  rwa [fv_fz, fv_fz] at this
theorem ref09_mulQ (p q : Rat) (hp : sz p ≤ 1000) (hq : sz q ≤ 1000) : callF T 241 [efz (fz p), efz (fz q)] = some (efz (fz (p * q))) := by
  have := ref09_mul (T := T) (fz p) (fz q) hp hq
  rwa [fv_fz, fv_fz] at this
end
end Go.Ab
end

section
namespace Go.Ab
section
variable {T : Tbl} [CRef02 T] [CRef04 T] [CRef05 T] [CRef07 T] [CRef06 T] [CRef08 T] [CRef09 T] [CRef11 T]
def stZ1 (n i : Nat) : St := ⟨[(0, .i .i64 n), (3, .bs (.loc 3) 1 3 0 i), (4, .i .i64 i)], [(.loc 3, ⟨1, .own, 3, rowF (List.replicate i (fz 0))⟩)], 3⟩
def stN1 (l : List Fz) (i : Nat) : St := ⟨[(0, .sl (rowF l) .an), (3, .bs (.loc 3) 1 3 0 i), (4, .i .i64 i)], [(.loc 3, ⟨1, .own, 3, rowF (nrm (l.take i))⟩)], 3⟩
theorem norms_loop (l : List Fz) (hl : l.length ≤ 1000) (hw : ∀ x ∈ l, fsz x ≤ 1000) :
    loopN T 0 0 (.norm false [3]) l278_0 (stN1 l 0) = some (.n, ⟨[(3, .bs (.loc 3) 1 3 0 l.length)], [(.loc 3, ⟨1, .own, 3, rowF (nrm l)⟩)], 3⟩) := by
  refine range_loop (stN1 l) l.length _ (fun i hi => ?_) ?_
  · have hg : l[i]? = some (l[i]'hi) := List.getElem?_eq_getElem hi
    have hws := wrapS hi (by omega)
    have hn := ref09_norm (T := T) (l[i]'hi) (Nat.le_trans (hw _ (List.getElem_mem hi)) (by decide))
    have e : nrm (l.take (i + 1)) = nrm (l.take i) ++ [fz (fv (l[i]'hi))] := take_map_succ l _ hi
    have hml : (nrm (l.take i)).length = i := by simp [nrm]; omega
    have hp := rowF_push hml (fz (fv (l[i]'hi)))
    unfold stN1
    rw [e]
    clear e
    generalize nrm (l.take i) = M at *
    generalize fz (fv (l[i]'hi)) = z at *
    have hb : i ≤ 4294967295 := by omega
    simp -implicitDefEqProofs [l278_0, hi, hg, hws, hn, hp, hml, hb]
  · unfold stN1
    rw [List.take_of_length_le (Nat.le_refl _)]
    generalize nrm l = M
    constructor <;> simp -implicitDefEqProofs [l278_0]
theorem ref11_norms (l : List Fz) (hl : l.length ≤ 1000) (hw : ∀ x ∈ l, fsz x ≤ 1000) : callF T 278 [.sl (rowF l) .an] = some (.sl (rowF (nrm l)) .an) := by
  have h := norms_loop (T := T) l hl hw
  unfold stN1 at h
  have e : nrm (l.take 0) = [] := rfl
  rw [e] at h
  simp only [rowF_nil, Int.natCast_zero] at h
  have hl2 : (nrm l).length = l.length := by simp [nrm]
  have ht : List.take l.length (nrm l) = nrm l := List.take_of_length_le (by omega)
  rw [f278 _ rfl, b278]
  simp -implicitDefEqProofs [h, ht, hl2]
def stS1 (a b : List Fz) (i : Nat) : St := ⟨[(0, .sl (rowF a) .an), (1, .sl (rowF b) .an), (5, .i .i64 i)], [], 2⟩
theorem same1_loop (a b : List Fz) (hab : a.length = b.length) (hl : a.length ≤ 1000) (ha : ∀ x ∈ a, fsz x ≤ 10000) :
    loopN T 0 0 (.norm false []) l279_0 (stS1 a b 0) = if a.drop 0 = b.drop 0 then some (.n, ⟨[], [], 2⟩) else some (.r, ⟨[(4, .b false)], [], 2⟩) := by
  refine until_loop (stS1 a b) a.length (fun i => if a.drop i = b.drop i then some (.n, ⟨[], [], 2⟩) else some (.r, ⟨[(4, .b false)], [], 2⟩)) (fun i hi => ?_) ?_
  · have hga : a[i]? = some (a[i]'hi) := List.getElem?_eq_getElem hi
    have hib : i < b.length := by omega
    have hgb : b[i]? = some (b[i]'hib) := List.getElem?_eq_getElem hib
    have hws := wrapS hi (by omega)
    have c := ref09_same (T := T) (a[i]'hi) (b[i]'hib) (ha _ (List.getElem_mem hi))
    have hib' : (i : Int) < b.length := by omega
    have key : (a.drop i = b.drop i) ↔ ((a[i]'hi) = (b[i]'hib) ∧ a.drop (i + 1) = b.drop (i + 1)) := by
      rw [List.drop_eq_getElem_cons hi, List.drop_eq_getElem_cons hib, List.cons.injEq]
    by_cases he : (a[i]'hi) = (b[i]'hib)
    · left
      refine ⟨?_, by simp only [key, he, true_and]⟩
      unfold stS1
      rw [decide_eq_true he] at c
      clear he
      simp -implicitDefEqProofs [l279_0, hi, hga, hgb, hws, c, hib, hib']
    · right
      rw [if_neg (fun h => he (key.1 h).1)]
      unfold stS1
      rw [decide_eq_false he] at c
      clear he
      constructor <;> simp -implicitDefEqProofs [l279_0, hi, hga, hgb, hws, c, hib, hib']
  · rw [List.drop_length, if_pos (by rw [hab, List.drop_length])]
    unfold stS1
    constructor <;> simp -implicitDefEqProofs [l279_0]
theorem ref11_same (a b : List Fz) (hl : a.length ≤ 1000) (ha : ∀ x ∈ a, fsz x ≤ 10000) : callF T 279 [.sl (rowF a) .an, .sl (rowF b) .an] = some (.b (decide (a = b))) := by
  rw [f279 _ rfl, b279]
  by_cases hab : a.length = b.length
  · have h := same1_loop (T := T) a b hab hl ha
    rw [List.drop_zero, List.drop_zero] at h
    unfold stS1 at h
    simp only [Int.natCast_zero] at h
    have hab' : (b.length : Int) = a.length := by omega
    by_cases he : a = b
    · subst he
      rw [if_pos rfl] at h
      simp -implicitDefEqProofs [h]
    · rw [if_neg he] at h
      simp -implicitDefEqProofs [hab', h, he]
  · have he : ¬ a = b := fun h => hab (by rw [h])
    have hab' : ¬ (a.length : Int) = b.length := by omega
    simp -implicitDefEqProofs [hab, hab', he]
def stA1 (p q : List Rat) (i : Nat) : St := ⟨[(0, .sl (rowF (fzs p)) .an), (1, .sl (rowF (fzs q)) .an), (5, .bs (.loc 5) 1 3 0 i), (6, .i .i64 i)], [(.loc 5, ⟨1, .own, 3, rowF (fzs ((addP p (fzs q)).take i))⟩)], 3⟩
theorem add1_loop (p q : List Rat) (hpq : q.length = p.length) (hl : p.length ≤ 1000) (hp : ∀ x ∈ p, sz x ≤ 1000) (hq : ∀ x ∈ q, sz x ≤ 1000) :
    loopN T 0 0 (.norm false [5]) l280_0 (stA1 p q 0) = some (.n, ⟨[(5, .bs (.loc 5) 1 3 0 p.length)], [(.loc 5, ⟨1, .own, 3, rowF (fzs (addP p (fzs q)))⟩)], 3⟩) := by
  have hL : (addP p (fzs q)).length = p.length := addP_length (by simpa using hpq)
  refine range_loop (stA1 p q) p.length _ (fun i hi => ?_) ?_
  · have hiq : i < q.length := by omega
    have hga := fzs_get (List.getElem?_eq_getElem hi)
    have hgb := fzs_get (List.getElem?_eq_getElem hiq)
    have hws := wrapS hi (by omega)
    have c := ref09_addQ (T := T) (p[i]'hi) (q[i]'hiq) (hp _ (List.getElem_mem hi)) (hq _ (List.getElem_mem hiq))
    have e1 : (addP p (fzs q))[i]'(by omega) = p[i]'hi + q[i]'hiq := by simp [addP, fzs]
    have e : fzs ((addP p (fzs q)).take (i + 1)) = fzs ((addP p (fzs q)).take i) ++ [fz (p[i]'hi + q[i]'hiq)] := by
      rw [← e1]
      exact take_map_succ _ fz (by omega)
    have hml : (fzs ((addP p (fzs q)).take i)).length = i := by simp; omega
    have hpu := rowF_push hml (fz (p[i]'hi + q[i]'hiq))
    have la : (fzs p).length = p.length := by simp
    have lb : (fzs q).length = q.length := by simp
    unfold stA1
    rw [e]
    clear e e1
    generalize fzs ((addP p (fzs q)).take i) = M at *
    generalize fz (p[i]'hi + q[i]'hiq) = z at *
    generalize fz (p[i]'hi) = x at *
    generalize fz (q[i]'hiq) = y at *
    generalize fzs p = A at *
    generalize fzs q = B at *
    have hb : i ≤ 4294967295 := by omega
    have hA : i < A.length := by omega
    have hB : i < B.length := by omega
    have hA' : (i : Int) < A.length := by omega
    have hB' : (i : Int) < B.length := by omega
    clear la lb
    obtain ⟨_, gA⟩ := List.getElem?_eq_some_iff.1 hga
    obtain ⟨_, gB⟩ := List.getElem?_eq_some_iff.1 hgb
    simp -implicitDefEqProofs [l280_0, hA, hA', hB, hB', hga, hgb, gA, gB, hws, c, hpu, hml, hb]
  · have e : (addP p (fzs q)).take p.length = addP p (fzs q) := List.take_of_length_le (by omega)
    have la : (fzs p).length = p.length := by simp
    unfold stA1
    rw [e]
    generalize fzs (addP p (fzs q)) = M at *
    generalize fzs p = A at *
    rw [← la]
    constructor <;> simp -implicitDefEqProofs [l280_0]
theorem ref11_add (p q : List Rat) (hpq : q.length = p.length) (hl : p.length ≤ 1000) (hp : ∀ x ∈ p, sz x ≤ 1000) (hq : ∀ x ∈ q, sz x ≤ 1000) :
    callF T 280 [.sl (rowF (fzs p)) .an, .sl (rowF (fzs q)) .an] = some (.sl (rowF (fzs (addP p (fzs q)))) .an) := by
  have h := add1_loop (T := T) p q hpq hl hp hq
  have hL : (fzs (addP p (fzs q))).length = p.length := by rw [fzs_length]; exact addP_length (by simpa using hpq)
  unfold stA1 at h
  have e : fzs ((addP p (fzs q)).take 0) = [] := rfl
  rw [e] at h
  simp only [rowF_nil, Int.natCast_zero] at h
  have ht : List.take p.length (fzs (addP p (fzs q))) = fzs (addP p (fzs q)) := List.take_of_length_le (by omega)
  rw [f280 _ rfl, b280]
  generalize fzs (addP p (fzs q)) = M at *
  simp -implicitDefEqProofs [h, ht, hL]
def stD1 (p q : List Rat) (i : Nat) : St := ⟨[(0, .sl (rowF (fzs p)) .an), (1, .sl (rowF (fzs q)) .an), (4, .ptr (.loc 4) 1 3 0 0), (5, .ptr (.loc 5) 2 3 0 0), (6, .i .i64 i)],
  [(.loc 4, ⟨1, .str, 3, [nocell]⟩), (.loc 5, ⟨2, .str, 3, [celF (fz (dotK (fzs p) (fzs q) i))]⟩)], 4⟩
theorem dot1_loop (p q : List Rat) (hpq : p.length = q.length) {B : Nat} (hp : ∀ x ∈ p, sz x ≤ B) (hq : ∀ x ∈ q, sz x ≤ B) (hB : 1 ≤ B) (hB2 : p.length * (2 * B + 1) + 1 ≤ 1000) :
    loopN T 0 0 (.norm false [4, 5]) l282_0 (stD1 p q 0) = some (.n, ⟨[(4, .ptr (.loc 4) 1 3 0 0), (5, .ptr (.loc 5) 2 3 0 0)], [(.loc 4, ⟨1, .str, 3, [nocell]⟩), (.loc 5, ⟨2, .str, 3, [celF (fz (dotQ (fzs p) (fzs q)))]⟩)], 4⟩) := by
  have la : (fzs p).length = p.length := by simp
  have lb : (fzs q).length = q.length := by simp
  refine range_loop (stD1 p q) p.length _ (fun i hi => ?_) ?_
  · have hlen : p.length * 3 ≤ 1000 := Nat.le_trans (Nat.mul_le_mul_left _ (show 3 ≤ 2 * B + 1 by omega)) (by omega)
    have hBB : 2 * B + 1 ≤ 1000 := Nat.le_trans (Nat.le_mul_of_pos_left _ (show 0 < p.length by omega)) (by omega)
    have hiq : i < q.length := by omega
    have hga := fzs_get (List.getElem?_eq_getElem hi)
    have hgb := fzs_get (List.getElem?_eq_getElem hiq)
    have hws := wrapS hi (by omega)
    have s1 := dotK_sz (a := fzs p) (b := fzs q) (B := B) (by omega) (fun x hx => by obtain ⟨y, hy, rfl⟩ := List.mem_map.1 hx; exact hp y hy) (fun x hx => by obtain ⟨y, hy, rfl⟩ := List.mem_map.1 hx; exact hq y hy) hB i (by omega)
    have s2 : i * (2 * B + 1) ≤ p.length * (2 * B + 1) := Nat.mul_le_mul_right _ (by omega)
    have s3 := sz_mul (p[i]'hi) (q[i]'hiq)
    have s4 := hp _ (List.getElem_mem hi)
    have s5 := hq _ (List.getElem_mem hiq)
    have c1 := ref09_mulQ (T := T) (p[i]'hi) (q[i]'hiq) (by omega) (by omega)
    have c2 := ref09_addQ (T := T) (dotK (fzs p) (fzs q) i) (p[i]'hi * q[i]'hiq) (by omega) (by omega)
    have e := dotK_succ (a := fzs p) (b := fzs q) (by omega) (i := i) (by omega)
    have e2 : dotK (fzs p) (fzs q) (i + 1) = dotK (fzs p) (fzs q) i + p[i]'hi * q[i]'hiq := by rw [e]; simp [fzs]
    rw [← e2] at c2
    unfold stD1
    clear e e2 s1 s2 s3 s4 s5 hBB hp hq hB2
    generalize fz (dotK (fzs p) (fzs q) i) = z at *
    generalize fz (dotK (fzs p) (fzs q) (i + 1)) = z' at *
    generalize fz (p[i]'hi * q[i]'hiq) = w at *
    generalize fz (p[i]'hi) = x at *
    generalize fz (q[i]'hiq) = y at *
    generalize fzs p = A at *
    generalize fzs q = B at *
    have hA : i < A.length := by omega
    have hB : i < B.length := by omega
    have hA' : (i : Int) < A.length := by omega
    have hB' : (i : Int) < B.length := by omega
    clear la lb
    obtain ⟨_, gA⟩ := List.getElem?_eq_some_iff.1 hga
    obtain ⟨_, gB⟩ := List.getElem?_eq_some_iff.1 hgb
    simp -implicitDefEqProofs [l282_0, hA, hA', hB, hB', hga, hgb, gA, gB, hws, c1, c2]
  · have e1 : dotK (fzs p) (fzs q) p.length = dotQ (fzs p) (fzs q) := by unfold dotK; rw [List.take_of_length_le (by omega), List.take_of_length_le (by omega)]
    unfold stD1
    rw [e1]
    generalize fz (dotQ (fzs p) (fzs q)) = z at *
    generalize fzs p = A at *
    rw [← la]
    constructor <;> simp -implicitDefEqProofs [l282_0]
theorem ref11_dot (p q : List Rat) (hpq : p.length = q.length) {B : Nat} (hp : ∀ x ∈ p, sz x ≤ B) (hq : ∀ x ∈ q, sz x ≤ B) (hB : 1 ≤ B) (hB2 : p.length * (2 * B + 1) + 1 ≤ 1000) :
    callF T 282 [.sl (rowF (fzs p)) .an, .sl (rowF (fzs q)) .an] = some (efz (fz (dotQ (fzs p) (fzs q)))) := by
  have h := dot1_loop (T := T) p q hpq hp hq hB hB2
  have h0 := ref09_int0 (T := T)
  unfold stD1 at h
  have e0 : dotK (fzs p) (fzs q) 0 = 0 := rfl
  rw [e0] at h
  simp only [Int.natCast_zero] at h
  rw [f282 _ rfl, b282]
  generalize fz (dotQ (fzs p) (fzs q)) = z at *
  generalize fz 0 = z0 at *
  clear e0 hB2 hp hq
  simp -implicitDefEqProofs [h0, h]
def longB (l : List Fz) (many words : Nat) : Bool := decide (many < l.length) || l.any fun x => decide (words < fsz x)
def stL1 (l : List Fz) (many words : Nat) (i : Nat) : St := ⟨[(0, .sl (rowF l) .an), (1, .i .i64 many), (2, .i .i64 words), (7, .i .i64 i)], [], 2⟩
theorem long1_loop (l : List Fz) (many words : Nat) (hl : l.length ≤ many) (hm : many ≤ 1000) :
    loopN T 0 0 (.norm false [0, 1]) l286_0 (stL1 l many words 0) = if (l.drop 0).any (fun x => decide (words < fsz x)) = true then some (.r, ⟨[(6, .b true)], [], 2⟩) else some (.n, ⟨[(0, .sl (rowF l) .an), (1, .i .i64 many)], [], 2⟩) := by
  refine until_loop (stL1 l many words) l.length (fun i => if (l.drop i).any (fun x => decide (words < fsz x)) = true then some (.r, ⟨[(6, .b true)], [], 2⟩) else some (.n, ⟨[(0, .sl (rowF l) .an), (1, .i .i64 many)], [], 2⟩)) (fun i hi => ?_) ?_
  · have hga : l[i]? = some (l[i]'hi) := List.getElem?_eq_getElem hi
    have hws := wrapS hi (by omega)
    have c := ref09_long (T := T) (l[i]'hi) words
    have h3 : (i : Int) < many := by omega
    have h4 : i < many := by omega
    have key : (l.drop i).any (fun x => decide (words < fsz x)) = (decide (words < fsz (l[i]'hi)) || (l.drop (i + 1)).any fun x => decide (words < fsz x)) := by
      rw [List.drop_eq_getElem_cons hi, List.any_cons]
    by_cases he : words < fsz (l[i]'hi)
    · right
      rw [if_pos (by rw [key, decide_eq_true he, Bool.true_or])]
      rw [decide_eq_true he] at c
      unfold stL1
      clear key he
      constructor <;> simp -implicitDefEqProofs [l286_0, hi, h3, h4, hga, hws, c]
    · left
      refine ⟨?_, by simp only [key, decide_eq_false he, Bool.false_or]⟩
      rw [decide_eq_false he] at c
      unfold stL1
      clear key he
      simp -implicitDefEqProofs [l286_0, hi, h3, h4, hga, hws, c]
  · rw [List.drop_length, if_neg (by simp)]
    unfold stL1
    constructor <;> simp -implicitDefEqProofs [l286_0]
theorem ref11_long (l : List Fz) (many words : Nat) (hl : l.length ≤ many) (hm : many ≤ 1000) : callF T 286 [.sl (rowF l) .an, .i .i64 many, .i .i64 words] = some (.b (longB l many words)) := by
  have h := long1_loop (T := T) l many words hl hm
  rw [List.drop_zero] at h
  unfold stL1 at h
  simp only [Int.natCast_zero] at h
  have h1 : ¬ (many : Int) < l.length := by omega
  have h2 : ¬ many < l.length := by omega
  unfold longB
  rw [f286 _ rfl, b286]
  cases hc : l.any fun x => decide (words < fsz x) with
  | true =>
    rw [hc, if_pos rfl] at h
    simp -implicitDefEqProofs [h, h2]
  | false =>
    rw [hc, if_neg (by decide)] at h
    simp -implicitDefEqProofs [h, h1, h2]
theorem long2_loop (l : List Fz) (many words : Nat) (hl : many < l.length) (hm : many ≤ 1000) :
    ∃ r, (r = some (.r, (⟨[(6, .b true)], [], 2⟩ : St)) ∨ r = some (.n, ⟨[(0, .sl (rowF l) .an), (1, .i .i64 many)], [], 2⟩)) ∧ loopN T 0 0 (.norm false [0, 1]) l286_0 (stL1 l many words 0) = r := by
  obtain ⟨G, hG⟩ : ∃ G : Nat → Option (Ex × St), G = fun i => if ((l.take many).drop i).any (fun x => decide (words < fsz x)) = true then some (.r, ⟨[(6, .b true)], [], 2⟩) else some (.n, ⟨[(0, .sl (rowF l) .an), (1, .i .i64 many)], [], 2⟩) := ⟨_, rfl⟩
  refine ⟨G 0, ?_, until_loop (stL1 l many words) many G (fun i hi => ?_) ?_⟩
  · rw [hG]
    simp only
    split
    · exact .inl rfl
    · exact .inr rfl
  · have hil : i < l.length := by omega
    have hil' : (i : Int) < l.length := by omega
    have hga : l[i]? = some (l[i]'hil) := List.getElem?_eq_getElem hil
    have hws := wrapS hi (by omega)
    have c := ref09_long (T := T) (l[i]'hil) words
    have key : ((l.take many).drop i).any (fun x => decide (words < fsz x)) = (decide (words < fsz (l[i]'hil)) || ((l.take many).drop (i + 1)).any fun x => decide (words < fsz x)) := by
      rw [List.drop_eq_getElem_cons (show i < (l.take many).length by simp; omega), List.any_cons, List.getElem_take]
    by_cases he : words < fsz (l[i]'hil)
    · right
      rw [hG]
      simp only
      rw [if_pos (by rw [key, decide_eq_true he, Bool.true_or])]
      rw [decide_eq_true he] at c
      unfold stL1
      clear key he hG
      constructor <;> simp -implicitDefEqProofs [l286_0, hi, hil, hil', hga, hws, c]
    · left
      refine ⟨?_, by rw [hG]; simp only [key, decide_eq_false he, Bool.false_or]⟩
      rw [decide_eq_false he] at c
      unfold stL1
      clear key he hG
      simp -implicitDefEqProofs [l286_0, hi, hil, hil', hga, hws, c]
  · rw [hG]
    simp only
    rw [List.drop_of_length_le (by simp; omega), if_neg (by simp)]
    have h1 : (many : Int) < l.length := by omega
    unfold stL1
    constructor <;> simp -implicitDefEqProofs [l286_0, h1, hl]
theorem ref11_long2 (l : List Fz) (many words : Nat) (hl : many < l.length) (hm : many ≤ 1000) : callF T 286 [.sl (rowF l) .an, .i .i64 many, .i .i64 words] = some (.b true) := by
  obtain ⟨r, hr, h⟩ := long2_loop (T := T) l many words hl hm
  unfold stL1 at h
  simp only [Int.natCast_zero] at h
  have h1 : (many : Int) < l.length := by omega
  rw [f286 _ rfl, b286]
  rcases hr with rfl | rfl
  · simp -implicitDefEqProofs [h]
  · simp -implicitDefEqProofs [h, hl]
theorem ref11_longB (l : List Fz) (many words : Nat) (hm : many ≤ 1000) : callF T 286 [.sl (rowF l) .an, .i .i64 many, .i .i64 words] = some (.b (longB l many words)) := by
  by_cases h : many < l.length
  · rw [ref11_long2 l many words h hm]
    unfold longB
    rw [decide_eq_true h, Bool.true_or]
  · exact ref11_long l many words (by omega) hm
theorem longB_false {l : List Fz} {many words : Nat} (h : longB l many words = false) : l.length ≤ many ∧ ∀ x ∈ l, fsz x ≤ words := by
  unfold longB at h
  simp only [Bool.or_eq_false_iff, decide_eq_false_iff_not, List.any_eq_false, decide_eq_true_eq] at h
  exact ⟨by omega, fun x hx => by have := h.2 x hx; omega⟩
end
end Go.Ab
end

section
namespace Go.Ab
theorem matF_push {m : List (List Fz)} {n : Nat} (h : m.length = n) (r : List Fz) : wkL (matF (List.take n m) ++ [[.sl (rowF r) .an]]) = matF (m ++ [r]) := by
  rw [List.take_of_length_le (by omega), matF_snoc, matF_wk]
theorem take_succ {α : Type} (l : List α) {i : Nat} (h : i < l.length) : l.take (i + 1) = l.take i ++ [l[i]'h] := List.take_succ_eq_append_getElem h
section
variable {T : Tbl} [CRef02 T] [CRef04 T] [CRef05 T] [CRef07 T] [CRef06 T] [CRef08 T] [CRef09 T] [CRef11 T] [CLaw09 T] [CLaw11 T]
theorem law09_to (x : Fz) : callF T 248 [efz x] = some (efz x) := by
  rw [f248 _ rfl, b248]
  simp -implicitDefEqProofs
theorem law09_of (x : Fz) : callF T 249 [efz x] = some (efz x) := by
  rw [f249 _ rfl, b249]
  simp -implicitDefEqProofs
def stTo11 (l : List Fz) (i : Nat) : St := ⟨[(0, .sl (rowF l) .an), (3, .bs (.loc 3) 1 3 0 i), (4, .i .i64 i)], [((.loc 3), ⟨1, .own, 3, rowF (l.take i)⟩)], 3⟩
theorem to11_loop (l : List Fz) (hl : l.length ≤ 1000000) :
    loopN T 0 0 (.norm false [3]) l287_0 (stTo11 l 0) = some (.n, ⟨[(3, .bs (.loc 3) 1 3 0 (l.length))], [((.loc 3), ⟨1, .own, 3, rowF (l.take (l.length))⟩)], 3⟩) := by
  refine range_loop (stTo11 l) (l.length) _ (fun i hi => ?_) ?_
  · have hws := wrapS hi (by omega)
    have hb : i ≤ 4294967295 := by omega
    have hg : l[i]? = some (l[i]'hi) := List.getElem?_eq_getElem hi
    have hn := law09_to (T := T) (l[i]'hi)
    have e := take_succ l hi
    have hml : (l.take i).length = i := by simp; omega
    have hp := rowF_push hml (l[i]'hi)
    unfold stTo11
    rw [e]
    clear e
    generalize l.take i = M at *
    simp -implicitDefEqProofs [l287_0, hi, hws, hb, hp, hml, hg, hn]
  · unfold stTo11
    rw [List.take_of_length_le (Nat.le_refl _)]
    constructor <;> simp -implicitDefEqProofs [l287_0]
theorem law11_to (l : List Fz) (hl : l.length ≤ 1000000) : callF T 287 [.sl (rowF l) .an] = some (.sl (rowF l) .an) := by
  have h := to11_loop (T := T) l hl
  unfold stTo11 at h
  rw [List.take_zero, List.take_of_length_le (Nat.le_refl _)] at h
  simp only [rowF_nil, Int.natCast_zero] at h
  have ht : List.take l.length l = l := List.take_of_length_le (Nat.le_refl _)
  rw [f287 _ rfl, b287]
  simp -implicitDefEqProofs [h, ht]
def stOf11 (l : List Fz) (i : Nat) : St := ⟨[(0, .sl (rowF l) .an), (3, .bs (.loc 3) 1 3 0 i), (4, .i .i64 i)], [((.loc 3), ⟨1, .own, 3, rowF (l.take i)⟩)], 3⟩
theorem of11_loop (l : List Fz) (hl : l.length ≤ 1000000) :
    loopN T 0 0 (.norm false [3]) l288_0 (stOf11 l 0) = some (.n, ⟨[(3, .bs (.loc 3) 1 3 0 (l.length))], [((.loc 3), ⟨1, .own, 3, rowF (l.take (l.length))⟩)], 3⟩) := by
  refine range_loop (stOf11 l) (l.length) _ (fun i hi => ?_) ?_
  · have hws := wrapS hi (by omega)
    have hb : i ≤ 4294967295 := by omega
    have hg : l[i]? = some (l[i]'hi) := List.getElem?_eq_getElem hi
    have hn := law09_of (T := T) (l[i]'hi)
    have e := take_succ l hi
    have hml : (l.take i).length = i := by simp; omega
    have hp := rowF_push hml (l[i]'hi)
    unfold stOf11
    rw [e]
    clear e
    generalize l.take i = M at *
    simp -implicitDefEqProofs [l288_0, hi, hws, hb, hp, hml, hg, hn]
  · unfold stOf11
    rw [List.take_of_length_le (Nat.le_refl _)]
    constructor <;> simp -implicitDefEqProofs [l288_0]
theorem law11_of (l : List Fz) (hl : l.length ≤ 1000000) : callF T 288 [.sl (rowF l) .an] = some (.sl (rowF l) .an) := by
  have h := of11_loop (T := T) l hl
  unfold stOf11 at h
  rw [List.take_zero, List.take_of_length_le (Nat.le_refl _)] at h
  simp only [rowF_nil, Int.natCast_zero] at h
  have ht : List.take l.length l = l := List.take_of_length_le (Nat.le_refl _)
  rw [f288 _ rfl, b288]
  simp -implicitDefEqProofs [h, ht]
theorem law11_is (a b : List Fz) (hl : a.length ≤ 1000) (ha : ∀ x ∈ a, fsz x ≤ 10000) : callF T 289 [.sl (rowF a) .an, .sl (rowF b) .an] = some (.b (decide (a = b))) := by
  have h1 := law11_of (T := T) a (by omega)
  have h2 := ref11_same (T := T) a b hl ha
  rw [f289 _ rfl, b289]
  simp -implicitDefEqProofs [h1, h2]
end
end Go.Ab
end

section
namespace Go.Ab
def widthM : List (List Fz) → Nat
  | [] => 0
  | r :: _ => r.length
def rightM (m : List (List Fz)) : Bool := m.all fun r => decide (r.length = widthM m)
theorem rightM_len {m : List (List Fz)} (h : rightM m = true) : ∀ r ∈ m, r.length = widthM m := by
  intro r hr
  simpa using List.all_eq_true.1 h r hr
def colM (m : List (List Fz)) (j : Nat) : List Fz := m.map fun r => r.getD j (false, [], [])
def turnM (m : List (List Fz)) (k : Nat) : List (List Fz) := (List.range k).map fun j => nrm (colM m j)
def scM (r : List Fz) (m : List (List Fz)) : List (List Fz) := List.zipWith (fun x row => scl (fv x) row) r m
def sumM : List (List Fz) → List Rat
  | [] => []
  | r :: m => m.foldl addP (r.map fv)
def leftQ (r : List Fz) (m : List (List Fz)) : List Rat := sumM (scM r m)
def applyQ (m : List (List Fz)) (c : List Fz) : List Rat := m.map fun r => dotQ r c
section
variable {T : Tbl} [CNat T] [CProd T] [CTwos T] [CQuot T] [CQuotD T] [CText T] [CWhole T] [CCommon T] [CFrac T] [CJoin T] [CRow T] [CGrid T]
theorem grid_width (m : List (List Fz)) : callF T 290 [.sl (matF m) .an] = some (.i .i64 (widthM m)) := by
  rw [f290 _ rfl, b290]
  cases m with
  | nil => simp -implicitDefEqProofs [widthM]
  | cons r m =>
    have e1 : (matF (r :: m))[0]? = some [.sl (rowF r) .an] := rfl
    have e2 : (matF (r :: m)).length = m.length + 1 := by simp
    have e3 : ¬ (m.length : Int) + 1 = 0 := by omega
    unfold widthM
    generalize matF (r :: m) = R at *
    obtain ⟨_, e4⟩ := List.getElem?_eq_some_iff.1 e1
    simp -implicitDefEqProofs [e1, e2, e3, e4]
def stGrR (m : List (List Fz)) (i : Nat) : St := ⟨[(0, .sl (matF m) .an), (5, .sl (matF m) .an), (6, .i .i64 m.length), (7, .i .i64 i)], [], 2⟩
theorem gright_loop (m : List (List Fz)) (hl : m.length ≤ 1000000) :
    loopN T 0 0 (.norm false []) l291_0 (stGrR m 0) = if (m.drop 0).all (fun r => decide (r.length = widthM m)) = true then some (.n, ⟨[], [], 2⟩) else some (.r, ⟨[(2, .b false)], [], 2⟩) := by
  refine until_loop (stGrR m) m.length (fun i => if (m.drop i).all (fun r => decide (r.length = widthM m)) = true then some (.n, ⟨[], [], 2⟩) else some (.r, ⟨[(2, .b false)], [], 2⟩)) (fun i hi => ?_) ?_
  · have hg : m[i]? = some (m[i]'hi) := List.getElem?_eq_getElem hi
    have hws := wrapS hi (by omega)
    have hc := grid_width (T := T) m
    have key : (m.drop i).all (fun r => decide (r.length = widthM m)) = (decide ((m[i]'hi).length = widthM m) && (m.drop (i + 1)).all fun r => decide (r.length = widthM m)) := by
      rw [List.drop_eq_getElem_cons hi, List.all_cons]
    by_cases he : (m[i]'hi).length = widthM m
    · left
      refine ⟨?_, by simp only [key, decide_eq_true he, Bool.true_and]⟩
      have he' : ((m[i]'hi).length : Int) = widthM m := by omega
      unfold stGrR
      clear key
      simp -implicitDefEqProofs [l291_0, hi, hg, hws, hc, he, he']
    · right
      rw [if_neg (by rw [key, decide_eq_false he]; simp)]
      have he' : ¬ ((m[i]'hi).length : Int) = widthM m := by omega
      unfold stGrR
      clear key
      constructor <;> simp -implicitDefEqProofs [l291_0, hi, hg, hws, hc, he, he']
  · rw [List.drop_length, if_pos (by simp)]
    unfold stGrR
    constructor <;> simp -implicitDefEqProofs [l291_0]
theorem grid_right (m : List (List Fz)) (hl : m.length ≤ 1000000) : callF T 291 [.sl (matF m) .an] = some (.b (rightM m)) := by
  have h := gright_loop (T := T) m hl
  rw [List.drop_zero] at h
  unfold stGrR at h
  simp only [Int.natCast_zero] at h
  rw [f291 _ rfl, b291]
  unfold rightM
  cases hc : m.all fun r => decide (r.length = widthM m) with
  | true =>
    rw [hc, if_pos rfl] at h
    simp -implicitDefEqProofs [h]
  | false =>
    rw [hc, if_neg (by decide)] at h
    simp -implicitDefEqProofs [h]
def stGrS (a b : List (List Fz)) (i : Nat) : St := ⟨[(1, .sl (matF b) .an), (12, .sl (matF a) .an), (13, .i .i64 a.length), (14, .i .i64 i)], [], 2⟩
theorem gsame_loop (a b : List (List Fz)) (hab : a.length = b.length) (hl : a.length ≤ 1000) (hr : ∀ r ∈ a, r.length ≤ 1000) (ha : ∀ r ∈ a, ∀ x ∈ r, fsz x ≤ 1000) (hb : ∀ r ∈ b, ∀ x ∈ r, fsz x ≤ 1000) :
    loopN T 0 0 (.norm false []) l293_0 (stGrS a b 0) = if (a.drop 0).map (·.map fv) = (b.drop 0).map (·.map fv) then some (.n, ⟨[], [], 2⟩) else some (.r, ⟨[(4, .b false)], [], 2⟩) := by
  refine until_loop (stGrS a b) a.length (fun i => if (a.drop i).map (·.map fv) = (b.drop i).map (·.map fv) then some (.n, ⟨[], [], 2⟩) else some (.r, ⟨[(4, .b false)], [], 2⟩)) (fun i hi => ?_) ?_
  · have hga : a[i]? = some (a[i]'hi) := List.getElem?_eq_getElem hi
    have hib : i < b.length := by omega
    have hgb : b[i]? = some (b[i]'hib) := List.getElem?_eq_getElem hib
    have hws := wrapS hi (by omega)
    have c := row_same (T := T) (a[i]'hi) (b[i]'hib) (hr _ (List.getElem_mem hi)) (ha _ (List.getElem_mem hi)) (hb _ (List.getElem_mem hib))
    have hib' : (i : Int) < b.length := by omega
    have key : ((a.drop i).map (·.map fv) = (b.drop i).map (·.map fv)) ↔ ((a[i]'hi).map fv = (b[i]'hib).map fv ∧ (a.drop (i + 1)).map (·.map fv) = (b.drop (i + 1)).map (·.map fv)) := by
      rw [List.drop_eq_getElem_cons hi, List.drop_eq_getElem_cons hib, List.map_cons, List.map_cons, List.cons.injEq]
    by_cases he : (a[i]'hi).map fv = (b[i]'hib).map fv
    · left
      refine ⟨?_, by simp only [key, he, true_and]⟩
      rw [decide_eq_true he] at c
      unfold stGrS
      clear key he ha hb hr
      simp -implicitDefEqProofs [l293_0, hi, hga, hgb, hws, c, hib, hib']
    · right
      rw [if_neg (fun h => he (key.1 h).1)]
      rw [decide_eq_false he] at c
      unfold stGrS
      clear key he ha hb hr
      constructor <;> simp -implicitDefEqProofs [l293_0, hi, hga, hgb, hws, c, hib, hib']
  · rw [List.drop_length, if_pos (by rw [hab, List.drop_length])]
    unfold stGrS
    constructor <;> simp -implicitDefEqProofs [l293_0]
theorem grid_same (a b : List (List Fz)) (hl : a.length ≤ 1000) (hr : ∀ r ∈ a, r.length ≤ 1000) (ha : ∀ r ∈ a, ∀ x ∈ r, fsz x ≤ 1000) (hb : ∀ r ∈ b, ∀ x ∈ r, fsz x ≤ 1000) :
    callF T 293 [.sl (matF a) .an, .sl (matF b) .an] = some (.b (decide (a.map (·.map fv) = b.map (·.map fv)))) := by
  rw [f293 _ rfl, b293]
  by_cases hab : a.length = b.length
  · have h := gsame_loop (T := T) a b hab hl hr ha hb
    rw [List.drop_zero, List.drop_zero] at h
    unfold stGrS at h
    simp only [Int.natCast_zero] at h
    have hab' : (b.length : Int) = a.length := by omega
    by_cases he : a.map (·.map fv) = b.map (·.map fv)
    · rw [if_pos he] at h
      simp -implicitDefEqProofs [hab', h, he]
    · rw [if_neg he] at h
      simp -implicitDefEqProofs [hab', h, he]
  · have he : ¬ a.map (·.map fv) = b.map (·.map fv) := fun h => hab (by simpa using congrArg List.length h)
    have hab' : ¬ (a.length : Int) = b.length := by omega
    simp -implicitDefEqProofs [hab, hab', he]
def idQ (k : Nat) (i : Nat) : List (List Fz) := (List.range i).map fun j => fzs ((List.replicate k 0).set j 1)
theorem idQ_succ (k i : Nat) : idQ k (i + 1) = idQ k i ++ [fzs ((List.replicate k 0).set i 1)] := by unfold idQ; rw [List.range_succ, List.map_append]; rfl
def stGrI (k : Nat) (i : Nat) : St := ⟨[(0, .i .i64 k), (3, .bs (.loc 3) 1 1 0 i), (8, .i .i64 k), (9, .i .i64 i)], [((.loc 3), ⟨1, .own, 1, matF (idQ k i)⟩)], 3⟩
theorem gident_loop (k : Nat) (hk : k ≤ 6) :
    loopN T 0 0 (.norm false [3]) l292_0 (stGrI k 0) = some (.n, ⟨[(3, .bs (.loc 3) 1 1 0 (k))], [((.loc 3), ⟨1, .own, 1, matF (idQ k (k))⟩)], 3⟩) := by
  refine range_loop (stGrI k) (k) _ (fun i hi => ?_) ?_
  · have hws := wrapS hi (by omega)
    have hb : i ≤ 4294967295 := by omega
    have hn := row_unit (T := T) k i (by omega) hi
    have e := idQ_succ k i
    have hml : (idQ k i).length = i := by simp [idQ]
    have hp := matF_push hml (fzs ((List.replicate k 0).set i 1))
    unfold stGrI
    rw [e]
    clear e
    generalize idQ k i = M at *
    generalize fzs ((List.replicate k 0).set i 1) = w at *
    simp -implicitDefEqProofs [l292_0, hi, hws, hb, hp, hml, hn]
  · unfold stGrI
    constructor <;> simp -implicitDefEqProofs [l292_0]
theorem grid_ident (n : Int) (k : Nat) (hk : (k : Int) = min (max n 0) 6) : callF T 292 [.i .i64 n] = some (.sl (matF (idQ k k)) .an) := by
  have h := gident_loop (T := T) k (by omega)
  unfold stGrI at h
  rw [show idQ k 0 = [] from rfl] at h
  simp only [matF_nil, Int.natCast_zero] at h
  have hml : (idQ k k).length = k := by simp [idQ]
  have ht : List.take k (idQ k k) = idQ k k := List.take_of_length_le (by omega)
  have m2 : (if (6 : Int) < (if n < 0 then 0 else n) then (6 : Int) else (if n < 0 then 0 else n)) = (k : Int) := by split <;> split at * <;> omega
  rw [f292 _ rfl, b292]
  generalize idQ k k = M at *
  simp -implicitDefEqProofs [mm2, m2, h, ht, hml]
theorem colM_succ (m : List (List Fz)) (j : Nat) {i : Nat} (hi : i < m.length) (hj : j < (m[i]'hi).length) : nrm (colM (m.take (i + 1)) j) = nrm (colM (m.take i) j) ++ [fz (fv ((m[i]'hi)[j]'hj))] := by
  unfold nrm colM
  rw [take_succ m hi, List.map_append, List.map_append]
  simp [List.getD, List.getElem?_eq_getElem hj]
theorem turnM_succ (m : List (List Fz)) (j : Nat) : turnM m (j + 1) = turnM m j ++ [nrm (colM m j)] := by unfold turnM; rw [List.range_succ, List.map_append]; rfl
def stGrT (m R : List (List Fz)) (k j : Nat) (i : Nat) : St := ⟨[(0, .sl (matF m) .an), (3, .bs (.loc 3) 1 1 0 j), (4, .i .i64 j), (5, .bs (.loc 5) 2 3 0 i), (12, .i .i64 k), (13, .i .i64 j), (16, .sl (matF m) .an), (17, .i .i64 m.length), (18, .i .i64 i)], [(.loc 3, ⟨1, .own, 1, matF R⟩), ((.loc 5), ⟨2, .own, 3, rowF (nrm (colM (m.take i) j))⟩)], 4⟩
theorem ti_loop (m R : List (List Fz)) (k j : Nat) (hl : m.length ≤ 1000) (hw : ∀ r ∈ m, j < r.length) (hs : ∀ r ∈ m, ∀ x ∈ r, fsz x ≤ 1000) :
    loopN T 0 2 (.norm false [0, 3, 5, 12, 13]) l294_0 (stGrT m R k j 0) = some (.n, ⟨[(0, .sl (matF m) .an), (3, .bs (.loc 3) 1 1 0 j), (5, .bs (.loc 5) 2 3 0 m.length), (12, .i .i64 k), (13, .i .i64 j)], [(.loc 3, ⟨1, .own, 1, matF R⟩), (.loc 5, ⟨2, .own, 3, rowF (nrm (colM m j))⟩)], 4⟩) := by
  refine range_loop (stGrT m R k j) (m.length) _ (fun i hi => ?_) ?_
  · have hws := wrapS hi (by omega)
    have hb : i ≤ 4294967295 := by omega
    have hg : m[i]? = some (m[i]'hi) := List.getElem?_eq_getElem hi
    have hj := hw _ (List.getElem_mem hi)
    have hgj : (m[i]'hi)[j]? = some ((m[i]'hi)[j]'hj) := List.getElem?_eq_getElem hj
    have hj' : (j : Int) < (m[i]'hi).length := by omega
    have hn := frac_norm (T := T) ((m[i]'hi)[j]'hj) (Nat.le_trans (hs _ (List.getElem_mem hi) _ (List.getElem_mem hj)) (by decide))
    have e := colM_succ m j hi hj
    have hml : (nrm (colM (m.take i) j)).length = i := by simp [nrm, colM]; omega
    have hp := rowF_push hml (fz (fv ((m[i]'hi)[j]'hj)))
    unfold stGrT
    rw [e]
    clear e
    generalize nrm (colM (m.take i) j) = M at *
    generalize fz (fv ((m[i]'hi)[j]'hj)) = z at *
    clear hw hs
    simp -implicitDefEqProofs [l294_0, hi, hws, hb, hp, hml, hg, hj, hj', hgj, hn]
  · unfold stGrT
    rw [List.take_of_length_le (Nat.le_refl m.length)]
    generalize nrm (colM m j) = M
    constructor <;> simp -implicitDefEqProofs [l294_0]
def stTo12t (m : List (List Fz)) (k : Nat) (i : Nat) : St := ⟨[(0, .sl (matF m) .an), (3, .bs (.loc 3) 1 1 0 i), (12, .i .i64 k), (13, .i .i64 i)], [((.loc 3), ⟨1, .own, 1, matF (turnM m i)⟩)], 3⟩
theorem to12t_loop (m : List (List Fz)) (k : Nat) (hk : k ≤ 1000) (hl : m.length ≤ 1000) (hw : ∀ r ∈ m, k ≤ r.length) (hs : ∀ r ∈ m, ∀ x ∈ r, fsz x ≤ 1000) :
    loopN T 0 0 (.norm false [3]) l294_1 (stTo12t m k 0) = some (.n, ⟨[(3, .bs (.loc 3) 1 1 0 (k))], [((.loc 3), ⟨1, .own, 1, matF (turnM m (k))⟩)], 3⟩) := by
  refine range_loop (stTo12t m k) (k) _ (fun i hi => ?_) ?_
  · have hws := wrapS hi (by omega)
    have hb : i ≤ 4294967295 := by omega
    have hin := ti_loop (T := T) m (turnM m i) k i hl (fun r hr => by have := hw r hr; omega) hs
    have e := turnM_succ m i
    have hml : (turnM m i).length = i := by simp [turnM]
    have hp := matF_push hml (nrm (colM m i))
    have hcl : (nrm (colM m i)).length = m.length := by simp [nrm, colM]
    have ht : List.take m.length (nrm (colM m i)) = nrm (colM m i) := List.take_of_length_le (by omega)
    unfold stGrT at hin
    rw [show nrm (colM (m.take 0) i) = [] from rfl] at hin
    simp only [rowF_nil, Int.natCast_zero] at hin
    unfold stTo12t
    rw [e]
    clear e
    generalize turnM m i = M at *
    generalize nrm (colM m i) = w at *
    clear hw hs
    simp -implicitDefEqProofs [l294_1, hi, hws, hb, hp, hml, hin, hcl, ht]
  · unfold stTo12t
    constructor <;> simp -implicitDefEqProofs [l294_1]
theorem grid_turn (m : List (List Fz)) (hl : m.length ≤ 1000) (hk : widthM m ≤ 1000) (hs : ∀ r ∈ m, ∀ x ∈ r, fsz x ≤ 1000) : callF T 294 [.sl (matF m) .an] = some (.sl (matF (if rightM m then turnM m (widthM m) else [])) .an) := by
  have hr := grid_right (T := T) m (by omega)
  have hwd := grid_width (T := T) m
  rw [f294 _ rfl, b294]
  cases hc : rightM m with
  | false =>
    rw [hc] at hr
    simp -implicitDefEqProofs [hr]
  | true =>
    rw [hc] at hr
    have h := to12t_loop (T := T) m (widthM m) hk hl (fun r hr => by rw [rightM_len hc r hr]; exact Nat.le_refl _) hs
    unfold stTo12t at h
    rw [show turnM m 0 = [] from rfl] at h
    simp only [matF_nil, Int.natCast_zero] at h
    have hml : (turnM m (widthM m)).length = widthM m := by simp [turnM]
    have ht : List.take (widthM m) (turnM m (widthM m)) = turnM m (widthM m) := List.take_of_length_le (by omega)
    rw [if_pos rfl]
    generalize turnM m (widthM m) = M at *
    generalize widthM m = k at *
    simp -implicitDefEqProofs [hr, hwd, h, ht, hml]
end
end Go.Ab
end

section
namespace Go.Ab
theorem scl_length (c : Rat) (l : List Fz) : (scl c l).length = l.length := by simp [scl]
theorem scl_sz {c : Rat} {l : List Fz} {B C : Nat} (hc : sz c ≤ B) (hl : ∀ x ∈ l, fsz x ≤ C) (hC : 1 ≤ C) : ∀ x ∈ scl c l, fsz x ≤ B + C := by
  intro x hx
  obtain ⟨y, hy, rfl⟩ := List.mem_map.1 hx
  rw [fsz_fz]
  have h1 := sz_mul c (fv y)
  have h2 := sz_fv (hl y hy) hC
  omega
theorem scM_succ (r : List Fz) (m : List (List Fz)) {i : Nat} (hr : i < r.length) (hm : i < m.length) : scM (r.take (i + 1)) (m.take (i + 1)) = scM (r.take i) (m.take i) ++ [scl (fv (r[i]'hr)) (m[i]'hm)] := by
  unfold scM
  rw [take_succ r hr, take_succ m hm, List.zipWith_append (by simp; omega)]
  rfl
theorem scM_mem {r : List Fz} {m : List (List Fz)} {w : List Fz} (h : w ∈ scM r m) : ∃ x ∈ r, ∃ row ∈ m, w = scl (fv x) row := by
  obtain ⟨i, hi, rfl⟩ := List.getElem_of_mem h
  simp only [scM, List.length_zipWith] at hi
  exact ⟨_, List.getElem_mem (show i < r.length by omega), _, List.getElem_mem (show i < m.length by omega), by simp [scM]⟩
section
variable {T : Tbl} [CNat T] [CProd T] [CTwos T] [CQuot T] [CQuotD T] [CText T] [CWhole T] [CCommon T] [CFrac T] [CJoin T] [CRow T] [CGrid T]
theorem row_add_nil : callF T 267 [.sl (matF []) .an] = some (.tup [.sl [] .an, .b true]) := by
  rw [f267 _ rfl, b267]
  simp -implicitDefEqProofs
def stGrL (r : List Fz) (m : List (List Fz)) (i : Nat) : St := ⟨[(0, .sl (rowF r) .an), (6, .bs (.loc 6) 1 1 0 i), (19, .sl (matF m) .an), (20, .i .i64 m.length), (21, .i .i64 i)], [((.loc 6), ⟨1, .own, 1, matF (scM (r.take i) (m.take i))⟩)], 3⟩
theorem grl_loop (r : List Fz) (m : List (List Fz)) (hrm : r.length = m.length) (hl : m.length ≤ 1000) (hw : ∀ row ∈ m, row.length ≤ 1000) (h1 : ∀ x ∈ r, fsz x ≤ 1000) (h2 : ∀ row ∈ m, ∀ x ∈ row, fsz x ≤ 1000) :
    loopN T 0 0 (.norm false [6]) l295_0 (stGrL r m 0) = some (.n, ⟨[(6, .bs (.loc 6) 1 1 0 m.length)], [(.loc 6, ⟨1, .own, 1, matF (scM r m)⟩)], 3⟩) := by
  refine range_loop (stGrL r m) (m.length) _ (fun i hi => ?_) ?_
  · have hws := wrapS hi (by omega)
    have hb : i ≤ 4294967295 := by omega
    have hir : i < r.length := by omega
    have hir' : (i : Int) < r.length := by omega
    have hg : m[i]? = some (m[i]'hi) := List.getElem?_eq_getElem hi
    have hgr : r[i]? = some (r[i]'hir) := List.getElem?_eq_getElem hir
    have hn := row_scale (T := T) (r[i]'hir) (h1 _ (List.getElem_mem hir)) (m[i]'hi) (hw _ (List.getElem_mem hi)) (h2 _ (List.getElem_mem hi))
    have e := scM_succ r m hir hi
    have hml : (scM (r.take i) (m.take i)).length = i := by simp [scM]; omega
    have hp := matF_push hml (scl (fv (r[i]'hir)) (m[i]'hi))
    unfold stGrL
    rw [e]
    clear e
    generalize scM (r.take i) (m.take i) = M at *
    generalize scl (fv (r[i]'hir)) (m[i]'hi) = w at *
    clear h1 h2 hw
    simp -implicitDefEqProofs [l295_0, hi, hws, hb, hp, hml, hg, hgr, hir, hir', hn]
  · unfold stGrL
    rw [List.take_of_length_le (Nat.le_refl m.length), List.take_of_length_le (by omega)]
    generalize scM r m = M
    constructor <;> simp -implicitDefEqProofs [l295_0]
theorem grid_left (r : List Fz) (m : List (List Fz)) {B C : Nat} (hl : m.length ≤ 1000) (hw : widthM m ≤ 1000) (h1 : ∀ x ∈ r, fsz x ≤ B) (h2 : ∀ row ∈ m, ∀ x ∈ row, fsz x ≤ C) (hB : 1 ≤ B) (hC : 1 ≤ C)
    (hS : (B + C) + m.length * (B + C + 1) ≤ 1000) :
    callF T 295 [.sl (rowF r) .an, .sl (matF m) .an] = some (.tup (if r.length = m.length ∧ rightM m = true then [.sl (rowF (fzs (leftQ r m))) .an, .b true] else [.sl [] .an, .b false])) := by
  have hr := grid_right (T := T) m (by omega)
  rw [f295 _ rfl, b295]
  by_cases hrm : r.length = m.length
  · have hrm' : (r.length : Int) = m.length := by omega
    cases hc : rightM m with
    | false =>
      rw [hc] at hr
      rw [if_neg (by simp)]
      clear hS
      simp -implicitDefEqProofs [hr, hrm, hrm']
    | true =>
      rw [hc] at hr
      rw [if_pos ⟨hrm, rfl⟩]
      have hlen := rightM_len hc
      have h := grl_loop (T := T) r m hrm hl (fun row hrow => by rw [hlen row hrow]; exact hw) (fun x hx => by have := h1 x hx; omega) (fun row hrow x hx => by have := h2 row hrow x hx; omega)
      unfold stGrL at h
      rw [show scM (r.take 0) (m.take 0) = [] from rfl] at h
      simp only [matF_nil, Int.natCast_zero] at h
      have hml : (scM r m).length = m.length := by simp [scM]; omega
      have ht : List.take m.length (scM r m) = scM r m := List.take_of_length_le (by omega)
      have hadd : callF T 267 [.sl (matF (scM r m)) .an] = some (.tup [.sl (rowF (fzs (leftQ r m))) .an, .b true]) := by
        unfold leftQ
        have hall : ∀ w ∈ scM r m, w.length = widthM m ∧ ∀ x ∈ w, fsz x ≤ B + C := by
          intro w hw2
          obtain ⟨x, hx, row, hrow, rfl⟩ := scM_mem hw2
          exact ⟨by rw [scl_length, hlen row hrow], scl_sz (sz_fv (h1 x hx) hB) (h2 row hrow) hC⟩
        cases hsc : scM r m with
        | nil => exact row_add_nil
        | cons r0 rest =>
          rw [hsc] at hall
          have hrl : rest.length + 1 = m.length := by rw [← hml, hsc]; rfl
          have hk : rest.length * (B + C + 1) ≤ m.length * (B + C + 1) := Nat.mul_le_mul_right _ (by omega)
          exact row_add (T := T) r0 rest (by rw [(hall r0 List.mem_cons_self).1]; exact hw) (by omega) (B := B + C) (hall r0 List.mem_cons_self).2 (fun w hw2 => (hall w (List.mem_cons_of_mem _ hw2)).2) (by omega) (by omega)
            (fun w hw2 => by rw [(hall w (List.mem_cons_of_mem _ hw2)).1, (hall r0 List.mem_cons_self).1])
      clear hS h1 h2 hlen
      generalize scM r m = M at *
      generalize fzs (leftQ r m) = R at *
      simp -implicitDefEqProofs [hr, hrm, hrm', h, ht, hml, hadd]
  · have hrm' : ¬ (r.length : Int) = m.length := by omega
    rw [if_neg (fun h => hrm h.1)]
    clear hS
    simp -implicitDefEqProofs [hrm, hrm']
theorem applyQ_succ (m : List (List Fz)) (c : List Fz) {i : Nat} (hi : i < m.length) : fzs (applyQ (m.take (i + 1)) c) = fzs (applyQ (m.take i) c) ++ [fz (dotQ (m[i]'hi) c)] := by
  unfold applyQ fzs
  rw [take_succ m hi, List.map_append, List.map_append]
  rfl
def stGrA (m : List (List Fz)) (c : List Fz) (i : Nat) : St := ⟨[(1, .sl (rowF c) .an), (6, .bs (.loc 6) 1 3 0 i), (21, .sl (matF m) .an), (22, .i .i64 m.length), (23, .i .i64 i)], [((.loc 6), ⟨1, .own, 3, rowF (fzs (applyQ (m.take i) c))⟩)], 3⟩
theorem gra_loop (m : List (List Fz)) (c : List Fz) {B : Nat} (hl : m.length ≤ 1000) (hw : ∀ row ∈ m, row.length = c.length) (h1 : ∀ x ∈ c, fsz x ≤ B) (h2 : ∀ row ∈ m, ∀ x ∈ row, fsz x ≤ B) (hB : 1 ≤ B) (hS : c.length * (2 * B + 1) + 1 ≤ 1000) :
    loopN T 0 0 (.norm false [6]) l296_0 (stGrA m c 0) = some (.n, ⟨[(6, .bs (.loc 6) 1 3 0 m.length)], [(.loc 6, ⟨1, .own, 3, rowF (fzs (applyQ m c))⟩)], 3⟩) := by
  refine range_loop (stGrA m c) (m.length) _ (fun i hi => ?_) ?_
  · have hws := wrapS hi (by omega)
    have hb : i ≤ 4294967295 := by omega
    have hg : m[i]? = some (m[i]'hi) := List.getElem?_eq_getElem hi
    have hlr := hw _ (List.getElem_mem hi)
    have hn := row_dot (T := T) (m[i]'hi) c (h2 _ (List.getElem_mem hi)) h1 hB (by rw [hlr]; exact hS)
    rw [if_pos hlr] at hn
    have e := applyQ_succ m c hi
    have hml : (fzs (applyQ (m.take i) c)).length = i := by simp [applyQ]; omega
    have hp := rowF_push hml (fz (dotQ (m[i]'hi) c))
    unfold stGrA
    rw [e]
    clear e
    generalize fzs (applyQ (m.take i) c) = M at *
    generalize fz (dotQ (m[i]'hi) c) = w at *
    clear h1 h2 hw hS
    simp -implicitDefEqProofs [l296_0, hi, hws, hb, hp, hml, hg, hn]
  · unfold stGrA
    rw [List.take_of_length_le (Nat.le_refl m.length)]
    generalize fzs (applyQ m c) = M
    constructor <;> simp -implicitDefEqProofs [l296_0]
theorem grid_apply (m : List (List Fz)) (c : List Fz) {B : Nat} (hl : m.length ≤ 1000) (h1 : ∀ x ∈ c, fsz x ≤ B) (h2 : ∀ row ∈ m, ∀ x ∈ row, fsz x ≤ B) (hB : 1 ≤ B) (hS : c.length * (2 * B + 1) + 1 ≤ 1000) :
    callF T 296 [.sl (matF m) .an, .sl (rowF c) .an] = some (.tup (if widthM m = c.length ∧ rightM m = true then [.sl (rowF (fzs (applyQ m c))) .an, .b true] else [.sl [] .an, .b false])) := by
  have hr := grid_right (T := T) m (by omega)
  have hwd := grid_width (T := T) m
  rw [f296 _ rfl, b296]
  by_cases hrm : widthM m = c.length
  · have hrm' : (widthM m : Int) = c.length := by omega
    cases hc : rightM m with
    | false =>
      rw [hc] at hr
      rw [if_neg (by simp)]
      clear hS
      simp -implicitDefEqProofs [hr, hwd, hrm, hrm']
    | true =>
      rw [hc] at hr
      rw [if_pos ⟨hrm, rfl⟩]
      have hlen := rightM_len hc
      have h := gra_loop (T := T) m c hl (fun row hrow => by rw [hlen row hrow]; exact hrm) h1 h2 hB hS
      unfold stGrA at h
      rw [show fzs (applyQ (m.take 0) c) = [] from rfl] at h
      simp only [rowF_nil, Int.natCast_zero] at h
      have hml : (fzs (applyQ m c)).length = m.length := by simp [applyQ]
      have ht : List.take m.length (fzs (applyQ m c)) = fzs (applyQ m c) := List.take_of_length_le (by omega)
      clear hS h1 h2 hlen
      generalize fzs (applyQ m c) = M at *
      generalize widthM m = k at *
      simp -implicitDefEqProofs [hr, hwd, hrm, hrm', h, ht, hml]
  · have hrm' : ¬ (widthM m : Int) = c.length := by omega
    rw [if_neg (fun h => hrm h.1)]
    clear hS
    generalize widthM m = k at *
    simp -implicitDefEqProofs [hwd, hrm, hrm']
def mulM (a b : List (List Fz)) : List (List Fz) := a.map fun r => fzs (leftQ r b)
theorem mulM_succ (a b : List (List Fz)) {i : Nat} (hi : i < a.length) : mulM (a.take (i + 1)) b = mulM (a.take i) b ++ [fzs (leftQ (a[i]'hi) b)] := take_map_succ a _ hi
def stGrM (a m : List (List Fz)) (i : Nat) : St := ⟨[(1, .sl (matF m) .an), (6, .bs (.loc 6) 1 1 0 i), (26, .sl (matF a) .an), (27, .i .i64 a.length), (28, .i .i64 i)], [((.loc 6), ⟨1, .own, 1, matF (mulM (a.take i) m)⟩)], 3⟩
theorem grm_loop (a m : List (List Fz)) {B C : Nat} (hla : a.length ≤ 1000) (hl : m.length ≤ 1000) (hw : widthM m ≤ 1000) (h1 : ∀ row ∈ a, ∀ x ∈ row, fsz x ≤ B) (h2 : ∀ row ∈ m, ∀ x ∈ row, fsz x ≤ C) (hB : 1 ≤ B) (hC : 1 ≤ C) (hS : (B + C) + m.length * (B + C + 1) ≤ 1000) (hra : ∀ r ∈ a, r.length = m.length) (hrm : rightM m = true) :
    loopN T 0 0 (.norm false [6]) l297_0 (stGrM a m 0) = some (.n, ⟨[(6, .bs (.loc 6) 1 1 0 a.length)], [(.loc 6, ⟨1, .own, 1, matF (mulM a m)⟩)], 3⟩) := by
  refine range_loop (stGrM a m) (a.length) _ (fun i hi => ?_) ?_
  · have hws := wrapS hi (by omega)
    have hb : i ≤ 4294967295 := by omega
    have hg : a[i]? = some (a[i]'hi) := List.getElem?_eq_getElem hi
    have hlr := hra _ (List.getElem_mem hi)
    have hn := grid_left (T := T) (a[i]'hi) m hl hw (h1 _ (List.getElem_mem hi)) h2 hB hC hS
    rw [if_pos ⟨hlr, hrm⟩] at hn
    have e := mulM_succ a m hi
    have hml : (mulM (a.take i) m).length = i := by simp [mulM]; omega
    have hp := matF_push hml (fzs (leftQ (a[i]'hi) m))
    unfold stGrM
    rw [e]
    clear e
    generalize mulM (a.take i) m = M at *
    generalize fzs (leftQ (a[i]'hi) m) = w at *
    clear h1 h2 hra hS
    simp -implicitDefEqProofs [l297_0, hi, hws, hb, hp, hml, hg, hn]
  · unfold stGrM
    rw [List.take_of_length_le (Nat.le_refl a.length)]
    generalize mulM a m = M
    constructor <;> simp -implicitDefEqProofs [l297_0]
theorem grid_mul (a m : List (List Fz)) {B C : Nat} (hla : a.length ≤ 1000) (hl : m.length ≤ 1000) (hw : widthM m ≤ 1000) (h1 : ∀ row ∈ a, ∀ x ∈ row, fsz x ≤ B) (h2 : ∀ row ∈ m, ∀ x ∈ row, fsz x ≤ C) (hB : 1 ≤ B) (hC : 1 ≤ C)
    (hS : (B + C) + m.length * (B + C + 1) ≤ 1000) :
    callF T 297 [.sl (matF a) .an, .sl (matF m) .an] = some (.tup (if rightM a = true ∧ rightM m = true ∧ widthM a = m.length then [.sl (matF (mulM a m)) .an, .b true] else [.sl [] .an, .b false])) := by
  have hr := grid_right (T := T) m (by omega)
  have hra := grid_right (T := T) a (by omega)
  have hwd := grid_width (T := T) a
  rw [f297 _ rfl, b297]
  cases ha : rightM a with
  | false =>
    rw [ha] at hra
    rw [if_neg (by simp)]
    clear hS
    simp -implicitDefEqProofs [hra]
  | true =>
    rw [ha] at hra
    cases hm : rightM m with
    | false =>
      rw [hm] at hr
      rw [if_neg (by simp)]
      clear hS
      simp -implicitDefEqProofs [hra, hr]
    | true =>
      rw [hm] at hr
      by_cases hk : widthM a = m.length
      · have hk' : (widthM a : Int) = m.length := by omega
        rw [if_pos ⟨rfl, rfl, hk⟩]
        have hlen := rightM_len ha
        have h := grm_loop (T := T) a m hla hl hw h1 h2 hB hC hS (fun r hr2 => by rw [hlen r hr2]; exact hk) hm
        unfold stGrM at h
        rw [show mulM (a.take 0) m = [] from rfl] at h
        simp only [matF_nil, Int.natCast_zero] at h
        have hml : (mulM a m).length = a.length := by simp [mulM]
        have ht : List.take a.length (mulM a m) = mulM a m := List.take_of_length_le (by omega)
        clear hS h1 h2 hlen
        generalize mulM a m = M at *
        generalize widthM a = k at *
        simp -implicitDefEqProofs [hra, hr, hwd, hk, hk', h, ht, hml]
      · have hk' : ¬ (widthM a : Int) = m.length := by omega
        rw [if_neg (fun h => hk h.2.2)]
        clear hS
        generalize widthM a = k at *
        simp -implicitDefEqProofs [hra, hr, hwd, hk, hk']
def addM (a b : List (List Fz)) : List (List Fz) := List.zipWith (fun r s => fzs (addP (r.map fv) s)) a b
theorem addM_succ (a b : List (List Fz)) {i : Nat} (hi : i < a.length) (hb : i < b.length) : addM (a.take (i + 1)) (b.take (i + 1)) = addM (a.take i) (b.take i) ++ [fzs (addP ((a[i]'hi).map fv) (b[i]'hb))] := by
  unfold addM
  rw [take_succ a hi, take_succ b hb, List.zipWith_append (by simp; omega)]
  rfl
theorem two_rows (r s : List Fz) : matF [r, s] = [[.sl (rowF r) .an], [.sl (rowF s) .an]] := rfl
def stGrP (a m : List (List Fz)) (i : Nat) : St := ⟨[(1, .sl (matF m) .an), (6, .bs (.loc 6) 1 1 0 i), (33, .sl (matF a) .an), (34, .i .i64 a.length), (35, .i .i64 i)], [((.loc 6), ⟨1, .own, 1, matF (addM (a.take i) (m.take i))⟩)], 3⟩
theorem grp_loop (a m : List (List Fz)) {B : Nat} (hla : a.length ≤ 1000) (hl : a.length = m.length) (hw : ∀ r ∈ a, r.length = widthM a) (hw2 : ∀ r ∈ m, r.length = widthM a) (hk : widthM a ≤ 1000) (h1 : ∀ row ∈ a, ∀ x ∈ row, fsz x ≤ B) (h2 : ∀ row ∈ m, ∀ x ∈ row, fsz x ≤ B) (hB : 1 ≤ B) (hS : 2 * B + 1 ≤ 1000) :
    loopN T 0 0 (.norm false [6]) l298_0 (stGrP a m 0) = some (.n, ⟨[(6, .bs (.loc 6) 1 1 0 a.length)], [(.loc 6, ⟨1, .own, 1, matF (addM a m)⟩)], 3⟩) := by
  refine range_loop (stGrP a m) (a.length) _ (fun i hi => ?_) ?_
  · have hws := wrapS hi (by omega)
    have hb : i ≤ 4294967295 := by omega
    have him : i < m.length := by omega
    have him' : (i : Int) < m.length := by omega
    have hg : a[i]? = some (a[i]'hi) := List.getElem?_eq_getElem hi
    have hgm : m[i]? = some (m[i]'him) := List.getElem?_eq_getElem him
    have hlr := hw _ (List.getElem_mem hi)
    have hls := hw2 _ (List.getElem_mem him)
    have hn := row_add (T := T) (a[i]'hi) [m[i]'him] (by omega) (by simp) (B := B) (h1 _ (List.getElem_mem hi)) (fun r hr => by rw [List.mem_singleton.1 hr]; exact h2 _ (List.getElem_mem him)) hB (by simp; omega) (fun r hr => by rw [List.mem_singleton.1 hr]; omega)
    rw [List.foldl_cons, List.foldl_nil, two_rows] at hn
    have e := addM_succ a m hi him
    have hml : (addM (a.take i) (m.take i)).length = i := by simp [addM]; omega
    have hp := matF_push hml (fzs (addP ((a[i]'hi).map fv) (m[i]'him)))
    unfold stGrP
    rw [e]
    clear e
    generalize addM (a.take i) (m.take i) = M at *
    generalize fzs (addP ((a[i]'hi).map fv) (m[i]'him)) = w at *
    clear h1 h2 hw hw2 hS
    simp -implicitDefEqProofs [l298_0, hi, hws, hb, hp, hml, hg, hgm, him, him', hn]
  · unfold stGrP
    rw [List.take_of_length_le (Nat.le_refl a.length), List.take_of_length_le (by omega)]
    generalize addM a m = M
    constructor <;> simp -implicitDefEqProofs [l298_0]
theorem grid_add (a m : List (List Fz)) {B : Nat} (hla : a.length ≤ 1000) (hl : m.length ≤ 1000) (hk : widthM a ≤ 1000) (h1 : ∀ row ∈ a, ∀ x ∈ row, fsz x ≤ B) (h2 : ∀ row ∈ m, ∀ x ∈ row, fsz x ≤ B) (hB : 1 ≤ B) (hS : 2 * B + 1 ≤ 1000) :
    callF T 298 [.sl (matF a) .an, .sl (matF m) .an] = some (.tup (if rightM a = true ∧ rightM m = true ∧ a.length = m.length ∧ widthM a = widthM m then [.sl (matF (addM a m)) .an, .b true] else [.sl [] .an, .b false])) := by
  have hr := grid_right (T := T) m (by omega)
  have hra := grid_right (T := T) a (by omega)
  have hwd := grid_width (T := T) a
  have hwm := grid_width (T := T) m
  rw [f298 _ rfl, b298]
  cases ha : rightM a with
  | false =>
    rw [ha] at hra
    rw [if_neg (by simp)]
    clear hS
    simp -implicitDefEqProofs [hra]
  | true =>
    rw [ha] at hra
    cases hm : rightM m with
    | false =>
      rw [hm] at hr
      rw [if_neg (by simp)]
      clear hS
      simp -implicitDefEqProofs [hra, hr]
    | true =>
      rw [hm] at hr
      by_cases hlen : a.length = m.length
      · have hlen' : (a.length : Int) = m.length := by omega
        by_cases hww : widthM a = widthM m
        · have hww' : (widthM a : Int) = widthM m := by omega
          rw [if_pos ⟨rfl, rfl, hlen, hww⟩]
          have h := grp_loop (T := T) a m hla hlen (rightM_len ha) (fun r hr2 => by rw [hww]; exact rightM_len hm r hr2) hk h1 h2 hB hS
          unfold stGrP at h
          rw [show addM (a.take 0) (m.take 0) = [] from rfl] at h
          simp only [matF_nil, Int.natCast_zero] at h
          have hml : (addM a m).length = m.length := by simp [addM]; omega
          have ht : List.take m.length (addM a m) = addM a m := List.take_of_length_le (by omega)
          rw [hlen] at h
          clear hS h1 h2
          generalize addM a m = M at *
          generalize widthM a = k at *
          generalize widthM m = k2 at *
          subst hww
          simp -implicitDefEqProofs [hra, hr, hwd, hwm, hlen, hlen', h, ht, hml]
        · have hww' : ¬ (widthM a : Int) = widthM m := by omega
          rw [if_neg (fun h => hww h.2.2.2)]
          clear hS
          generalize widthM a = k at *
          generalize widthM m = k2 at *
          simp -implicitDefEqProofs [hra, hr, hwd, hwm, hlen, hlen', hww, hww']
      · have hlen' : ¬ (a.length : Int) = m.length := by omega
        rw [if_neg (fun h => hlen h.2.2.1)]
        clear hS
        simp -implicitDefEqProofs [hra, hr, hlen, hlen']
end
end Go.Ab
end

section
namespace Go.Ab
def dotR : List Rat → List Rat → Rat
  | x :: a, y :: b => x * y + dotR a b
  | _, _ => 0
theorem dotQ_R : ∀ (a b : List Fz), dotQ a b = dotR (a.map fv) (b.map fv)
  | [], _ => by simp [dotQ, dotR]
  | _ :: _, [] => by simp [dotQ, dotR]
  | x :: a, y :: b => by simp [dotQ, dotR, dotQ_R a b]
def valM (m : List (List Fz)) : List (List Rat) := m.map fun r => r.map fv
def fzM (L : List (List Rat)) : List (List Fz) := L.map fzs
@[simp] theorem fzM_length (L : List (List Rat)) : (fzM L).length = L.length := by simp [fzM]
@[simp] theorem valM_length (m : List (List Fz)) : (valM m).length = m.length := by simp [valM]
@[simp] theorem valM_fzM (L : List (List Rat)) : valM (fzM L) = L := by
  unfold valM fzM
  rw [List.map_map]
  simp [Function.comp_def]
theorem fzM_valM (m : List (List Fz)) : fzM (valM m) = m.map nrm := by
  unfold valM fzM
  rw [List.map_map]
  exact List.map_congr_left fun r _ => (fzs_nrm r).symm
def widthQ : List (List Rat) → Nat
  | [] => 0
  | r :: _ => r.length
theorem widthQ_val (m : List (List Fz)) : widthQ (valM m) = widthM m := by
  cases m with
  | nil => rfl
  | cons r m => simp [valM, widthQ, widthM]
theorem widthM_fzM (L : List (List Rat)) : widthM (fzM L) = widthQ L := by
  cases L with
  | nil => rfl
  | cons r m => simp [fzM, widthQ, widthM]
def rightQ (L : List (List Rat)) : Bool := L.all fun r => decide (r.length = widthQ L)
theorem rightQ_val (m : List (List Fz)) : rightQ (valM m) = rightM m := by
  unfold rightQ rightM
  rw [widthQ_val]
  unfold valM
  rw [List.all_map]
  congr 1
  funext r
  simp
theorem rightQ_len {L : List (List Rat)} (h : rightQ L = true) : ∀ r ∈ L, r.length = widthQ L := by
  intro r hr
  simpa using List.all_eq_true.1 h r hr
def colQ (L : List (List Rat)) (j : Nat) : List Rat := L.map fun p => p.getD j 0
def turnQ (L : List (List Rat)) : List (List Rat) := (List.range (widthQ L)).map (colQ L)
def applyR (L : List (List Rat)) (c : List Rat) : List Rat := L.map fun p => dotR p c
def leftR (r : List Rat) (L : List (List Rat)) : List Rat := applyR (turnQ L) r
theorem applyQ_R (m : List (List Fz)) (c : List Fz) : applyQ m c = applyR (valM m) (c.map fv) := by
  unfold applyQ applyR valM
  rw [List.map_map]
  exact List.map_congr_left fun r _ => dotQ_R r c
theorem turnM_R {m : List (List Fz)} (h : rightM m = true) : turnM m (widthM m) = fzM (turnQ (valM m)) := by
  unfold turnM turnQ fzM
  rw [widthQ_val, List.map_map]
  refine List.map_congr_left fun j hj => ?_
  have hj' := List.mem_range.1 hj
  simp only [Function.comp]
  rw [fzs_nrm]
  congr 1
  unfold colM colQ valM
  rw [List.map_map, List.map_map]
  refine List.map_congr_left fun r hr => ?_
  have hl := rightM_len h r hr
  simp only [Function.comp, List.getD]
  rw [List.getElem?_map, List.getElem?_eq_getElem (show j < r.length by omega)]
  rfl
theorem sum_law (k : Nat) : ∀ (r : List Fz) (m : List (List Fz)) (acc : List Rat), (∀ row ∈ m, row.length = k) → acc.length = k → r.length = m.length →
    (scM r m).foldl addP acc = (List.range k).map fun j => acc.getD j 0 + dotR (colQ (valM m) j) (r.map fv)
  | [], [], acc, _, ha, _ => by
    simp only [scM, List.zipWith_nil_left, List.foldl_nil]
    apply List.ext_getElem (by simp [ha])
    intro i h1 h2
    simp [colQ, valM, dotR, Rat.add_zero, List.getD, List.getElem?_eq_getElem h1]
  | x :: r, row :: m, acc, hw, ha, hl => by
    have hrow := hw row List.mem_cons_self
    have e : scM (x :: r) (row :: m) = scl (fv x) row :: scM r m := rfl
    have hadd : (addP acc (scl (fv x) row)).length = k := by rw [addP_length (by rw [scl_length]; omega), ha]
    rw [e, List.foldl_cons, sum_law k r m _ (fun w h => hw w (List.mem_cons_of_mem _ h)) hadd (by simpa using hl)]
    refine List.map_congr_left fun j hj => ?_
    have hj' := List.mem_range.1 hj
    have ja : j < acc.length := by omega
    have jr : j < row.length := by omega
    have e1 : (addP acc (scl (fv x) row)).getD j 0 = acc.getD j 0 + fv x * fv (row[j]'jr) := by
      simp only [List.getD, addP, scl]
      rw [List.getElem?_eq_getElem (by simp; omega), List.getElem?_eq_getElem ja]
      simp
    have e2 : colQ (valM (row :: m)) j = fv (row[j]'jr) :: colQ (valM m) j := by
      simp [colQ, valM, List.getD, List.getElem?_eq_getElem jr]
    rw [e1, e2, List.map_cons]
    simp only [dotR]
    rw [Rat.mul_comm (fv (row[j]'jr)), Rat.add_assoc]
theorem leftQ_R {r : List Fz} {m : List (List Fz)} (hl : r.length = m.length) (h : rightM m = true) : leftQ r m = leftR (r.map fv) (valM m) := by
  unfold leftQ leftR
  cases m with
  | nil =>
    cases r with
    | nil => rfl
    | cons x r => simp at hl
  | cons row m =>
    cases r with
    | nil => simp at hl
    | cons x r =>
      have hw : ∀ w ∈ row :: m, w.length = row.length := fun w hw => rightM_len h w hw
      have e : scM (x :: r) (row :: m) = scl (fv x) row :: scM r m := rfl
      rw [e]
      simp only [sumM]
      rw [sum_law row.length r m _ (fun w hm => hw w (List.mem_cons_of_mem _ hm)) (by simp [scl_length]) (by simpa using hl)]
      unfold applyR turnQ
      rw [List.map_map, widthQ_val]
      refine List.map_congr_left fun j hj => ?_
      have jr := List.mem_range.1 hj
      have e2 : colQ (valM (row :: m)) j = fv (row[j]'jr) :: colQ (valM m) j := by
        simp [colQ, valM, List.getD, List.getElem?_eq_getElem jr]
      simp only [Function.comp]
      rw [e2, List.map_cons]
      simp only [dotR]
      congr 1
      simp [scl, List.getD, List.getElem?_eq_getElem jr, Rat.mul_comm]
end Go.Ab
end

section
namespace Go.Ab
section
variable {T : Tbl} [CRef02 T] [CRef04 T] [CRef05 T] [CRef07 T] [CRef06 T] [CRef08 T] [CRef09 T] [CRef11 T] [CRef12 T]
theorem ref12_width (m : List (List Fz)) : callF T 299 [.sl (matF m) .an] = some (.i .i64 (widthM m)) := by
  rw [f299 _ rfl, b299]
  cases m with
  | nil => simp -implicitDefEqProofs [widthM]
  | cons r m =>
    have e1 : (matF (r :: m))[0]? = some [.sl (rowF r) .an] := rfl
    have e2 : (matF (r :: m)).length = m.length + 1 := by simp
    have e3 : ¬ (m.length : Int) + 1 = 0 := by omega
    unfold widthM
    generalize matF (r :: m) = R at *
    obtain ⟨_, e4⟩ := List.getElem?_eq_some_iff.1 e1
    simp -implicitDefEqProofs [e1, e2, e3, e4]
theorem width_zero {m : List (List Fz)} (h : 0 < m.length) : widthM m = (m[0]'h).length := by
  cases m with
  | nil => simp at h
  | cons r m => rfl
def stR12 (m : List (List Fz)) (i : Nat) : St := ⟨[(0, .sl (matF m) .an), (3, .i .i64 i)], [], 2⟩
theorem right12_loop (m : List (List Fz)) (hl : m.length ≤ 1000000) :
    loopN T 0 0 (.norm false []) l300_0 (stR12 m 0) = if (m.drop 0).all (fun r => decide (r.length = widthM m)) = true then some (.n, ⟨[], [], 2⟩) else some (.r, ⟨[(2, .b false)], [], 2⟩) := by
  refine until_loop (stR12 m) m.length (fun i => if (m.drop i).all (fun r => decide (r.length = widthM m)) = true then some (.n, ⟨[], [], 2⟩) else some (.r, ⟨[(2, .b false)], [], 2⟩)) (fun i hi => ?_) ?_
  · have hg : m[i]? = some (m[i]'hi) := List.getElem?_eq_getElem hi
    have h0 : 0 < m.length := by omega
    have hg0 : m[0]? = some (m[0]'h0) := List.getElem?_eq_getElem h0
    have hws := wrapS hi (by omega)
    have hz := width_zero h0
    have key : (m.drop i).all (fun r => decide (r.length = widthM m)) = (decide ((m[i]'hi).length = widthM m) && (m.drop (i + 1)).all fun r => decide (r.length = widthM m)) := by
      rw [List.drop_eq_getElem_cons hi, List.all_cons]
    by_cases he : (m[i]'hi).length = widthM m
    · left
      refine ⟨?_, by simp only [key, decide_eq_true he, Bool.true_and]⟩
      have he' : ((m[i]'hi).length : Int) = (m[0]'h0).length := by omega
      unfold stR12
      clear key he hz
      simp -implicitDefEqProofs [l300_0, hi, h0, hg, hg0, hws, he']
    · right
      rw [if_neg (by rw [key, decide_eq_false he]; simp)]
      have he' : ¬ ((m[i]'hi).length : Int) = (m[0]'h0).length := by omega
      have he2 : ¬ (m[i]'hi).length = (m[0]'h0).length := by omega
      unfold stR12
      clear key he hz
      constructor <;> simp -implicitDefEqProofs [l300_0, hi, h0, hg, hg0, hws, he', he2]
  · rw [List.drop_length, if_pos (by simp)]
    unfold stR12
    constructor <;> simp -implicitDefEqProofs [l300_0]
theorem ref12_right (m : List (List Fz)) (hl : m.length ≤ 1000000) : callF T 300 [.sl (matF m) .an] = some (.b (rightM m)) := by
  have h := right12_loop (T := T) m hl
  rw [List.drop_zero] at h
  unfold stR12 at h
  simp only [Int.natCast_zero] at h
  rw [f300 _ rfl, b300]
  unfold rightM
  cases hc : m.all fun r => decide (r.length = widthM m) with
  | true =>
    rw [hc, if_pos rfl] at h
    simp -implicitDefEqProofs [h]
  | false =>
    rw [hc, if_neg (by decide)] at h
    simp -implicitDefEqProofs [h]
def stN12 (m : List (List Fz)) (i : Nat) : St := ⟨[(0, .sl (matF m) .an), (3, .bs (.loc 3) 1 1 0 i), (4, .i .i64 i)], [((.loc 3), ⟨1, .own, 1, matF (fzM (valM (m.take i)))⟩)], 3⟩
theorem n12_loop (m : List (List Fz)) (hl : m.length ≤ 1000) (hw : ∀ r ∈ m, r.length ≤ 1000) (hs : ∀ r ∈ m, ∀ x ∈ r, fsz x ≤ 1000) :
    loopN T 0 0 (.norm false [3]) l301_0 (stN12 m 0) = some (.n, ⟨[(3, .bs (.loc 3) 1 1 0 m.length)], [(.loc 3, ⟨1, .own, 1, matF (fzM (valM m))⟩)], 3⟩) := by
  refine range_loop (stN12 m) (m.length) _ (fun i hi => ?_) ?_
  · have hws := wrapS hi (by omega)
    have hb : i ≤ 4294967295 := by omega
    have hg : m[i]? = some (m[i]'hi) := List.getElem?_eq_getElem hi
    have hn := ref11_norms (T := T) (m[i]'hi) (hw _ (List.getElem_mem hi)) (hs _ (List.getElem_mem hi))
    have e : fzM (valM (m.take (i + 1))) = fzM (valM (m.take i)) ++ [nrm (m[i]'hi)] := by rw [fzM_valM, fzM_valM]; exact take_map_succ m _ hi
    have hml : (fzM (valM (m.take i))).length = i := by simp; omega
    have hp := matF_push hml (nrm (m[i]'hi))
    unfold stN12
    rw [e]
    clear e
    generalize fzM (valM (m.take i)) = M at *
    generalize nrm (m[i]'hi) = w at *
    clear hw hs
    simp -implicitDefEqProofs [l301_0, hi, hws, hb, hp, hml, hg, hn]
  · unfold stN12
    rw [List.take_of_length_le (Nat.le_refl m.length)]
    generalize fzM (valM m) = M
    constructor <;> simp -implicitDefEqProofs [l301_0]
theorem ref12_norms (m : List (List Fz)) (hl : m.length ≤ 1000) (hw : ∀ r ∈ m, r.length ≤ 1000) (hs : ∀ r ∈ m, ∀ x ∈ r, fsz x ≤ 1000) : callF T 301 [.sl (matF m) .an] = some (.sl (matF (fzM (valM m))) .an) := by
  have h := n12_loop (T := T) m hl hw hs
  unfold stN12 at h
  rw [show fzM (valM (m.take 0)) = [] from rfl] at h
  simp only [matF_nil, Int.natCast_zero] at h
  have hml : (fzM (valM m)).length = m.length := by simp
  have ht : List.take m.length (fzM (valM m)) = fzM (valM m) := List.take_of_length_le (by omega)
  rw [f301 _ rfl, b301]
  generalize fzM (valM m) = M at *
  simp -implicitDefEqProofs [h, ht, hml]
def stS12 (a b : List (List Fz)) (i : Nat) : St := ⟨[(0, .sl (matF a) .an), (1, .sl (matF b) .an), (5, .i .i64 i)], [], 2⟩
def stI12 (n : Int) (k : Nat) (i : Nat) : St := ⟨[(0, .i .i64 n), (3, .bs (.loc 3) 1 1 0 i), (4, .i .i64 i)], [((.loc 3), ⟨1, .own, 1, matF (idQ k i)⟩)], 3⟩
theorem colQ_succ (L : List (List Rat)) (j : Nat) {i : Nat} (hi : i < L.length) (hj : j < (L[i]'hi).length) : fzs (colQ (L.take (i + 1)) j) = fzs (colQ (L.take i) j) ++ [fz ((L[i]'hi)[j]'hj)] := by
  unfold fzs colQ
  rw [take_succ L hi, List.map_append, List.map_append]
  simp [List.getD, List.getElem?_eq_getElem hj]
theorem fzM_get {L : List (List Rat)} {i : Nat} (h : i < L.length) : (fzM L)[i]? = some (fzs (L[i]'h)) := by
  unfold fzM
  rw [List.getElem?_map, List.getElem?_eq_getElem h]
  rfl
theorem turnQ_succ (L : List (List Rat)) (j : Nat) : fzM ((List.range (j + 1)).map (colQ L)) = fzM ((List.range j).map (colQ L)) ++ [fzs (colQ L j)] := by
  unfold fzM
  rw [List.range_succ, List.map_append, List.map_append]
  rfl
def stT12i (L : List (List Rat)) (R : List (List Fz)) (j : Nat) (i : Nat) : St := ⟨[(0, .sl (matF (fzM L)) .an), (3, .bs (.loc 3) 1 1 0 j), (4, .i .i64 j), (5, .bs (.loc 5) 2 3 0 i), (6, .i .i64 i)], [(.loc 3, ⟨1, .own, 1, matF R⟩), ((.loc 5), ⟨2, .own, 3, rowF (fzs (colQ (L.take i) j))⟩)], 4⟩
theorem t12i_loop (L : List (List Rat)) (R : List (List Fz)) (j : Nat) (hl : L.length ≤ 1000) (hw : ∀ r ∈ L, j < r.length) :
    loopN T 0 2 (.norm false [0, 3, 4, 5]) l304_0 (stT12i L R j 0) = some (.n, ⟨[(0, .sl (matF (fzM L)) .an), (3, .bs (.loc 3) 1 1 0 j), (4, .i .i64 j), (5, .bs (.loc 5) 2 3 0 L.length)], [(.loc 3, ⟨1, .own, 1, matF R⟩), (.loc 5, ⟨2, .own, 3, rowF (fzs (colQ L j))⟩)], 4⟩) := by
  refine range_loop (stT12i L R j) (L.length) _ (fun i hi => ?_) ?_
  · have hws := wrapS hi (by omega)
    have hb : i ≤ 4294967295 := by omega
    have hj := hw _ (List.getElem_mem hi)
    have hg := fzM_get hi
    have hgj := fzs_get (List.getElem?_eq_getElem hj)
    have hj2 : j < (fzs (L[i]'hi)).length := by simpa using hj
    have hj' : (j : Int) < (fzs (L[i]'hi)).length := by omega
    have e := colQ_succ L j hi hj
    have hml : (fzs (colQ (L.take i) j)).length = i := by simp [colQ]; omega
    have hp := rowF_push hml (fz ((L[i]'hi)[j]'hj))
    have hL : (fzM L).length = L.length := by simp
    obtain ⟨_, hgE⟩ := List.getElem?_eq_some_iff.1 hg
    obtain ⟨_, hgjE⟩ := List.getElem?_eq_some_iff.1 hgj
    have hi2 : i < (fzM L).length := by omega
    have hi3 : (i : Int) < (fzM L).length := by omega
    unfold stT12i
    rw [e]
    clear e
    generalize fzs (colQ (L.take i) j) = M at *
    generalize fz ((L[i]'hi)[j]'hj) = z at *
    clear hw hL
    generalize fzs (L[i]'hi) = w at *
    generalize fzM L = LL at *
    simp -implicitDefEqProofs [l304_0, hi, hws, hb, hp, hml, hg, hj2, hj', hgj, hgE, hgjE, hi2, hi3]
  · unfold stT12i
    rw [List.take_of_length_le (Nat.le_refl L.length)]
    have hL : (fzM L).length = L.length := by simp
    generalize fzs (colQ L j) = M
    generalize fzM L = LL at *
    rw [← hL]
    constructor <;> simp -implicitDefEqProofs [l304_0]
def stT12o (L : List (List Rat)) (i : Nat) : St := ⟨[(0, .sl (matF (fzM L)) .an), (3, .bs (.loc 3) 1 1 0 i), (4, .i .i64 i)], [((.loc 3), ⟨1, .own, 1, matF (fzM ((List.range i).map (colQ L)))⟩)], 3⟩
theorem t12o_loop (L : List (List Rat)) (hk : widthQ L ≤ 1000) (hl : L.length ≤ 1000) (hw : ∀ r ∈ L, r.length = widthQ L) :
    loopN T 0 0 (.norm false [3]) l304_1 (stT12o L 0) = some (.n, ⟨[(3, .bs (.loc 3) 1 1 0 (widthQ L))], [((.loc 3), ⟨1, .own, 1, matF (fzM ((List.range (widthQ L)).map (colQ L)))⟩)], 3⟩) := by
  refine range_loop (stT12o L) (widthQ L) _ (fun i hi => ?_) ?_
  · have hws := wrapS hi (by omega)
    have hb : i ≤ 4294967295 := by omega
    have hin := t12i_loop (T := T) L (fzM ((List.range i).map (colQ L))) i hl (fun r hr => by rw [hw r hr]; exact hi)
    have hwd := ref12_width (T := T) (fzM L)
    rw [widthM_fzM] at hwd
    have e := turnQ_succ L i
    have hml : (fzM ((List.range i).map (colQ L))).length = i := by simp
    have hp := matF_push hml (fzs (colQ L i))
    have hcl : (fzs (colQ L i)).length = L.length := by simp [colQ]
    have ht : List.take L.length (fzs (colQ L i)) = fzs (colQ L i) := List.take_of_length_le (by omega)
    unfold stT12i at hin
    rw [show fzs (colQ (L.take 0) i) = [] from rfl] at hin
    simp only [rowF_nil, Int.natCast_zero] at hin
    unfold stT12o
    rw [e]
    clear e
    generalize fzM ((List.range i).map (colQ L)) = M at *
    generalize fzs (colQ L i) = w at *
    clear hw
    simp -implicitDefEqProofs [l304_1, hi, hws, hb, hp, hml, hwd, hin, hcl, ht]
  · unfold stT12o
    have hwd := ref12_width (T := T) (fzM L)
    rw [widthM_fzM] at hwd
    generalize fzM ((List.range (widthQ L)).map (colQ L)) = M at *
    constructor <;> simp -implicitDefEqProofs [l304_1, hwd]
theorem ref12_turn (L : List (List Rat)) (hk : widthQ L ≤ 1000) (hl : L.length ≤ 1000) (hw : ∀ r ∈ L, r.length = widthQ L) : callF T 304 [.sl (matF (fzM L)) .an] = some (.sl (matF (fzM (turnQ L))) .an) := by
  have h := t12o_loop (T := T) L hk hl hw
  unfold stT12o at h
  rw [show fzM ((List.range 0).map (colQ L)) = [] from rfl] at h
  simp only [matF_nil, Int.natCast_zero] at h
  have hml : (fzM (turnQ L)).length = widthQ L := by simp [turnQ]
  have ht : List.take (widthQ L) (fzM (turnQ L)) = fzM (turnQ L) := List.take_of_length_le (by omega)
  change _ = some (_, (⟨[(3, .bs (.loc 3) 1 1 0 (widthQ L))], [(.loc 3, ⟨1, .own, 1, matF (fzM (turnQ L))⟩)], 3⟩ : St)) at h
  rw [f304 _ rfl, b304]
  generalize fzM (turnQ L) = M at *
  simp -implicitDefEqProofs [h, ht, hml]
theorem applyR_succ (L : List (List Rat)) (c : List Rat) {i : Nat} (hi : i < L.length) : fzs (applyR (L.take (i + 1)) c) = fzs (applyR (L.take i) c) ++ [fz (dotR (L[i]'hi) c)] := by
  unfold applyR fzs
  rw [take_succ L hi, List.map_append, List.map_append]
  rfl
def stA12 (L : List (List Rat)) (c : List Rat) (i : Nat) : St := ⟨[(0, .sl (matF (fzM L)) .an), (1, .sl (rowF (fzs c)) .an), (5, .bs (.loc 5) 1 3 0 i), (6, .i .i64 i)], [((.loc 5), ⟨1, .own, 3, rowF (fzs (applyR (L.take i) c))⟩)], 3⟩
theorem a12_loop (L : List (List Rat)) (c : List Rat) {B : Nat} (hl : L.length ≤ 1000) (hw : ∀ row ∈ L, row.length = c.length) (h1 : ∀ x ∈ c, sz x ≤ B) (h2 : ∀ row ∈ L, ∀ x ∈ row, sz x ≤ B) (hB : 1 ≤ B) (hS : c.length * (2 * B + 1) + 1 ≤ 1000) :
    loopN T 0 0 (.norm false [5]) l305_0 (stA12 L c 0) = some (.n, ⟨[(5, .bs (.loc 5) 1 3 0 L.length)], [(.loc 5, ⟨1, .own, 3, rowF (fzs (applyR L c))⟩)], 3⟩) := by
  refine range_loop (stA12 L c) (L.length) _ (fun i hi => ?_) ?_
  · have hws := wrapS hi (by omega)
    have hb : i ≤ 4294967295 := by omega
    have hg := fzM_get hi
    have hlr := hw _ (List.getElem_mem hi)
    have hn := ref11_dot (T := T) (L[i]'hi) c hlr (h2 _ (List.getElem_mem hi)) h1 hB (by rw [hlr]; exact hS)
    rw [dotQ_R, fv_fzs, fv_fzs] at hn
    have e := applyR_succ L c hi
    have hml : (fzs (applyR (L.take i) c)).length = i := by simp [applyR]; omega
    have hp := rowF_push hml (fz (dotR (L[i]'hi) c))
    have hL : (fzM L).length = L.length := by simp
    obtain ⟨_, hgE⟩ := List.getElem?_eq_some_iff.1 hg
    have hi2 : i < (fzM L).length := by omega
    have hi3 : (i : Int) < (fzM L).length := by omega
    unfold stA12
    rw [e]
    clear e
    generalize fzs (applyR (L.take i) c) = M at *
    generalize fz (dotR (L[i]'hi) c) = w at *
    clear h1 h2 hw hS hL
    generalize fzs (L[i]'hi) = v at *
    generalize fzs c = cc at *
    generalize fzM L = LL at *
    simp -implicitDefEqProofs [l305_0, hi, hws, hb, hp, hml, hg, hgE, hi2, hi3, hn]
  · unfold stA12
    rw [List.take_of_length_le (Nat.le_refl L.length)]
    have hL : (fzM L).length = L.length := by simp
    generalize fzs (applyR L c) = M
    generalize fzM L = LL at *
    rw [← hL]
    constructor <;> simp -implicitDefEqProofs [l305_0]
theorem ref12_apply (L : List (List Rat)) (c : List Rat) {B : Nat} (hl : L.length ≤ 1000) (hw : ∀ row ∈ L, row.length = c.length) (h1 : ∀ x ∈ c, sz x ≤ B) (h2 : ∀ row ∈ L, ∀ x ∈ row, sz x ≤ B) (hB : 1 ≤ B) (hS : c.length * (2 * B + 1) + 1 ≤ 1000) :
    callF T 305 [.sl (matF (fzM L)) .an, .sl (rowF (fzs c)) .an] = some (.sl (rowF (fzs (applyR L c))) .an) := by
  have h := a12_loop (T := T) L c hl hw h1 h2 hB hS
  unfold stA12 at h
  rw [show fzs (applyR (L.take 0) c) = [] from rfl] at h
  simp only [rowF_nil, Int.natCast_zero] at h
  have hml : (fzs (applyR L c)).length = L.length := by simp [applyR]
  have ht : List.take L.length (fzs (applyR L c)) = fzs (applyR L c) := List.take_of_length_le (by omega)
  clear hS h1 h2 hw
  rw [f305 _ rfl, b305]
  generalize fzs (applyR L c) = M at *
  simp -implicitDefEqProofs [h, ht, hml]
theorem turnQ_len {L : List (List Rat)} : ∀ w ∈ turnQ L, w.length = L.length := by
  intro w hw
  obtain ⟨j, _, rfl⟩ := List.mem_map.1 hw
  simp [colQ]
theorem turnQ_sz {L : List (List Rat)} {B : Nat} (hw : ∀ r ∈ L, r.length = widthQ L) (h : ∀ row ∈ L, ∀ x ∈ row, sz x ≤ B) : ∀ row ∈ turnQ L, ∀ x ∈ row, sz x ≤ B := by
  intro w hw2 x hx
  obtain ⟨j, hj, rfl⟩ := List.mem_map.1 hw2
  obtain ⟨r, hr, rfl⟩ := List.mem_map.1 hx
  have hj' := List.mem_range.1 hj
  have hl := hw r hr
  simp only [List.getD]
  rw [List.getElem?_eq_getElem (show j < r.length by omega)]
  exact h r hr _ (List.getElem_mem _)
theorem ref12_left (r : List Rat) (L : List (List Rat)) {B : Nat} (hk : widthQ L ≤ 1000) (hl : L.length ≤ 1000) (hw : ∀ row ∈ L, row.length = widthQ L) (hr : r.length = L.length) (h1 : ∀ x ∈ r, sz x ≤ B) (h2 : ∀ row ∈ L, ∀ x ∈ row, sz x ≤ B) (hB : 1 ≤ B) (hS : L.length * (2 * B + 1) + 1 ≤ 1000) :
    callF T 306 [.sl (rowF (fzs r)) .an, .sl (matF (fzM L)) .an] = some (.sl (rowF (fzs (leftR r L))) .an) := by
  have c1 := ref12_turn (T := T) L hk hl hw
  have c2 := ref12_apply (T := T) (turnQ L) r (B := B) (by simp [turnQ]; exact hk) (fun w hw2 => by rw [turnQ_len w hw2, hr]) h1 (turnQ_sz hw h2) hB (by rw [hr]; exact hS)
  rw [f306 _ rfl, b306]
  unfold leftR
  clear hS h1 h2 hw
  simp -implicitDefEqProofs [c1, c2]
def longM (m : List (List Fz)) (many words : Nat) : Bool := decide (many < m.length) || m.any fun r => longB r many words
def stL12 (m : List (List Fz)) (many words : Nat) (i : Nat) : St := ⟨[(0, .sl (matF m) .an), (1, .i .i64 many), (2, .i .i64 words), (7, .i .i64 i)], [], 2⟩
theorem long12_loop (m : List (List Fz)) (many words : Nat) (hm : many ≤ 1000) : ∃ r, (r = some (.r, (⟨[(6, .b true)], [], 2⟩ : St)) ∧ (m.any fun r => longB r many words) = true ∨ r = some (.n, ⟨[(0, .sl (matF m) .an), (1, .i .i64 many)], [], 2⟩) ∧ ((m.any fun r => longB r many words) = false ∨ many < m.length)) ∧
    loopN T 0 0 (.norm false [0, 1]) l307_0 (stL12 m many words 0) = r := by
  obtain ⟨G, hG⟩ : ∃ G : Nat → Option (Ex × St), G = fun i => if ((m.take many).drop i).any (fun r => longB r many words) = true then some (.r, ⟨[(6, .b true)], [], 2⟩) else some (.n, ⟨[(0, .sl (matF m) .an), (1, .i .i64 many)], [], 2⟩) := ⟨_, rfl⟩
  refine ⟨G 0, ?_, until_loop (stL12 m many words) (min many m.length) G (fun i hi => ?_) ?_⟩
  · rw [hG]
    simp only [List.drop_zero]
    split
    · rename_i h
      refine .inl ⟨rfl, ?_⟩
      obtain ⟨x, hx, hx2⟩ := List.any_eq_true.1 h
      exact List.any_eq_true.2 ⟨x, List.mem_of_mem_take hx, hx2⟩
    · rename_i h
      refine .inr ⟨rfl, ?_⟩
      by_cases hl : many < m.length
      · exact .inr hl
      · left
        rw [List.take_of_length_le (by omega)] at h
        simpa using h
  · have him : i < many := by omega
    have hil : i < m.length := by omega
    have hil' : (i : Int) < m.length := by omega
    have him' : (i : Int) < many := by omega
    have hga : m[i]? = some (m[i]'hil) := List.getElem?_eq_getElem hil
    have hws := wrapS him (by omega)
    have c := ref11_longB (T := T) (m[i]'hil) many words hm
    have key : ((m.take many).drop i).any (fun r => longB r many words) = (longB (m[i]'hil) many words || ((m.take many).drop (i + 1)).any fun r => longB r many words) := by
      rw [List.drop_eq_getElem_cons (show i < (m.take many).length by simp; omega), List.any_cons, List.getElem_take]
    cases he : longB (m[i]'hil) many words with
    | true =>
      right
      rw [hG]
      simp only
      rw [if_pos (by rw [key, he, Bool.true_or])]
      rw [he] at c
      unfold stL12
      clear key he hG
      constructor <;> simp -implicitDefEqProofs [l307_0, him, him', hil, hil', hga, hws, c]
    | false =>
      left
      refine ⟨?_, by rw [hG]; simp only [key, he, Bool.false_or]⟩
      rw [he] at c
      unfold stL12
      clear key he hG
      simp -implicitDefEqProofs [l307_0, him, him', hil, hil', hga, hws, c]
  · rw [hG]
    simp only
    rw [List.drop_of_length_le (by simp; try omega), if_neg (by simp)]
    by_cases hl : many < m.length
    · have h1 : (many : Int) < m.length := by omega
      rw [Nat.min_eq_left (by omega)]
      unfold stL12
      constructor <;> simp -implicitDefEqProofs [l307_0, h1, hl]
    · rw [Nat.min_eq_right (by omega)]
      unfold stL12
      constructor <;> simp -implicitDefEqProofs [l307_0]
theorem ref12_long (m : List (List Fz)) (many words : Nat) (hm : many ≤ 1000) : callF T 307 [.sl (matF m) .an, .i .i64 many, .i .i64 words] = some (.b (longM m many words)) := by
  obtain ⟨r, hr, h⟩ := long12_loop (T := T) m many words hm
  unfold stL12 at h
  simp only [Int.natCast_zero] at h
  unfold longM
  rw [f307 _ rfl, b307]
  rcases hr with ⟨rfl, ha⟩ | ⟨rfl, ha⟩
  · rw [ha, Bool.or_true]
    simp -implicitDefEqProofs [h]
  · by_cases hl : many < m.length
    · have h1 : (many : Int) < m.length := by omega
      rw [decide_eq_true hl, Bool.true_or]
      simp -implicitDefEqProofs [h, h1, hl]
    · have h1 : ¬ (many : Int) < m.length := by omega
      have hf : (m.any fun r => longB r many words) = false := ha.resolve_right hl
      rw [hf, decide_eq_false hl]
      simp -implicitDefEqProofs [h, h1, hl]
theorem longM_false {m : List (List Fz)} {many words : Nat} (h : longM m many words = false) : m.length ≤ many ∧ (∀ r ∈ m, r.length ≤ many) ∧ ∀ r ∈ m, ∀ x ∈ r, fsz x ≤ words := by
  unfold longM at h
  simp only [Bool.or_eq_false_iff, decide_eq_false_iff_not, List.any_eq_false] at h
  exact ⟨by omega, fun r hr => (longB_false (by simpa using h.2 r hr)).1, fun r hr => (longB_false (by simpa using h.2 r hr)).2⟩
end
end Go.Ab
end

section
namespace Go.Ab
theorem fzs_sz {l : List Rat} {B : Nat} (h : ∀ q ∈ l, sz q ≤ B) : ∀ x ∈ fzs l, fsz x ≤ B := by
  intro x hx
  obtain ⟨q, hq, rfl⟩ := List.mem_map.1 hx
  exact h q hq
theorem fzM_sz {L : List (List Rat)} {B : Nat} (h : ∀ r ∈ L, ∀ q ∈ r, sz q ≤ B) : ∀ r ∈ fzM L, ∀ x ∈ r, fsz x ≤ B := by
  intro r hr
  obtain ⟨l, hl, rfl⟩ := List.mem_map.1 hr
  exact fzs_sz (h l hl)
theorem fzM_rows {L : List (List Rat)} {k : Nat} (h : ∀ r ∈ L, r.length ≤ k) : ∀ r ∈ fzM L, r.length ≤ k := by
  intro r hr
  obtain ⟨l, hl, rfl⟩ := List.mem_map.1 hr
  rw [fzs_length]
  exact h l hl
theorem valM_sz {m : List (List Fz)} {B : Nat} (hB : 1 ≤ B) (h : ∀ r ∈ m, ∀ x ∈ r, fsz x ≤ B) : ∀ r ∈ valM m, ∀ q ∈ r, sz q ≤ B := by
  intro r hr q hq
  obtain ⟨l, hl, rfl⟩ := List.mem_map.1 hr
  obtain ⟨x, hx, rfl⟩ := List.mem_map.1 hq
  exact sz_fv (h l hl x hx) hB
theorem vals_sz {l : List Fz} {B : Nat} (hB : 1 ≤ B) (h : ∀ x ∈ l, fsz x ≤ B) : ∀ q ∈ l.map fv, sz q ≤ B := by
  intro q hq
  obtain ⟨x, hx, rfl⟩ := List.mem_map.1 hq
  exact sz_fv (h x hx) hB
theorem widthM_le {m : List (List Fz)} {k : Nat} (h : ∀ r ∈ m, r.length ≤ k) : widthM m ≤ k := by
  cases m with
  | nil => exact Nat.zero_le _
  | cons r m => exact h r List.mem_cons_self
theorem idQ_sz (k i : Nat) : ∀ r ∈ idQ k i, ∀ x ∈ r, fsz x ≤ 1 := by
  intro r hr
  obtain ⟨j, _, rfl⟩ := List.mem_map.1 hr
  refine fzs_sz fun q hq => ?_
  rcases List.mem_or_eq_of_mem_set hq with h | h
  · rw [List.eq_of_mem_replicate h, sz_zero]
    exact Nat.le_refl _
  · rw [h, sz_one]
    exact Nat.le_refl _
section
variable {T : Tbl} [CNat T] [CProd T] [CTwos T] [CQuot T] [CQuotD T] [CText T] [CWhole T] [CCommon T] [CFrac T] [CJoin T] [CRow T] [CGrid T] [CRef02 T] [CRef04 T] [CRef05 T] [CRef07 T] [CRef06 T] [CRef08 T] [CRef09 T] [CRef11 T] [CRef12 T] [CLaw09 T] [CLaw11 T] [CLaw12 T]
def stTo12 (m : List (List Fz)) (i : Nat) : St := ⟨[(0, .sl (matF m) .an), (3, .bs (.loc 3) 1 1 0 i), (4, .i .i64 i)], [((.loc 3), ⟨1, .own, 1, matF (m.take i)⟩)], 3⟩
theorem to12_loop (m : List (List Fz)) (hl : m.length ≤ 1000000) (hw : ∀ r ∈ m, r.length ≤ 1000000) :
    loopN T 0 0 (.norm false [3]) l308_0 (stTo12 m 0) = some (.n, ⟨[(3, .bs (.loc 3) 1 1 0 (m.length))], [((.loc 3), ⟨1, .own, 1, matF (m.take (m.length))⟩)], 3⟩) := by
  refine range_loop (stTo12 m) (m.length) _ (fun i hi => ?_) ?_
  · have hws := wrapS hi (by omega)
    have hb : i ≤ 4294967295 := by omega
    have hg : m[i]? = some (m[i]'hi) := List.getElem?_eq_getElem hi
    have hn := law11_to (T := T) (m[i]'hi) (hw _ (List.getElem_mem hi))
    have e := take_succ m hi
    have hml : (m.take i).length = i := by simp; omega
    have hp := matF_push hml (m[i]'hi)
    unfold stTo12
    rw [e]
    clear e
    clear hw
    simp -implicitDefEqProofs [l308_0, hi, hws, hb, hp, hml, hg, hn]
  · unfold stTo12
    rw [List.take_of_length_le (Nat.le_refl _)]
    constructor <;> simp -implicitDefEqProofs [l308_0]
theorem law12_to (m : List (List Fz)) (hl : m.length ≤ 1000000) (hw : ∀ r ∈ m, r.length ≤ 1000000) : callF T 308 [.sl (matF m) .an] = some (.sl (matF m) .an) := by
  have h := to12_loop (T := T) m hl hw
  unfold stTo12 at h
  rw [List.take_zero, List.take_of_length_le (Nat.le_refl _)] at h
  simp only [matF_nil, Int.natCast_zero] at h
  have ht : List.take m.length m = m := List.take_of_length_le (Nat.le_refl _)
  rw [f308 _ rfl, b308]
  clear hw
  simp -implicitDefEqProofs [h, ht]
def stI12s (a b : List (List Fz)) (i : Nat) : St := ⟨[(0, .sl (matF a) .an), (1, .sl (matF b) .an), (5, .i .i64 i)], [], 2⟩
theorem is12_loop (a b : List (List Fz)) (hab : a.length = b.length) (hl : a.length ≤ 1000) (hw : ∀ r ∈ a, r.length ≤ 1000) (ha : ∀ r ∈ a, ∀ x ∈ r, fsz x ≤ 10000) :
    loopN T 0 0 (.norm false []) l309_0 (stI12s a b 0) = if a.drop 0 = b.drop 0 then some (.n, ⟨[], [], 2⟩) else some (.r, ⟨[(4, .b false)], [], 2⟩) := by
  refine until_loop (stI12s a b) a.length (fun i => if a.drop i = b.drop i then some (.n, ⟨[], [], 2⟩) else some (.r, ⟨[(4, .b false)], [], 2⟩)) (fun i hi => ?_) ?_
  · have hga : a[i]? = some (a[i]'hi) := List.getElem?_eq_getElem hi
    have hib : i < b.length := by omega
    have hgb : b[i]? = some (b[i]'hib) := List.getElem?_eq_getElem hib
    have hws := wrapS hi (by omega)
    have c := law11_is (T := T) (a[i]'hi) (b[i]'hib) (hw _ (List.getElem_mem hi)) (ha _ (List.getElem_mem hi))
    have hib' : (i : Int) < b.length := by omega
    have key : (a.drop i = b.drop i) ↔ ((a[i]'hi) = (b[i]'hib) ∧ a.drop (i + 1) = b.drop (i + 1)) := by
      rw [List.drop_eq_getElem_cons hi, List.drop_eq_getElem_cons hib, List.cons.injEq]
    by_cases he : (a[i]'hi) = (b[i]'hib)
    · left
      refine ⟨?_, by simp only [key, he, true_and]⟩
      unfold stI12s
      rw [decide_eq_true he] at c
      clear he key ha hw
      simp -implicitDefEqProofs [l309_0, hi, hga, hgb, hws, c, hib, hib']
    · right
      rw [if_neg (fun h => he (key.1 h).1)]
      unfold stI12s
      rw [decide_eq_false he] at c
      clear he key ha hw
      constructor <;> simp -implicitDefEqProofs [l309_0, hi, hga, hgb, hws, c, hib, hib']
  · rw [List.drop_length, if_pos (by rw [hab, List.drop_length])]
    unfold stI12s
    constructor <;> simp -implicitDefEqProofs [l309_0]
theorem law12_is (a b : List (List Fz)) (hl : a.length ≤ 1000) (hw : ∀ r ∈ a, r.length ≤ 1000) (ha : ∀ r ∈ a, ∀ x ∈ r, fsz x ≤ 10000) : callF T 309 [.sl (matF a) .an, .sl (matF b) .an] = some (.b (decide (a = b))) := by
  rw [f309 _ rfl, b309]
  by_cases hab : a.length = b.length
  · have h := is12_loop (T := T) a b hab hl hw ha
    rw [List.drop_zero, List.drop_zero] at h
    unfold stI12s at h
    simp only [Int.natCast_zero] at h
    have hab' : (b.length : Int) = a.length := by omega
    by_cases he : a = b
    · subst he
      rw [if_pos rfl] at h
      simp -implicitDefEqProofs [h]
    · rw [if_neg he] at h
      simp -implicitDefEqProofs [hab', h, he]
  · have he : ¬ a = b := fun h => hab (by rw [h])
    have hab' : ¬ (a.length : Int) = b.length := by omega
    simp -implicitDefEqProofs [hab, hab', he]
theorem sz3 : sz 3 ≤ 1 := by
  unfold sz
  rw [show (3 : Rat).num = 3 from rfl, show (3 : Rat).den = 1 from rfl, ofN_one, show (3 : Int).natAbs = 3 from rfl]
  exact Nat.max_le.2 ⟨ofN_length_le' (by decide), Nat.le_refl _⟩
theorem szle1 {q : Rat} (h1 : q.num.natAbs < 4294967296) (h2 : q.den < 4294967296) : sz q ≤ 1 := Nat.max_le.2 ⟨ofN_length_le' (by simpa using h1), ofN_length_le' (by simpa using h2)⟩
theorem textQ_nat (n : Nat) (h : n < 10) : textQ (n : Rat) = [UInt8.ofNat (48 + n)] := by
  unfold textQ
  rw [if_pos (Rat.den_natCast n), Rat.num_natCast]
  unfold textZ
  rw [if_neg (by omega), Int.natAbs_natCast, textN_small h]
theorem law12_works : callF T 310 [] = some (.b true) := by
  have c1 := row_unit (T := T) 2 0 (by decide) (by decide)
  have c2 := frac_of (T := T) 3 (by decide) (by decide)
  have c2b := frac_of1 (T := T)
  obtain ⟨u, hu⟩ : ∃ u, u = fzs ((List.replicate 2 (0 : Rat)).set 0 1) := ⟨_, rfl⟩
  have hu2 : u = fzs [1, 0] := hu
  rw [← hu] at c1
  have hus : ∀ x ∈ u, fsz x ≤ 1 := by
    rw [hu2]
    refine fzs_sz fun q hq => ?_
    simp only [List.mem_cons, List.not_mem_nil, or_false] at hq
    rcases hq with rfl | rfl
    · exact Nat.le_of_eq sz_one
    · exact Nat.le_of_eq sz_zero
  have c3 := row_scale (T := T) (fz 3) (Nat.le_trans sz3 (by decide)) u (by rw [hu2]; decide) (fun x hx => Nat.le_trans (hus x hx) (by decide))
  rw [fv_fz] at c3
  have hv : scl 3 u = fzs [3, 0] := by
    rw [hu2, fzs_scl]
    congr 1
    simp only [fzs, List.map_cons, List.map_nil, fv_fz]
    have e1 : (3 : Rat) * 1 = 3 := by decide +kernel
    have e2 : (3 : Rat) * 0 = 0 := by decide +kernel
    rw [e1, e2]
  obtain ⟨m, hm⟩ : ∃ m, m = [u, scl 3 u] := ⟨_, rfl⟩
  have hm2 : m = fzM [[1, 0], [3, 0]] := by rw [hm, hv, hu2]; rfl
  have hms : ∀ r ∈ fzM [[1, 0], [3, 0]], ∀ x ∈ r, fsz x ≤ 1 := by
    refine fzM_sz fun r hr q hq => ?_
    simp only [List.mem_cons, List.not_mem_nil, or_false] at hr
    rcases hr with rfl | rfl <;> simp only [List.mem_cons, List.not_mem_nil, or_false] at hq <;> rcases hq with rfl | rfl
    · exact Nat.le_of_eq sz_one
    · exact Nat.le_of_eq sz_zero
    · exact sz3
    · exact Nat.le_of_eq sz_zero
  have c4 := grid_ident (T := T) 2 2 (by decide)
  have hml : m.length = 2 := by rw [hm]; rfl
  have hmw : widthM m = 2 := by rw [hm2]; rfl
  have hmr : rightM m = true := by rw [hm2, ← rightQ_val, valM_fzM]; rfl
  have c5 := grid_mul (T := T) (idQ 2 2) m (B := 1) (C := 1) (by simp [idQ]) (by omega) (by omega) (idQ_sz 2 2) (by rw [hm2]; exact hms) (by decide) (by decide) (by rw [hml]; decide)
  rw [if_pos ⟨rfl, hmr, hml.symm⟩] at c5
  have hp : mulM (idQ 2 2) m = fzM [[1, 0], [3, 0]] := by
    unfold mulM fzM idQ
    rw [List.map_map]
    simp only [List.range_succ, List.range_zero, List.nil_append, List.map_cons, List.map_nil, List.singleton_append, Function.comp]
    have hl : ∀ j, (fzs ((List.replicate 2 (0 : Rat)).set j 1)).length = m.length := fun j => by rw [hml]; simp
    rw [leftQ_R (hl 0) hmr, leftQ_R (hl 1) hmr, fv_fzs, fv_fzs, hm2, valM_fzM]
    have e1 : leftR ((List.replicate 2 (0 : Rat)).set 0 1) [[1, 0], [3, 0]] = [1, 0] := by decide +kernel
    have e2 : leftR ((List.replicate 2 (0 : Rat)).set 1 1) [[1, 0], [3, 0]] = [3, 0] := by decide +kernel
    rw [e1, e2]
  rw [hp] at c5
  have c6 := grid_left (T := T) [fz 1, fz 1] m (B := 1) (C := 1) (by omega) (by omega) (by
    intro x hx
    simp only [List.mem_cons, List.not_mem_nil, or_false, or_self] at hx
    rw [hx]; exact Nat.le_of_eq sz_one) (by rw [hm2]; exact hms) (by decide) (by decide) (by rw [hml]; decide)
  rw [if_pos ⟨hml.symm, hmr⟩] at c6
  have hl2 : leftQ [fz 1, fz 1] m = [4, 0] := by
    rw [leftQ_R (r := [fz 1, fz 1]) (by rw [hml]; rfl) hmr, hm2, valM_fzM]
    simp only [List.map_cons, List.map_nil, fv_fz]
    decide +kernel
  rw [hl2] at c6
  have c7 := grid_same (T := T) (fzM [[1, 0], [3, 0]]) m (by decide) (by decide) (fun r hr x hx => Nat.le_trans (hms r hr x hx) (by decide)) (by rw [hm2]; exact fun r hr x hx => Nat.le_trans (hms r hr x hx) (by decide))
  rw [decide_eq_true (show List.map (·.map fv) (fzM [[1, 0], [3, 0]]) = List.map (·.map fv) m by rw [hm2])] at c7
  have c8 := row_text (T := T) (fzs [4, 0]) (by decide) (fzs_sz fun q hq => by
    simp only [List.mem_cons, List.not_mem_nil, or_false] at hq
    rcases hq with rfl | rfl
    · exact Nat.le_trans (szle1 (by decide) (by decide)) (by decide)
    · rw [sz_zero]; decide)
  have ht : List.intercalate [44] (txts (fzs [4, 0])) = [52, 44, 48] := by
    have e1 := textQ_nat 4 (by decide)
    have e2 := textQ_nat 0 (by decide)
    simp only [txts, fzs, List.map_cons, List.map_nil, fv_fz]
    rw [show (4 : Rat) = ((4 : Nat) : Rat) from rfl, show (0 : Rat) = ((0 : Nat) : Rat) from rfl, e1, e2]
    rfl
  rw [ht] at c8
  have r1 : rowF [fz 1, fz 1] = [celF (fz 1), celF (fz 1)] := rfl
  rw [r1] at c6
  have r2 : matF m = [[.sl (rowF u) .an], [.sl (rowF (scl 3 u)) .an]] := by rw [hm]; rfl
  rw [r2] at c5 c6 c7
  have r3 : ((3 : Int) : Rat) = 3 := rfl
  rw [r3] at c2
  clear hu hu2 hus hv hm hm2 hms hml hmw hmr hp hl2 ht r1 r2 r3
  generalize fzM [[1, 0], [3, 0]] = PM at *
  generalize fzs [4, 0] = L4 at *
  generalize scl 3 u = v at *
  generalize fz 3 = z3 at *
  generalize fz 1 = z1 at *
  generalize idQ 2 2 = I2 at *
  simp only [Int.natCast_zero, Int.cast_ofNat_Int] at c1
  rw [f310 _ rfl, b310]
  simp -implicitDefEqProofs [c1, c2, c2b, c3, c4, c5, c6, c7, c8]
theorem turnQ_val_sz {m : List (List Fz)} {B : Nat} (hB : 1 ≤ B) (hr : rightM m = true) (h : ∀ r ∈ m, ∀ x ∈ r, fsz x ≤ B) : ∀ r ∈ turnQ (valM m), ∀ q ∈ r, sz q ≤ B :=
  turnQ_sz (rightQ_len (by rw [rightQ_val]; exact hr)) (valM_sz hB h)
theorem dot_sz : ∀ (a b : List Rat) {B : Nat}, (∀ x ∈ a, sz x ≤ B) → (∀ x ∈ b, sz x ≤ B) → sz (dotR a b) ≤ a.length * (2 * B + 1) + 1
  | [], _, _, _, _ => by simp [dotR, sz_zero]
  | _ :: _, [], _, _, _ => by simp [dotR, sz_zero]
  | x :: a, y :: b, B, ha, hb => by
    have ih := dot_sz a b (fun x hx => ha x (List.mem_cons_of_mem _ hx)) (fun x hx => hb x (List.mem_cons_of_mem _ hx))
    have h1 := ha x List.mem_cons_self
    have h2 := hb y List.mem_cons_self
    have h3 := sz_mul x y
    have h4 := sz_add (x * y) (dotR a b)
    simp only [dotR, List.length_cons]
    rw [Nat.add_mul a.length 1, Nat.one_mul]
    omega
theorem applyR_sz {L : List (List Rat)} {c : List Rat} {B k : Nat} (hk : ∀ r ∈ L, r.length ≤ k) (h1 : ∀ r ∈ L, ∀ x ∈ r, sz x ≤ B) (h2 : ∀ x ∈ c, sz x ≤ B) : ∀ q ∈ applyR L c, sz q ≤ k * (2 * B + 1) + 1 := by
  intro q hq
  obtain ⟨r, hr, rfl⟩ := List.mem_map.1 hq
  have h3 := dot_sz r c (h1 r hr) h2
  have h4 : r.length * (2 * B + 1) ≤ k * (2 * B + 1) := Nat.mul_le_mul_right _ (hk r hr)
  omega
theorem leftR_sz {L : List (List Rat)} {r : List Rat} {B : Nat} (hL : rightQ L = true) (h1 : ∀ w ∈ L, ∀ x ∈ w, sz x ≤ B) (h2 : ∀ x ∈ r, sz x ≤ B) : ∀ q ∈ leftR r L, sz q ≤ L.length * (2 * B + 1) + 1 :=
  applyR_sz (fun w hw => Nat.le_of_eq (turnQ_len w hw)) (turnQ_sz (rightQ_len hL) h1) h2
theorem leftR_length (r : List Rat) (L : List (List Rat)) : (leftR r L).length = widthQ L := by simp [leftR, applyR, turnQ]
theorem applyR_length (L : List (List Rat)) (c : List Rat) : (applyR L c).length = L.length := by simp [applyR]
end
end Go.Ab
end

section
namespace Go.Ab
theorem addP_fzs (p q : List Rat) : addP p (fzs q) = List.zipWith (· + ·) p q := by
  unfold addP fzs
  rw [List.zipWith_map_right]
  congr 1
  funext x y
  rw [fv_fz]
theorem addP_vals (p : List Rat) (s : List Fz) : addP p (fzs (s.map fv)) = addP p s := by
  rw [addP_fzs]
  unfold addP
  rw [List.zipWith_map_right]
theorem mulM_len (a b : List (List Fz)) : (mulM a b).length = a.length := by simp [mulM]
theorem addM_len {a b : List (List Fz)} (h : a.length = b.length) : (addM a b).length = a.length := by simp [addM, h]
variable {T : Tbl} [CNat T] [CProd T] [CTwos T] [CQuot T] [CQuotD T] [CText T] [CWhole T] [CCommon T] [CFrac T] [CJoin T] [CRow T] [CGrid T] [CRef02 T] [CRef04 T] [CRef05 T] [CRef07 T] [CRef06 T] [CRef08 T] [CRef09 T] [CRef11 T] [CRef12 T] [CLaw09 T] [CLaw11 T] [CLaw12 T]
def stGP (A P S VA VB X Y : List (List Fz)) (m c : Bool) (i : Nat) : St :=
  ⟨[(0, .sl (matF A) .an), (5, .sl (matF P) .an), (7, .sl (matF S) .an), (10, .b m), (11, .b c), (12, .bs (.loc 12) 1 1 0 (if m then i else 0)), (13, .bs (.loc 13) 2 1 0 (if c then i else 0)), (14, .sl (matF VA) .an), (15, .sl (matF VB) .an), (16, .i .i64 i)],
    [((.loc 12), ⟨1, .own, 1, matF (if m then X.take i else [])⟩), ((.loc 13), ⟨2, .own, 1, matF (if c then Y.take i else [])⟩)], 4⟩
theorem gp_loop (A P S VA VB X Y : List (List Fz)) (m c : Bool) (hl : A.length ≤ 1000) (hva : VA.length = A.length) (hx : m = true → X.length = A.length) (hy : c = true → Y.length = A.length) (hvb : c = true → VB.length = A.length)
    (h1 : m = true → ∀ i (hi : i < A.length) (hj : i < X.length), callF T 306 [.sl (rowF (VA[i]'(by omega))) .an, .sl (matF VB) .an] = some (.sl (rowF (X[i]'hj)) .an))
    (h2 : c = true → ∀ i (hi : i < A.length) (hj : i < Y.length) (hk : i < VB.length), callF T 280 [.sl (rowF (VA[i]'(by omega))) .an, .sl (rowF (VB[i]'hk)) .an] = some (.sl (rowF (Y[i]'hj)) .an)) :
    loopN T 0 0 (.norm false [5, 7, 12, 13]) l312_0 (stGP A P S VA VB X Y m c 0) = some (.n, ⟨[(5, .sl (matF P) .an), (7, .sl (matF S) .an), (12, .bs (.loc 12) 1 1 0 (if m then A.length else 0)), (13, .bs (.loc 13) 2 1 0 (if c then A.length else 0))],
      [((.loc 12), ⟨1, .own, 1, matF (if m then X else [])⟩), ((.loc 13), ⟨2, .own, 1, matF (if c then Y else [])⟩)], 4⟩) := by
  refine range_loop (stGP A P S VA VB X Y m c) A.length _ (fun i hi => ?_) ?_
  · have hws := wrapS hi (by omega)
    have hb : i ≤ 4294967295 := by omega
    have hia : i < VA.length := by omega
    have hga : VA[i]? = some (VA[i]'hia) := List.getElem?_eq_getElem hia
    have hia' : (i : Int) < VA.length := by omega
    cases m with
    | false =>
      cases c with
      | false =>
        unfold stGP
        clear h1 h2 hx hy hvb
        simp -implicitDefEqProofs [l312_0, hi, hws]
      | true =>
        have hj : i < Y.length := by rw [hy rfl]; exact hi
        have hk : i < VB.length := by rw [hvb rfl]; exact hi
        have hk' : (i : Int) < VB.length := by omega
        have hgb : VB[i]? = some (VB[i]'hk) := List.getElem?_eq_getElem hk
        have c2 := h2 rfl i hi hj hk
        have e2 := take_succ Y hj
        have l2 : (Y.take i).length = i := by simp; omega
        have p2 := matF_push l2 (Y[i]'hj)
        unfold stGP
        rw [e2]
        clear h1 h2 hx hy hvb e2
        simp -implicitDefEqProofs [l312_0, hi, hws, hb, hga, hia, hia', hgb, hk, hk', c2, p2, l2]
    | true =>
      have hj1 : i < X.length := by rw [hx rfl]; exact hi
      have c1 := h1 rfl i hi hj1
      have e1 := take_succ X hj1
      have l1 : (X.take i).length = i := by simp; omega
      have p1 := matF_push l1 (X[i]'hj1)
      cases c with
      | false =>
        unfold stGP
        rw [e1]
        clear h1 h2 hx hy hvb e1
        simp -implicitDefEqProofs [l312_0, hi, hws, hb, hga, hia, hia', c1, p1, l1]
      | true =>
        have hj : i < Y.length := by rw [hy rfl]; exact hi
        have hk : i < VB.length := by rw [hvb rfl]; exact hi
        have hk' : (i : Int) < VB.length := by omega
        have hgb : VB[i]? = some (VB[i]'hk) := List.getElem?_eq_getElem hk
        have c2 := h2 rfl i hi hj hk
        have e2 := take_succ Y hj
        have l2 : (Y.take i).length = i := by simp; omega
        have p2 := matF_push l2 (Y[i]'hj)
        unfold stGP
        rw [e1, e2]
        clear h1 h2 hx hy hvb e1 e2
        simp -implicitDefEqProofs [l312_0, hi, hws, hb, hga, hia, hia', hgb, hk, hk', c1, c2, p1, p2, l1, l2]
  · have ex : m = true → X.take A.length = X := fun h => List.take_of_length_le (by rw [hx h]; exact Nat.le_refl _)
    have ey : c = true → Y.take A.length = Y := fun h => List.take_of_length_le (by rw [hy h]; exact Nat.le_refl _)
    unfold stGP
    cases m <;> cases c <;> simp only [if_true, Bool.false_eq_true, if_false] <;> (try rw [ex rfl]) <;> (try rw [ey rfl]) <;> (constructor <;> simp -implicitDefEqProofs [l312_0])
theorem mulM_rows {a b : List (List Fz)} (hra : rightM a = true) (hrb : rightM b = true) (hw : widthM a = b.length) : ∀ r ∈ mulM a b, ∃ w ∈ a, r = fzs (leftR (w.map fv) (valM b)) := by
  intro r hr
  obtain ⟨w, hw2, rfl⟩ := List.mem_map.1 hr
  exact ⟨w, hw2, by rw [leftQ_R (by rw [rightM_len hra w hw2, hw]) hrb]⟩
theorem mulM_sz {a b : List (List Fz)} {B : Nat} (hB : 1 ≤ B) (hra : rightM a = true) (hrb : rightM b = true) (hw : widthM a = b.length) (h1 : ∀ r ∈ a, ∀ x ∈ r, fsz x ≤ B) (h2 : ∀ r ∈ b, ∀ x ∈ r, fsz x ≤ B) :
    ∀ r ∈ mulM a b, r.length = widthM b ∧ ∀ x ∈ r, fsz x ≤ b.length * (2 * B + 1) + 1 := by
  intro r hr
  obtain ⟨w, hwm, rfl⟩ := mulM_rows hra hrb hw r hr
  have hq : rightQ (valM b) = true := by rw [rightQ_val]; exact hrb
  refine ⟨by rw [fzs_length, leftR_length, widthQ_val], fzs_sz fun q hq2 => ?_⟩
  have := leftR_sz hq (valM_sz hB h2) (vals_sz hB (h1 w hwm)) q hq2
  simpa using this
theorem addM_sz {a b : List (List Fz)} {B : Nat} (hB : 1 ≤ B) (h1 : ∀ r ∈ a, ∀ x ∈ r, fsz x ≤ B) (h2 : ∀ r ∈ b, ∀ x ∈ r, fsz x ≤ B) : ∀ r ∈ addM a b, ∀ x ∈ r, fsz x ≤ B + (B + 1) := by
  intro r hr
  unfold addM at hr
  rw [List.mem_iff_getElem?] at hr
  obtain ⟨i, hi⟩ := hr
  rw [List.getElem?_zipWith] at hi
  split at hi
  · rename_i u v hu hv
    cases hi
    exact fzs_sz (addP_sz (vals_sz hB (h1 u (List.mem_of_getElem? hu))) (h2 v (List.mem_of_getElem? hv)) hB)
  · cases hi
theorem addM_rows {a b : List (List Fz)} {k : Nat} (h1 : ∀ r ∈ a, r.length ≤ k) : ∀ r ∈ addM a b, r.length ≤ k := by
  intro r hr
  unfold addM at hr
  rw [List.mem_iff_getElem?] at hr
  obtain ⟨i, hi⟩ := hr
  rw [List.getElem?_zipWith] at hi
  split at hi
  · rename_i u v hu hv
    cases hi
    have := h1 u (List.mem_of_getElem? hu)
    simp [addP]
    omega
  · cases hi
theorem products_loop (a b P S : List (List Fz)) (m c : Bool) (a1 : a.length ≤ 6) (a2 : ∀ r ∈ a, r.length ≤ 6) (a3 : ∀ r ∈ a, ∀ x ∈ r, fsz x ≤ 3) (b1 : b.length ≤ 6) (b2 : ∀ r ∈ b, r.length ≤ 6) (b3 : ∀ r ∈ b, ∀ x ∈ r, fsz x ≤ 3)
    (hm : m = true → rightM a = true ∧ rightM b = true ∧ widthM a = b.length) (hc : c = true → rightM a = true ∧ rightM b = true ∧ a.length = b.length ∧ widthM a = widthM b) :
    loopN T 0 0 (.norm false [5, 7, 12, 13]) l312_0 (stGP a P S (fzM (valM a)) (fzM (valM b)) (mulM a b) (addM a b) m c 0) = some (.n, ⟨[(5, .sl (matF P) .an), (7, .sl (matF S) .an), (12, .bs (.loc 12) 1 1 0 (if m then a.length else 0)), (13, .bs (.loc 13) 2 1 0 (if c then a.length else 0))],
      [((.loc 12), ⟨1, .own, 1, matF (if m then mulM a b else [])⟩), ((.loc 13), ⟨2, .own, 1, matF (if c then addM a b else [])⟩)], 4⟩) := by
  refine gp_loop a P S _ _ _ _ m c (by omega) (by simp) (fun _ => mulM_len a b) (fun h => addM_len (hc h).2.2.1) (fun h => by simp [(hc h).2.2.1]) (fun h i hi hj => ?_) (fun h i hi hj hk => ?_)
  · obtain ⟨h1, h2, h3⟩ := hm h
    have hq : rightQ (valM b) = true := by rw [rightQ_val]; exact h2
    have hai : (a[i]'hi).length = b.length := by rw [rightM_len h1 _ (List.getElem_mem hi), h3]
    have hwq := widthQ_val b
    have hwb := widthM_le b2
    have e1 : (fzM (valM a))[i]'(by simpa using hi) = fzs ((a[i]'hi).map fv) := by simp [fzM, valM]
    have e2 : (mulM a b)[i]'hj = fzs (leftR ((a[i]'hi).map fv) (valM b)) := by
      simp only [mulM, List.getElem_map]
      rw [leftQ_R hai h2]
    rw [e1, e2]
    exact ref12_left (T := T) ((a[i]'hi).map fv) (valM b) (B := 3) (by omega) (by simp; omega) (rightQ_len hq) (by simp [hai]) (vals_sz (by decide) (a3 _ (List.getElem_mem hi))) (valM_sz (by decide) b3) (by decide) (by simp; omega)
  · obtain ⟨h1, h2, h3, h4⟩ := hc h
    have hib : i < b.length := by omega
    have e1 : (fzM (valM a))[i]'(by simpa using hi) = fzs ((a[i]'hi).map fv) := by simp [fzM, valM]
    have e2 : (fzM (valM b))[i]'hk = fzs ((b[i]'hib).map fv) := by simp [fzM, valM]
    have e3 : (addM a b)[i]'hj = fzs (addP ((a[i]'hi).map fv) (fzs ((b[i]'hib).map fv))) := by
      rw [addP_vals]
      simp [addM]
    rw [e1, e2, e3]
    have la := rightM_len h1 _ (List.getElem_mem hi)
    have lb := rightM_len h2 _ (List.getElem_mem hib)
    have := a2 _ (List.getElem_mem hi)
    exact ref11_add (T := T) _ _ (by simp [la, lb, h4]) (by simp; omega) (fun x hx => Nat.le_trans (vals_sz (by decide) (a3 _ (List.getElem_mem hi)) x hx) (by decide)) (fun x hx => Nat.le_trans (vals_sz (by decide) (b3 _ (List.getElem_mem hib)) x hx) (by decide))
theorem law12_products (a b : List (List Fz)) : callF T 312 [.sl (matF a) .an, .sl (matF b) .an] = some (.b true) := by
  have hw := law12_works (T := T)
  have ca := ref12_long (T := T) a 6 3 (by decide)
  have cb := ref12_long (T := T) b 6 3 (by decide)
  simp only [Int.cast_ofNat_Int] at ca cb
  rw [f312 _ rfl, b312]
  cases ha : longM a 6 3 with
  | true =>
    rw [ha] at ca
    simp -implicitDefEqProofs [hw, ca]
  | false =>
    rw [ha] at ca
    cases hb : longM b 6 3 with
    | true =>
      rw [hb] at cb
      simp -implicitDefEqProofs [hw, ca, cb]
    | false =>
      rw [hb] at cb
      obtain ⟨a1, a2, a3⟩ := longM_false ha
      obtain ⟨b1, b2, b3⟩ := longM_false hb
      have wa := widthM_le a2
      have wb := widthM_le b2
      have n1 := ref12_norms (T := T) a (by omega) (fun r hr => by have := a2 r hr; omega) (fun r hr x hx => Nat.le_trans (a3 r hr x hx) (by decide))
      have n2 := ref12_norms (T := T) b (by omega) (fun r hr => by have := b2 r hr; omega) (fun r hr x hx => Nat.le_trans (b3 r hr x hx) (by decide))
      have t1 := law12_to (T := T) a (by omega) (fun r hr => by have := a2 r hr; omega)
      have t2 := law12_to (T := T) b (by omega) (fun r hr => by have := b2 r hr; omega)
      have g1 := grid_mul (T := T) a b (B := 3) (C := 3) (by omega) (by omega) (by omega) a3 b3 (by decide) (by decide) (by omega)
      have g2 := grid_add (T := T) a b (B := 3) (by omega) (by omega) (by omega) a3 b3 (by decide) (by decide)
      have r1 := ref12_right (T := T) a (by omega)
      have r2 := ref12_right (T := T) b (by omega)
      have w1 := ref12_width (T := T) a
      have w2 := ref12_width (T := T) b
      have L := fun P S m c => products_loop (T := T) a b P S m c a1 a2 a3 b1 b2 b3
      have i0 := law12_is (T := T) [] [] (by decide) (by simp) (by simp)
      rw [decide_eq_true rfl] at i0
      simp only [matF_nil] at i0
      have i1 : rightM a = true → rightM b = true → widthM a = b.length → callF T 309 [.sl (matF (mulM a b)) .an, .sl (matF (mulM a b)) .an] = some (.b true) := by
        intro h1 h2 h3
        have hs := mulM_sz (by decide) h1 h2 h3 a3 b3
        have := law12_is (T := T) (mulM a b) (mulM a b) (by rw [mulM_len]; omega) (fun r hr => by have := (hs r hr).1; omega) (fun r hr x hx => by have := (hs r hr).2 x hx; omega)
        rwa [decide_eq_true rfl] at this
      have i2 : a.length = b.length → callF T 309 [.sl (matF (addM a b)) .an, .sl (matF (addM a b)) .an] = some (.b true) := by
        intro h1
        have := law12_is (T := T) (addM a b) (addM a b) (by rw [addM_len h1]; omega) (fun r hr => by have := addM_rows (b := b) a2 r hr; omega) (fun r hr x hx => by have := addM_sz (by decide) a3 b3 r hr x hx; omega)
        rwa [decide_eq_true rfl] at this
      unfold stGP at L
      have lm := mulM_len a b
      have ls := addM_len (a := a) (b := b)
      clear a2 a3 b2 b3
      generalize mulM a b = PM at *
      generalize addM a b = SM at *
      generalize fzM (valM a) = VA at *
      generalize fzM (valM b) = VB at *
      cases hra : rightM a with
      | false =>
        rw [hra] at r1
        rw [if_neg (by simp [hra])] at g1 g2
        have l := L [] [] false false (by simp) (by simp)
        simp only [matF_nil, Bool.false_eq_true, if_false, Int.natCast_zero] at l
        clear L i1 i2
        simp -implicitDefEqProofs [hw, ca, cb, n1, n2, t1, t2, g1, g2, r1, r2, l, i0]
      | true =>
        rw [hra] at r1
        cases hrb : rightM b with
        | false =>
          rw [hrb] at r2
          rw [if_neg (by simp [hrb])] at g1 g2
          have l := L [] [] false false (by simp) (by simp)
          simp only [matF_nil, Bool.false_eq_true, if_false, Int.natCast_zero] at l
          clear L i1 i2
          simp -implicitDefEqProofs [hw, ca, cb, n1, n2, t1, t2, g1, g2, r1, r2, l, i0]
        | true =>
          rw [hrb] at r2
          have i1 := i1 hra hrb
          have p1 : PM.take a.length = PM := List.take_of_length_le (by omega)
          have p2 : a.length ≤ PM.length := by omega
          by_cases hm : widthM a = b.length
          · skip
            have e1 : ((widthM a : Int) == (b.length : Int)) = true := by simp; omega
            have q1 : ((widthM a : Int) = (b.length : Int)) = True := by simp; omega
            rw [if_pos ⟨hra, hrb, hm⟩] at g1
            have i1 := i1 hm
            by_cases hc : a.length = b.length
            · skip
              have e2 : ((a.length : Int) == (b.length : Int)) = true := by simp; omega
              have q2 : ((a.length : Int) = (b.length : Int)) = True := by simp; omega
              have i2 := i2 hc
              have ls := ls hc
              have p3 : SM.take a.length = SM := List.take_of_length_le (by omega)
              have p4 : a.length ≤ SM.length := by omega
              by_cases hd : widthM a = widthM b
              · skip
                have e3 : ((widthM a : Int) == (widthM b : Int)) = true := by simp; omega
                have q3 : ((widthM a : Int) = (widthM b : Int)) = True := by simp; omega
                rw [if_pos ⟨hra, hrb, hc, hd⟩] at g2
                have l := L PM SM true true (fun _ => ⟨hra, hrb, hm⟩) (fun _ => ⟨hra, hrb, hc, hd⟩)
                simp only [matF_nil, List.take_zero, if_true, Bool.false_eq_true, if_false, Int.natCast_zero] at l
                clear L
                simp -implicitDefEqProofs [hw, ca, cb, n1, n2, t1, t2, g1, g2, r1, r2, w1, w2, l, i0, e1, q1, p1, p2, i1, e2, q2, e3, q3, p3, p4, i2]
              · skip
                have e3 : ((widthM a : Int) == (widthM b : Int)) = false := by simp; omega
                have q3 : ((widthM a : Int) = (widthM b : Int)) = False := by simp; omega
                rw [if_neg (fun h => hd h.2.2.2)] at g2
                have l := L PM [] true false (fun _ => ⟨hra, hrb, hm⟩) (by simp)
                simp only [matF_nil, List.take_zero, if_true, Bool.false_eq_true, if_false, Int.natCast_zero] at l
                clear L
                simp -implicitDefEqProofs [hw, ca, cb, n1, n2, t1, t2, g1, g2, r1, r2, w1, w2, l, i0, e1, q1, p1, p2, i1, e2, q2, e3, q3]
            · skip
              have e2 : ((a.length : Int) == (b.length : Int)) = false := by simp; omega
              have q2 : ((a.length : Int) = (b.length : Int)) = False := by simp; omega
              rw [if_neg (fun h => hc h.2.2.1)] at g2
              have l := L PM [] true false (fun _ => ⟨hra, hrb, hm⟩) (by simp)
              simp only [matF_nil, List.take_zero, if_true, Bool.false_eq_true, if_false, Int.natCast_zero] at l
              clear L
              simp -implicitDefEqProofs [hw, ca, cb, n1, n2, t1, t2, g1, g2, r1, r2, w1, w2, l, i0, e1, q1, p1, p2, i1, e2, q2]
          · skip
            have e1 : ((widthM a : Int) == (b.length : Int)) = false := by simp; omega
            have q1 : ((widthM a : Int) = (b.length : Int)) = False := by simp; omega
            rw [if_neg (fun h => hm h.2.2)] at g1
            by_cases hc : a.length = b.length
            · skip
              have e2 : ((a.length : Int) == (b.length : Int)) = true := by simp; omega
              have q2 : ((a.length : Int) = (b.length : Int)) = True := by simp; omega
              have i2 := i2 hc
              have ls := ls hc
              have p3 : SM.take a.length = SM := List.take_of_length_le (by omega)
              have p4 : a.length ≤ SM.length := by omega
              by_cases hd : widthM a = widthM b
              · skip
                have e3 : ((widthM a : Int) == (widthM b : Int)) = true := by simp; omega
                have q3 : ((widthM a : Int) = (widthM b : Int)) = True := by simp; omega
                rw [if_pos ⟨hra, hrb, hc, hd⟩] at g2
                have l := L [] SM false true (by simp) (fun _ => ⟨hra, hrb, hc, hd⟩)
                simp only [matF_nil, List.take_zero, if_true, Bool.false_eq_true, if_false, Int.natCast_zero] at l
                clear L
                simp -implicitDefEqProofs [hw, ca, cb, n1, n2, t1, t2, g1, g2, r1, r2, w1, w2, l, i0, e1, q1, p1, p2, e2, q2, e3, q3, p3, p4, i2]
              · skip
                have e3 : ((widthM a : Int) == (widthM b : Int)) = false := by simp; omega
                have q3 : ((widthM a : Int) = (widthM b : Int)) = False := by simp; omega
                rw [if_neg (fun h => hd h.2.2.2)] at g2
                have l := L [] [] false false (by simp) (by simp)
                simp only [matF_nil, List.take_zero, if_true, Bool.false_eq_true, if_false, Int.natCast_zero] at l
                clear L
                simp -implicitDefEqProofs [hw, ca, cb, n1, n2, t1, t2, g1, g2, r1, r2, w1, w2, l, i0, e1, q1, p1, p2, e2, q2, e3, q3]
            · skip
              have e2 : ((a.length : Int) == (b.length : Int)) = false := by simp; omega
              have q2 : ((a.length : Int) = (b.length : Int)) = False := by simp; omega
              rw [if_neg (fun h => hc h.2.2.1)] at g2
              have l := L [] [] false false (by simp) (by simp)
              simp only [matF_nil, List.take_zero, if_true, Bool.false_eq_true, if_false, Int.natCast_zero] at l
              clear L
              simp -implicitDefEqProofs [hw, ca, cb, n1, n2, t1, t2, g1, g2, r1, r2, w1, w2, l, i0, e1, q1, p1, p2, e2, q2]
end Go.Ab
end
