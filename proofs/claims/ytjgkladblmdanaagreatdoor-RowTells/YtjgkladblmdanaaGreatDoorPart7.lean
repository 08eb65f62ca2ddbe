/-
  A calculus of values, boxes and code, and what functions of the program compute, proved in it.
  Conditions: none beyond those that the theorems state. (Part 7: FtBase, GpRow3, GpRef06, GpRef08, GpRef09, GpRef11, GpRow4, GcGrid, GpLaw11, GpGrid, GpGrid2, NmGrid, GpFrac2, NmRow, GpPow, GcLaw12, GcRef12, GpRef12, GpLaw12, GcPoly, GpPoly, GpRow5, GpSplit, GpFig, GpFig2, GpLaw11b, NmTxt, GpLaw11c.)
-/
import Derived.Test.YtjgkladblmdanaaGreatDoorPart6
import Derived.Test.YtjgkladblmdanaaGreatDoorRows
import Derived.Test.YtjgkladblmdanaaGreatDoorCards
import Derived.Test.YtjgkladblmdanaaGreatDoorTie
import Derived.ProofKit
import Derived.LaidMore
import Derived.OpenShut
import Derived.Stop.Joined
import Derived.SevenTiedAt
import Derived.Lib.LaidU8

set_option linter.unusedSectionVars false
set_option linter.unusedVariables false
set_option linter.unusedSimpArgs false
set_option linter.unnecessarySimpa false

section
namespace Go.Proofs.YtjgkladblmdanaaGreatDoor
open Go Go.Ab Go.ChangeShapes Go.WideShapes Go.ChangeAt Go.RowKit
theorem Tryz.own : ownKnob Tryz.prog.godebug = none := by kernel_rfl
theorem Tryz.laidOut : laidOutB Tryz.prog = true := by kernel_rfl
theorem Tryz.mixed : Tryz.prog.follows .mixedOrders = true := by kernel_rfl
theorem Tryz.rowed : mapsRowed Tryz.prog = true := by kernel_rfl
theorem Tryz.heard : Tryz.prog.stopsHeard = true := by kernel_rfl
theorem Tryz.enters : Tryz.prog.mayEnter = true := by kernel_rfl
theorem Tryz.keys : Tryz.prog.plainKeys = Rows.rowBackRow.plainKeys := by kernel_rfl
theorem Tryz.lifts : Tryz.prog.liftsFinal = Rows.rowBackRow.lifted := by kernel_rfl
theorem Tryz.makes : Tryz.prog.make = some Rows.rowBackRow.make := by kernel_rfl
def laid2 : List (String × DataW Unit) := [("unicode/utf8.acceptRanges", Rows.laid_unicode_utf8_acceptRanges), ("unicode/utf8.first", Rows.laid_unicode_utf8_first)]
noncomputable def laidWorld (os : Os) : World :=
  let put (h : Array Obj) (g : Nat) (cs : Array Value) : Array Obj := h.modify g fun
    | .cells _ t frozen => .cells cs t frozen
    | o => o
  let w0 := World.holding Tryz.prog os ⟨#[], #[], []⟩
  let h1 := put w0.heap 1 (Lib.firstTab.map fun z => Value.int .u8 z).toArray
  let h2 := put h1 2 ((List.range 16).flatMap fun i => [Value.int .u8 (Lib.accLo i), Value.int .u8 (Lib.accHi i)]).toArray
  { w0 with heap := h2 }
theorem laid_met (os : Os) (args : Array Value) : laidMetH Tryz.prog laid2 ((laidWorld os).forCall (fun _ _ => 0) ⟨#[], args, []⟩).memory :=
  laidMetH_of_parts3 (fuel := 8) (laidMet_of_run' 8 (by kernel_rfl) (by kernel_rfl)) (by kernel_rfl) (by kernel_rfl)
theorem laid_shaped (os : Os) : (laidWorld os).Shaped Tryz.prog := World.shaped_of_RefB (by kernel_rfl) (by kernel_rfl)
theorem tab_all : TOk Tryz.prog nu (fun u => lTab.lookup u) := lTab_ok (text_ok Tryz.mixed) (str344_ok) (str194_ok) (str361_ok) (join_ok)
end Go.Proofs.YtjgkladblmdanaaGreatDoor
end

section
namespace Go.Ab
end Go.Ab
end

section
namespace Go.Ab
section
variable {T : Tbl}
theorem zeros_loop (m : Nat) (hm : m % 2 = 1) (K : Nat) (hK : 2 ^ K * m < 4294967296) (hK2 : K ≤ 32) : ∀ v : Nat, v ≤ K →
  loopN T 0 0 (.norm false [3]) l224_0 ⟨[(0, u32 (2 ^ v * m)), (3, .i .i64 (K - v : Nat))], [], 2⟩ = some (.n, ⟨[(3, .i .i64 K)], [], 2⟩) := by
 refine loopN_eq (fun v : Nat => ⟨[(0, u32 (2 ^ v * m)), (3, .i .i64 (K - v : Nat))], [], 2⟩) _ (fun v => v) _ ?_
 intro v hv
 cases v with
 | zero =>
  right
  rw [Nat.pow_zero, Nat.one_mul, Nat.sub_zero]
  constructor <;> simp -implicitDefEqProofs [l224_0, hm]
 | succ v =>
  left
  have hle : 2 ^ (v + 1) * m ≤ 2 ^ K * m := Nat.mul_le_mul_right _ (Nat.pow_le_pow_right (by decide) hv)
  have e : 2 ^ (v + 1) * m = 2 ^ v * m * 2 := by rw [Nat.pow_succ, Nat.mul_assoc, Nat.mul_comm 2 m, Nat.mul_assoc]
  have hw : IntKind.wrap .i64 (((K - (v + 1) : Nat) : Int) + 1) = ((K - v : Nat) : Int) := by rw [wrap_i64 _ (by omega)]; omega
  refine ⟨v, by omega, Nat.lt_succ_self v, ?_, rfl⟩
  rw [e] at hle ⊢
  generalize 2 ^ v * m = x at *
  have e1 : x * 2 % 2 = 0 := by omega
  have e2 : x * 2 / 2 % 4294967296 = x := by omega
  have e3 : x < 4294967296 := by omega
  simp -implicitDefEqProofs [l224_0, e1, e2, e3, hw]
end
section
variable {T : Tbl} [CRef06 T]
theorem ref01_zeros (m K : Nat) (hm : m % 2 = 1) (hK : 2 ^ K * m < 4294967296) : callF T 224 [u32 (2 ^ K * m)] = some (.i .i64 K) := by
 have hK2 : K ≤ 32 := by
  rcases Nat.lt_or_ge 32 K with h | h
  ·have h1 : 2 ^ 32 ≤ 2 ^ K := Nat.pow_le_pow_right (by decide) (by omega)
   have h2 : 2 ^ K ≤ 2 ^ K * m := Nat.le_mul_of_pos_right _ (by omega)
   have h3 : (2 : Nat) ^ 32 = 4294967296 := rfl
   omega
  ·exact h
 have h := zeros_loop (T := T) m hm K hK hK2 K (Nat.le_refl _)
 rw [Nat.sub_self] at h
 simp only [Int.natCast_zero] at h
 have h0 : 2 ^ K * m ≠ 0 := Nat.mul_ne_zero (by have := Nat.pow_pos (n := K) (show 0 < 2 by decide); omega) (by omega)
 rw [f224 _ rfl, b224]
 generalize 2 ^ K * m = x at *
 simp -implicitDefEqProofs [h, h0]
end
theorem get_win {P m a S : List UInt32} {i : Nat} (hm : m.length = i) (hi : i < a.length) : (P ++ (m ++ (a.drop i ++ S)))[P.length + i]? = some (a[i]'hi) := by
 rw [List.getElem?_append_right (by omega), Nat.add_sub_cancel_left, List.getElem?_append_right (by omega), hm, Nat.sub_self, List.drop_eq_getElem_cons hi]
 rfl
theorem get_win1 {P m a S : List UInt32} {i : Nat} (hm : m.length = i) (hi : i + 1 < a.length) : (P ++ (m ++ (a.drop i ++ S)))[P.length + (i + 1)]? = some (a[i + 1]'hi) := by
 rw [List.getElem?_append_right (by omega), Nat.add_sub_cancel_left, List.getElem?_append_right (by omega), hm, Nat.add_sub_cancel_left, List.drop_eq_getElem_cons (show i < a.length by omega), List.drop_eq_getElem_cons hi]
 rfl
theorem set_win {P m a S : List UInt32} {i : Nat} (hm : m.length = i) (hi : i < a.length) (w : UInt32) : (P ++ (m ++ (a.drop i ++ S))).set (P.length + i) w = P ++ ((m ++ [w]) ++ (a.drop (i + 1) ++ S)) := by
 rw [List.set_append_right _ _ (by omega), Nat.add_sub_cancel_left, List.set_append_right _ _ (by omega), hm, Nat.sub_self, List.drop_eq_getElem_cons hi, List.cons_append, List.set_cons_zero]
 simp
section
variable {T : Tbl}
def stDw (Q : List UInt32) (o n s i : Nat) : St := ⟨[(0, .bs (.bor 0) 0 1 o n), (1, .i .i64 s), (5, .i .i64 i)], [(.bor 0, ⟨0, .own, 1, u32s Q⟩)], 4⟩
theorem dw_step1 (Q : List UInt32) (o n s i : Nat) (x y : UInt32) (hi : i + 1 < n) (hn : n ≤ 1000000) (hs : s < 32) (hx : Q[o + i]? = some x) (hy : Q[o + (i + 1)]? = some y) :
  evX (orc T) T 1 l225_0 (stDw Q o n s i) = some (.n, stDw (Q.set (o + i) (w32 ((x.toNat + y.toNat * 4294967296) / 2 ^ s % 4294967296))) o n s (i + 1)) := by
 have h1 : (i : Int) < n := by omega
 have h2 : (i : Int) + 1 < n := by omega
 have hw : IntKind.wrap .i64 ((i : Int) + 1) = ((i + 1 : Nat) : Int) := wrap_i64 _ (by omega)
 have lx := u32_lt x
 have ly := u32_lt y
 have m2 : y.toNat * 4294967296 % 18446744073709551616 = y.toNat * 4294967296 := Nat.mod_eq_of_lt (by omega)
 have m3 : (y.toNat * 4294967296 + x.toNat) % 18446744073709551616 = x.toNat + y.toNat * 4294967296 := by rw [Nat.add_comm]; exact Nat.mod_eq_of_lt (by omega)
 have hmin : min s 64 = s := by omega
 obtain ⟨b1, hgx⟩ := List.getElem?_eq_some_iff.1 hx
 have i1 : i < n := by omega
 unfold stDw
 simp -implicitDefEqProofs [l225_0, h1, h2, i1, hi, hw, hx, hy, m2, m3, hmin, b1, hgx, w32_modw]
theorem dw_step2 (Q : List UInt32) (o n s i : Nat) (x : UInt32) (hi : i + 1 = n) (hn : n ≤ 1000000) (hs : s < 32) (hx : Q[o + i]? = some x) :
  evX (orc T) T 1 l225_0 (stDw Q o n s i) = some (.n, stDw (Q.set (o + i) (w32 (x.toNat / 2 ^ s % 4294967296))) o n s (i + 1)) := by
 have h1 : (i : Int) < n := by omega
 have h2 : ¬ (i : Int) + 1 < n := by omega
 have hw : IntKind.wrap .i64 ((i : Int) + 1) = ((i + 1 : Nat) : Int) := wrap_i64 _ (by omega)
 have hmin : min s 64 = s := by omega
 obtain ⟨b1, hgx⟩ := List.getElem?_eq_some_iff.1 hx
 have i1 : i < n := by omega
 have i2 : ¬ i + 1 < n := by omega
 unfold stDw
 simp -implicitDefEqProofs [l225_0, h1, h2, i1, i2, hw, hx, hmin, b1, hgx, w32_modw]
theorem dw_loop (P a S : List UInt32) (s : Nat) (hs : s < 32) (hl : a.length ≤ 1000000) : ∀ y : Nat × List UInt32,
  (y.1 ≤ a.length ∧ y.2.length = y.1 ∧ val y.2 + 4294967296 ^ y.1 * (val (a.drop y.1) / 2 ^ s) = val a / 2 ^ s) →
  ∃ r, (∃ m : List UInt32, r = (Ex.n, (⟨[(0, .bs (.bor 0) 0 1 P.length a.length)], [(.bor 0, ⟨0, .own, 1, u32s (P ++ (m ++ S))⟩)], 4⟩ : St)) ∧ m.length = a.length ∧ val m = val a / 2 ^ s) ∧
   loopN T 1 0 (.norm false [0]) l225_0 (stDw (P ++ (y.2 ++ (a.drop y.1 ++ S))) P.length a.length s y.1) = some r := by
 refine loopN_ex (fun y : Nat × List UInt32 => stDw (P ++ (y.2 ++ (a.drop y.1 ++ S))) P.length a.length s y.1) _ (fun y => a.length - y.1) _ ?_
 rintro ⟨i, m⟩ ⟨hi, hm, hv⟩
 simp only at hi hm hv
 by_cases h0 : i < a.length
 ·left
  have hx := u32_lt (a[i]'h0)
  have hd := List.drop_eq_getElem_cons h0
  have fin : ∀ y R : Nat, val (a.drop (i + 1)) = y + 4294967296 * R → val (m ++ [w32 (((a[i]'h0).toNat + y * 4294967296) / 2 ^ s % 4294967296)]) + 4294967296 ^ (i + 1) * (val (a.drop (i + 1)) / 2 ^ s) = val a / 2 ^ s := by
   intro y R hR
   have hmod : ((a[i]'h0).toNat + y * 4294967296) / 2 ^ s % 4294967296 < 4294967296 := Nat.mod_lt _ (by decide)
   have hdw := down_word (x := (a[i]'h0).toNat) (y := y) (R := R) hs hx
   rw [hd, val_cons, hR, hdw, ← hR] at hv
   rw [val_append, hm, Nat.pow_succ]
   rw [val_cons, val_nil, Nat.mul_zero, Nat.add_zero, w32_of_lt hmod]
   rw [Nat.mul_add] at hv
   rw [← hv, Nat.mul_assoc, Nat.add_assoc]
  by_cases h1 : i + 1 < a.length
  ·have hd1 := List.drop_eq_getElem_cons h1
   refine ⟨(i + 1, m ++ [w32 (((a[i]'h0).toNat + (a[i + 1]'h1).toNat * 4294967296) / 2 ^ s % 4294967296)]), ⟨h0, by simp [hm], fin _ (val (a.drop (i + 1 + 1))) (by rw [hd1, val_cons])⟩, by simp only; omega, ?_⟩
   simp only
   rw [dw_step1 _ _ _ _ _ _ _ h1 hl hs (get_win hm h0) (get_win1 hm h1), set_win hm h0]
  ·have f0 := fin 0 0 (by rw [List.drop_of_length_le (by omega), val_nil, Nat.mul_zero])
   rw [Nat.zero_mul, Nat.add_zero] at f0
   refine ⟨(i + 1, m ++ [w32 ((a[i]'h0).toNat / 2 ^ s % 4294967296)]), ⟨h0, by simp [hm], f0⟩, by simp only; omega, ?_⟩
   simp only
   rw [dw_step2 _ _ _ _ _ _ (by omega) hl hs (get_win hm h0), set_win hm h0]
 ·right
  have : i = a.length := by omega
  subst this
  rw [List.drop_length, val_nil, Nat.zero_div, Nat.mul_zero, Nat.add_zero] at hv
  refine ⟨_, ⟨m, rfl, hm, hv⟩, ?_, ?_⟩ <;> simp -implicitDefEqProofs [l225_0, stDw]
theorem trimw_loop (P a S : List UInt32) (hl : a.length ≤ 1000000) {n : Nat} (hn : n ≤ a.length) (h0 : ∀ (i : Nat) (x : UInt32), n ≤ i → a[i]? = some x → x.toNat = 0) (h1 : ∀ x : UInt32, 0 < n → a[n - 1]? = some x → x.toNat ≠ 0) :
  ∀ k : Nat, (n ≤ k ∧ k ≤ a.length) → loopN T 1 2 (.norm false [0]) l225_1 ⟨[(0, .bs (.bor 0) 0 1 P.length k)], [(.bor 0, ⟨0, .own, 1, u32s (P ++ (a ++ S))⟩)], 4⟩ =
   some (.n, ⟨[(0, .bs (.bor 0) 0 1 P.length n)], [(.bor 0, ⟨0, .own, 1, u32s (P ++ (a ++ S))⟩)], 4⟩) := by
 refine loopN_eq (fun k : Nat => ⟨[(0, .bs (.bor 0) 0 1 P.length k)], [(.bor 0, ⟨0, .own, 1, u32s (P ++ (a ++ S))⟩)], 4⟩) _ (fun k => k) _ ?_
 rintro k ⟨hk, hka⟩
 have hget : ∀ j, j < a.length → (P ++ (a ++ S))[P.length + j]? = a[j]? := by
  intro j hj
  rw [List.getElem?_append_right (by omega), Nat.add_sub_cancel_left, List.getElem?_append_left hj]
 by_cases h2 : k = 0
 ·right
  have : n = 0 := by omega
  subst this; subst h2
  generalize P ++ (a ++ S) = Q at *
  constructor <;> simp -implicitDefEqProofs [l225_1]
 ·have hw : IntKind.wrap .i64 ((k : Int) - 1) = ((k - 1 : Nat) : Int) := by rw [wrap_i64 _ (by omega)]; omega
  have hg : a[k - 1]? = some (a[k - 1]'(by omega)) := List.getElem?_eq_getElem _
  have hq := hget (k - 1) (by omega)
  rw [hg] at hq
  have hpos : 0 < k := by omega
  have hlt : k - 1 < k := by omega
  generalize P ++ (a ++ S) = Q at *
  by_cases h3 : k = n
  ·right
   subst h3
   have hx := h1 _ hpos hg
   constructor <;> simp -implicitDefEqProofs [l225_1, hpos, hw, hq, hx, hlt]
  ·left
   have hx := h0 (k - 1) _ (by omega) hg
   refine ⟨k - 1, ⟨by omega, by omega⟩, hlt, ?_, rfl⟩
   simp -implicitDefEqProofs [l225_1, hpos, hw, hq, hx, hlt]
end
section
variable {T : Tbl} [CRef06 T]
theorem ref06_down (P a S : List UInt32) (s : Nat) (hs : s < 32) (hl : a.length ≤ 1000000) :
  ∃ S', S'.length + (ofN (val a / 2 ^ s)).length = a.length + S.length ∧
   callH T 225 [.bs (.bor 0) 0 1 P.length a.length, .i .i64 s] [(.bor 0, ⟨0, .own, 1, u32s (P ++ (a ++ S))⟩)] =
    some (.bs (.bor 0) 0 1 P.length (ofN (val a / 2 ^ s)).length, [(.bor 0, ⟨0, .own, 1, u32s (P ++ (ofN (val a / 2 ^ s) ++ S'))⟩)]) := by
 obtain ⟨_, ⟨m, rfl, hm, hv⟩, hr⟩ := dw_loop (T := T) P a S s hs hl (0, []) ⟨Nat.zero_le _, rfl, by simp⟩
 obtain ⟨n, h1, h2, h3, h4⟩ := ofN_take m
 have ht := trimw_loop (T := T) P m S (by omega) h1 h3 h4 m.length ⟨h1, Nat.le_refl _⟩
 rw [hv] at h2
 have hlen : (ofN (val a / 2 ^ s)).length = n := by rw [← h2]; simp; omega
 have e : P ++ (m ++ S) = P ++ (ofN (val a / 2 ^ s) ++ (m.drop n ++ S)) := by rw [← h2, ← List.append_assoc (m.take n), List.take_append_drop]
 refine ⟨m.drop n ++ S, by simp; omega, ?_⟩
 rw [hlen, ← e]
 rw [hm] at ht
 unfold stDw at hr
 simp only [List.nil_append, List.drop_zero, Int.natCast_zero] at hr
 rw [f225 _ _ rfl, b225]
 clear e h3 h4 h2
 generalize P ++ (m ++ S) = Q at *
 generalize P ++ (a ++ S) = R at *
 simp -implicitDefEqProofs [hr, ht]
theorem win_bound {P a S : List UInt32} {j : Nat} (hj : j < a.length) : (P ++ (a ++ S))[P.length + j]? = a[j]? := by
 rw [List.getElem?_append_right (by omega), Nat.add_sub_cancel_left, List.getElem?_append_left hj]
theorem strip_loop (Q : List UInt32) (o n j0 : Nat) (hn : n ≤ 1000000) (hj : j0 < n) (hz : ∀ j, j < j0 → ∃ x : UInt32, Q[o + j]? = some x ∧ x.toNat = 0) (h1 : ∃ x : UInt32, Q[o + j0]? = some x ∧ x.toNat ≠ 0) :
  ∀ j : Nat, j ≤ j0 → loopN T 1 0 (.norm false [0, 4]) l226_0 ⟨[(0, .bs (.bor 0) 0 1 (o + j) (n - j)), (4, .i .i64 (32 * j : Nat))], [(.bor 0, ⟨0, .own, 1, u32s Q⟩)], 4⟩ =
   some (.n, ⟨[(0, .bs (.bor 0) 0 1 (o + j0) (n - j0)), (4, .i .i64 (32 * j0 : Nat))], [(.bor 0, ⟨0, .own, 1, u32s Q⟩)], 4⟩) := by
 refine loopN_eq (fun j : Nat => ⟨[(0, .bs (.bor 0) 0 1 (o + j) (n - j)), (4, .i .i64 (32 * j : Nat))], [(.bor 0, ⟨0, .own, 1, u32s Q⟩)], 4⟩) _ (fun j => j0 - j) _ ?_
 intro j hj2
 have hpos : 0 < n - j := by omega
 by_cases h : j = j0
 ·right
  subst h
  obtain ⟨x, hx, hx0⟩ := h1
  constructor <;> simp -implicitDefEqProofs [l226_0, hpos, hx, hx0]
 ·left
  obtain ⟨x, hx, hx0⟩ := hz j (by omega)
  have hw : IntKind.wrap .i64 (((32 * j : Nat) : Int) + 32) = ((32 * (j + 1) : Nat) : Int) := by rw [wrap_i64 _ (by omega)]; omega
  have e1 : 1 < n - j := by omega
  have e2 : n - j - 1 = n - (j + 1) := by omega
  have e3 : (1 : Int) ≤ ((n - j : Nat) : Int) := by omega
  refine ⟨j + 1, by omega, by show j0 - (j + 1) < j0 - j; omega, ?_, rfl⟩
  generalize 32 * j = c at *
  generalize 32 * (j + 1) = c' at *
  rw [← Nat.add_assoc, ← e2]
  generalize n - j = k at *
  have e4 : 1 ≤ k := by omega
  simp -implicitDefEqProofs [l226_0, hpos, hx, hx0, hw, e1, e3, e4]
theorem low_words : ∀ (a : List UInt32), val a ≠ 0 → ∃ j, ∃ h : j < a.length, (∀ i (hi : i < j), (a[i]'(by omega)).toNat = 0) ∧ (a[j]'h).toNat ≠ 0 ∧ val a = 4294967296 ^ j * val (a.drop j)
 | [], h => by simp at h
 | x :: a, h => by
  by_cases hx : x.toNat = 0
  ·have h2 : val a ≠ 0 := by
    intro e
    apply h
    rw [val_cons, hx, e]
   obtain ⟨j, hj, h3, h4, h5⟩ := low_words a h2
   refine ⟨j + 1, by simpa using hj, ?_, by simpa using h4, ?_⟩
   ·intro i hi
    cases i with
    | zero => simpa using hx
    | succ i => simpa using h3 i (by omega)
   ·rw [val_cons, hx, h5, List.drop_succ_cons, Nat.pow_succ, Nat.zero_add, Nat.mul_comm (4294967296 ^ j) 4294967296, Nat.mul_assoc]
  ·exact ⟨0, by simp, fun i hi => by omega, by simpa using hx, by simp⟩
theorem ref06_odd (P a S : List UInt32) (hl : a.length ≤ 100000) (h : val a ≠ 0) : ∃ (P' S' : List UInt32) (m k : Nat), val a = 2 ^ k * m ∧ m % 2 = 1 ∧ k ≤ 32 * a.length ∧ (ofN m).length ≤ a.length ∧ P'.length + (ofN m).length + S'.length = P.length + a.length + S.length ∧
  callH T 226 [.bs (.bor 0) 0 1 P.length a.length] [(.bor 0, ⟨0, .own, 1, u32s (P ++ (a ++ S))⟩)] =
   some (.tup [.bs (.bor 0) 0 1 P'.length (ofN m).length, .i .i64 k], [(.bor 0, ⟨0, .own, 1, u32s (P' ++ (ofN m ++ S'))⟩)]) := by
 obtain ⟨j, hj, hz, hne, hv⟩ := low_words a h
 obtain ⟨s, c, hsc, hc⟩ := odd_part hne
 have hx := u32_lt (a[j]'hj)
 have hs : s < 32 := by
  rcases Nat.lt_or_ge s 32 with h1 | h1
  ·exact h1
  ·have h2 : 2 ^ 32 ≤ 2 ^ s := Nat.pow_le_pow_right (by decide) h1
   have h3 : 2 ^ s ≤ 2 ^ s * c := Nat.le_mul_of_pos_right _ (by omega)
   have h4 : (2 : Nat) ^ 32 = 4294967296 := rfl
   omega
 have hd := List.drop_eq_getElem_cons hj
 -- the rest is odd
 have hm : ∃ m, val (a.drop j) = 2 ^ s * m ∧ m % 2 = 1 := by
  refine ⟨c + 2 ^ (32 - s) * val (a.drop (j + 1)), ?_, ?_⟩
  ·rw [hd, val_cons, hsc, Nat.mul_add, ← Nat.mul_assoc, ← Nat.pow_add, show s + (32 - s) = 32 by omega]
  ·have : 2 ^ (32 - s) = 2 * 2 ^ (31 - s) := by rw [← Nat.pow_succ']; congr 1; omega
   rw [this, Nat.mul_assoc]
   omega
 obtain ⟨m, hm1, hm2⟩ := hm
 have hdiv : val (a.drop j) / 2 ^ s = m := by rw [hm1, Nat.mul_div_cancel_left _ (Nat.pow_pos (by decide))]
 have hlen : (a.drop j).length = a.length - j := by simp
 obtain ⟨S', hS', hdown⟩ := ref06_down (T := T) (P ++ a.take j) (a.drop j) S s hs (by omega)
 rw [hdiv] at hS' hdown
 have hPl : (P ++ a.take j).length = P.length + j := by simp; omega
 have hbox : (P ++ a.take j) ++ (a.drop j ++ S) = P ++ (a ++ S) := by
  rw [List.append_assoc, ← List.append_assoc (a.take j), List.take_append_drop]
 rw [hPl, hlen, hbox] at hdown
 have hml : (ofN m).length ≤ a.length := by
  have h1 : m ≤ val (a.drop j) := by rw [hm1]; exact Nat.le_mul_of_pos_left _ (Nat.pow_pos (by decide))
  have h2 := ofN_len_le h1
  have h3 := ofN_length_le (a.drop j)
  omega
 refine ⟨P ++ a.take j, S', m, 32 * j + s, ?_, hm2, by omega, hml, by simp at hS' ⊢; omega, ?_⟩
 ·rw [hv, hm1, pow32, Nat.pow_add, Nat.mul_assoc]
 ·have hst := strip_loop (T := T) (P ++ (a ++ S)) P.length a.length j (by omega) hj (fun i hi => ⟨_, by rw [win_bound (by omega)]; exact List.getElem?_eq_getElem (by omega), hz i hi⟩) ⟨_, by rw [win_bound hj]; exact List.getElem?_eq_getElem hj, hne⟩ 0 (Nat.zero_le _)
  have hzr := ref01_zeros (T := T) c s hc (by rw [← hsc]; exact hx)
  rw [← hsc] at hzr
  have hg : (P ++ (a ++ S))[P.length + j]? = some (a[j]'hj) := by rw [win_bound hj]; exact List.getElem?_eq_getElem hj
  have hpos : 0 < a.length - j := by omega
  have hw : IntKind.wrap .i64 (((32 * j : Nat) : Int) + s) = ((32 * j + s : Nat) : Int) := by rw [wrap_i64 _ (by omega)]; omega
  simp only [Nat.mul_zero, Nat.add_zero, Nat.sub_zero, Int.natCast_zero] at hst
  rw [hPl, f226 _ _ rfl, b226]
  generalize a[j]'hj = x at *
  clear hsc hv hm1 hd hz hne hbox hS' h hdiv hx
  generalize 32 * j = c1 at *
  generalize c1 + s = c2 at *
  generalize P ++ (a ++ S) = Q at *
  generalize P ++ a.take j ++ (ofN m ++ S') = Q' at *
  simp -implicitDefEqProofs [hst, hzr, hg, hpos, hw, hdown]
end
theorem ls_law {P m a S b : List UInt32} {i c s d : Nat} (hm : m.length = i) (h0 : i < a.length) (hv : val m + val (b.take i) = val (a.take i) + 4294967296 ^ i * c) (hs : s < 4294967296) (h : s + (atW b i + c) = (a[i]'h0).toNat + 4294967296 * d) :
  val (m ++ [w32 s]) + val (b.take (i + 1)) = val (a.take (i + 1)) + 4294967296 ^ (i + 1) * d := by
 have e1 := val_take_succ (List.getElem?_eq_getElem h0)
 have e2 := val_take_atW b i
 rw [val_append, hm, e1, e2, Nat.pow_succ]
 simp only [val_cons, val_nil, Nat.mul_zero, Nat.add_zero, w32_of_lt hs]
 generalize 4294967296 ^ i = p at *
 have e3 : p * s + p * (atW b i + c) = p * (a[i]'h0).toNat + p * 4294967296 * d := by rw [← Nat.mul_add, h, Nat.mul_add, Nat.mul_assoc]
 rw [Nat.mul_add] at e3
 omega
section
variable {T : Tbl} [CRef02 T] [CRef04 T] [CRef05 T] [CRef07 T] [CRef06 T]
def stLw (Q R : List UInt32) (o n o2 n2 c i : Nat) : St := ⟨[(0, .bs (.bor 0) 0 1 o n), (1, .bs (.bor 1) 1 1 o2 n2), (4, u64 c), (5, .i .i64 i)], [(.bor 0, ⟨0, .own, 1, u32s Q⟩), (.bor 1, ⟨1, .own, 1, u32s R⟩)], 6⟩
theorem lw_step (Q R b : List UInt32) (o n o2 n2 c i : Nat) (x : UInt32) (hi : i < n) (hn : n ≤ 1000000) (hb : b.length ≤ 1000000) (hc : c ≤ 1) (hx : Q[o + i]? = some x) (hR : List.take n2 (List.drop o2 R) = b) (hR2 : o2 + n2 ≤ R.length) :
  evX (orc T) T 2 l2097_0 (stLw Q R o n o2 n2 c i) = some (.n, stLw (Q.set (o + i) (w32 (if x.toNat < atW b i + c then x.toNat + 4294967296 - (atW b i + c) else x.toNat - (atW b i + c)))) R o n o2 n2 (if x.toNat < atW b i + c then 1 else 0) (i + 1)) := by
 have h1 : (i : Int) < n := by omega
 have hw : IntKind.wrap .i64 ((i : Int) + 1) = ((i + 1 : Nat) : Int) := wrap_i64 _ (by omega)
 have cb := ref02_at (T := T) b i hb
 have lx := u32_lt x
 have lb := atW_lt b i
 generalize atW b i = y at *
 have m2 : y % 18446744073709551616 = y := Nat.mod_eq_of_lt (by omega)
 have m3 : (y + c) % 18446744073709551616 = y + c := Nat.mod_eq_of_lt (by omega)
 have m4 : (x.toNat + 4294967296) % 18446744073709551616 = x.toNat + 4294967296 := Nat.mod_eq_of_lt (by omega)
 obtain ⟨b1, hgx⟩ := List.getElem?_eq_some_iff.1 hx
 unfold stLw
 by_cases hlt : x.toNat < y + c
 ·have hs : sub64 (x.toNat + 4294967296) (y + c) = x.toNat + 4294967296 - (y + c) := sub64_le (by omega) (by omega)
  simp -implicitDefEqProofs [l2097_0, h1, hi, hw, cb, m2, m3, m4, hx, b1, hgx, hR, hR2, hlt, hs]
 ·have hs : sub64 x.toNat (y + c) = x.toNat - (y + c) := sub64_le (by omega) (by omega)
  simp -implicitDefEqProofs [l2097_0, h1, hi, hw, cb, m2, m3, m4, hx, b1, hgx, hR, hR2, hlt, hs]
theorem lw_loop (P a S R b : List UInt32) (o2 n2 : Nat) (hl : a.length ≤ 1000000) (hb : b.length ≤ 1000000) (hR : List.take n2 (List.drop o2 R) = b) (hR2 : o2 + n2 ≤ R.length) : ∀ y : Nat × Nat × List UInt32,
  (y.1 ≤ a.length ∧ y.2.1 ≤ 1 ∧ y.2.2.length = y.1 ∧ val y.2.2 + val (b.take y.1) = val (a.take y.1) + 4294967296 ^ y.1 * y.2.1) →
  ∃ r, (∃ (c : Nat) (m : List UInt32), r = (Ex.n, (⟨[], [(.bor 0, ⟨0, .own, 1, u32s (P ++ (m ++ S))⟩), (.bor 1, ⟨1, .own, 1, u32s R⟩)], 6⟩ : St)) ∧
   m.length = a.length ∧ c ≤ 1 ∧ val m + val (b.take a.length) = val a + 4294967296 ^ a.length * c) ∧
   loopN T 2 0 (.norm false []) l2097_0 (stLw (P ++ (y.2.2 ++ (a.drop y.1 ++ S))) R P.length a.length o2 n2 y.2.1 y.1) = some r := by
 refine loopN_ex (fun y : Nat × Nat × List UInt32 => stLw (P ++ (y.2.2 ++ (a.drop y.1 ++ S))) R P.length a.length o2 n2 y.2.1 y.1) _ (fun y => a.length - y.1) _ ?_
 rintro ⟨i, c, m⟩ ⟨hi, hc, hm, hv⟩
 simp only at hi hc hm hv
 by_cases h0 : i < a.length
 ·left
  have lx := u32_lt (a[i]'h0)
  have lb := atW_lt b i
  have hstep := lw_step (T := T) (P ++ (m ++ (a.drop i ++ S))) R b P.length a.length o2 n2 c i (a[i]'h0) h0 hl hb hc (get_win hm h0) hR hR2
  rw [set_win hm h0] at hstep
  by_cases hlt : (a[i]'h0).toNat < atW b i + c
  ·rw [if_pos hlt, if_pos hlt] at hstep
   exact ⟨(i + 1, 1, m ++ [w32 ((a[i]'h0).toNat + 4294967296 - (atW b i + c))]), ⟨h0, Nat.le_refl _, by simp [hm], by simp only; exact ls_law (P := P) (S := S) hm h0 hv (by omega) (by omega)⟩, by simp only; omega, hstep⟩
  ·rw [if_neg hlt, if_neg hlt] at hstep
   exact ⟨(i + 1, 0, m ++ [w32 ((a[i]'h0).toNat - (atW b i + c))]), ⟨h0, Nat.zero_le _, by simp [hm], by simp only; exact ls_law (P := P) (S := S) hm h0 hv (by omega) (by omega)⟩, by simp only; omega, hstep⟩
 ·right
  have : i = a.length := by omega
  subst this
  rw [List.take_of_length_le (Nat.le_refl a.length)] at hv
  refine ⟨_, ⟨c, m, rfl, hm, hc, hv⟩, ?_, ?_⟩ <;> simp -implicitDefEqProofs [l2097_0, stLw]
theorem ref05_less2 (P a S P2 b S2 : List UInt32) (hl : a.length ≤ 1000000) (hb : b.length ≤ a.length) (hab : val b ≤ val a) :
  ∃ m : List UInt32, m.length = a.length ∧ val m = val a - val b ∧
   callH T 2097 [.bs (.bor 0) 0 1 P.length a.length, .bs (.bor 1) 1 1 P2.length b.length] [(.bor 0, ⟨0, .own, 1, u32s (P ++ (a ++ S))⟩), (.bor 1, ⟨1, .own, 1, u32s (P2 ++ (b ++ S2))⟩)] =
    some (.tup [], [(.bor 0, ⟨0, .own, 1, u32s (P ++ (m ++ S))⟩), (.bor 1, ⟨1, .own, 1, u32s (P2 ++ (b ++ S2))⟩)]) := by
 obtain ⟨_, ⟨c, m, rfl, hm, hc, hv⟩, hr⟩ := lw_loop (T := T) P a S (P2 ++ (b ++ S2)) b P2.length b.length hl (by omega) (by simp) (by simp) (0, 0, []) ⟨Nat.zero_le _, Nat.zero_le _, rfl, by simp⟩
 rw [List.take_of_length_le hb] at hv
 have hlo := val_lt m
 rw [hm] at hlo
 have hval : val m = val a - val b := by
  rcases Nat.eq_zero_or_pos c with h1 | h1
  ·subst h1; omega
  ·have : c = 1 := by omega
   subst this
   omega
 refine ⟨m, hm, hval, ?_⟩
 unfold stLw at hr
 simp only [List.nil_append, List.drop_zero, Int.natCast_zero] at hr
 rw [f2097 _ _ rfl, b2097]
 generalize P ++ (a ++ S) = Q at *
 generalize P ++ (m ++ S) = Q2 at *
 generalize P2 ++ (b ++ S2) = R at *
 clear hv hlo hval
 simp -implicitDefEqProofs [hr]
theorem ref06_one (a : List UInt32) : callF T 229 [.sl (u32s (ofN (val a))) .an] = some (.b (decide (val a = 1))) := by
 rw [f229 _ rfl, b229]
 generalize val a = n
 by_cases h0 : n = 0
 ·subst h0
  simp -implicitDefEqProofs
 ·rw [ofN_pos h0]
  by_cases h1 : n / 4294967296 = 0
  ·have e : ofN (n / 4294967296) = [] := ofN_eq_nil.2 h1
   have e2 : n % 4294967296 = n := Nat.mod_eq_of_lt (by omega)
   simp -implicitDefEqProofs [e, u32s, w32_mod, e2]
  ·have h2 : ¬ ofN (n / 4294967296) = [] := fun e => h1 (ofN_eq_nil.1 e)
   have h3 : ¬ n = 1 := by rintro rfl; simp at h1
   have h4 : ¬ ((ofN (n / 4294967296)).length : Int) + 1 = 1 := by
    have := List.length_pos_iff.2 h2
    omega
   simp -implicitDefEqProofs [u32s, h3, h4]
theorem ref06_over (a g : List UInt32) (ha : a.length ≤ 10000) (hg : g.length ≤ 10000) (h0 : val g ≠ 0) : callF T 230 [.sl (u32s a) .an, .sl (u32s (ofN (val g))) .an] = some (.sl (u32s (ofN (val a / val g))) .an) := by
 have ho := ref06_one (T := T) g
 have hn := ref02_norm (T := T) a (by omega)
 have hd := ref05_div (T := T) a (ofN (val g)) (by omega) (by have := ofN_length_le g; omega) (by rw [val_ofN]; omega)
 rw [val_ofN] at hd
 rw [f230 _ rfl, b230]
 by_cases h1 : val g = 1
 ·rw [h1] at ho hd ⊢
  simp -implicitDefEqProofs [ho, hn]
 ·simp -implicitDefEqProofs [ho, h1, hd]
theorem ref06_double (a : List UInt32) (k : Nat) (ha : a.length ≤ 10000) (hk : k ≤ 1000000) : callF T 227 [.sl (u32s a) .an, .i .i64 k] = some (.sl (u32s (ofN (2 ^ k * val a))) .an) := by
 have hq : (k : Int).tdiv 32 = (k : Int) / 32 := Int.tdiv_eq_ediv_of_nonneg (by omega)
 have hm2 : (k : Int).tmod 32 = (k : Int) % 32 := Int.tmod_eq_emod_of_nonneg (by omega)
 have s0 : ¬ (k : Int) % 32 < 0 := by omega
 have s1 : ((k : Int) % 32).toNat = k % 32 := by omega
 have s2 : min (k % 32) 32 = k % 32 := by omega
 have w1 : IntKind.wrap .i64 ((k : Int) / 32) = ((k / 32 : Nat) : Int) := by rw [wrap_i64 (k / 32) (by omega)]; omega
 have h2 : 2 ^ (k % 32) < 4294967296 := by
  have := Nat.pow_lt_pow_right (show 1 < 2 by decide) (Nat.mod_lt k (show 0 < 32 by decide))
  have h4 : (2 : Nat) ^ 32 = 4294967296 := rfl
  omega
 have s3 : 2 ^ (k % 32) % 4294967296 = 2 ^ (k % 32) := Nat.mod_eq_of_lt h2
 have hmul := ref04_mul (T := T) (List.replicate (k / 32) 0 ++ a) [w32 (2 ^ (k % 32))] (by simp; omega) (by simp)
 have hv : val (List.replicate (k / 32) 0 ++ a) * val [w32 (2 ^ (k % 32))] = 2 ^ k * val a := by
  rw [val_append, val_replicate, List.length_replicate, val_cons, val_nil, w32_of_lt h2, Nat.mul_zero, Nat.add_zero, Nat.zero_add, pow32, Nat.mul_comm, ← Nat.mul_assoc, ← Nat.pow_add, show k % 32 + 32 * (k / 32) = k by omega]
 rw [hv] at hmul
 have b2 : k / 32 + a.length ≤ 4294967296 := by omega
 have b3 : ((k / 32 : Nat) : Int) ≤ 4294967296 := by omega
 have hu : u32s [w32 (2 ^ (k % 32))] = [[u32 (2 ^ (k % 32))]] := by simp [u32s, w32_of_lt h2]
 rw [hu] at hmul
 have ht : List.take (k / 32 + a.length) (List.replicate (k / 32) 0 ++ a) = List.replicate (k / 32) 0 ++ a := List.take_of_length_le (by simp)
 rw [f227 _ rfl, b227]
 generalize 2 ^ k * val a = V at *
 clear hv hu
 generalize k / 32 = q at *
 simp -implicitDefEqProofs [hq, hm2, w1, s0, s1, s2, s3, hmul, b2, b3, ht]
def nmX : BId := .fld (.loc 12) 22
def nmY : BId := .fld (.loc 14) 22
def nm2 (f : Bool) : BId × BId := if f then (nmX, nmY) else (nmY, nmX)
def stGc (f : Bool) (P a S P2 b S2 : List UInt32) (m n : Nat) : St :=
 ⟨[(5, .bs (nm2 f).1 1 1 P.length a.length), (6, .bs (nm2 f).2 2 1 P2.length b.length), (7, .i .i64 m), (8, .i .i64 n)], [((nm2 f).1, ⟨1, .own, 1, u32s (P ++ (a ++ S))⟩), ((nm2 f).2, ⟨2, .own, 1, u32s (P2 ++ (b ++ S2))⟩)], 4⟩
theorem gc_gt (f : Bool) (P S P2 S2 : List UInt32) (X Y m n : Nat) (hX : (ofN X).length ≤ 10000) (hY : (ofN Y).length ≤ 10000) (h : Y < X) :
  ∃ (P' S' : List UInt32) (k x : Nat), X - Y = 2 ^ k * x ∧ x % 2 = 1 ∧
   evX (orc T) T 0 l228_0 (stGc f P (ofN X) S P2 (ofN Y) S2 m n) = some (.n, stGc f P' (ofN x) S' P2 (ofN Y) S2 m n) := by
 have hc := ref02_cmp (T := T) (ofN X) (ofN Y) (by omega) (by omega)
 rw [val_ofN, val_ofN, show cmpN X Y = 1 by unfold cmpN; rw [if_neg (by omega), if_pos h]] at hc
 obtain ⟨d, hd, hv, hless⟩ := ref05_less2 (T := T) P (ofN X) S P2 (ofN Y) S2 (by omega) (ofN_len_le (Nat.le_of_lt h)) (by rw [val_ofN, val_ofN]; omega)
 rw [val_ofN, val_ofN] at hv
 obtain ⟨P', S', x, k, e1, e2, e3, e4, e5, hodd⟩ := ref06_odd (T := T) P d S (by omega) (by omega)
 refine ⟨P', S', k, x, by omega, e2, ?_⟩
 have t1 : List.take (ofN X).length (List.drop P.length (P ++ (ofN X ++ S))) = ofN X := by simp
 have t2 : List.take (ofN Y).length (List.drop P2.length (P2 ++ (ofN Y ++ S2))) = ofN Y := by simp
 have b1 : P.length + (ofN X).length ≤ (P ++ (ofN X ++ S)).length := by simp
 have b2 : P2.length + (ofN Y).length ≤ (P2 ++ (ofN Y ++ S2)).length := by simp
 rw [hd] at hodd
 unfold stGc
 clear hv e1 e3 e4 e5 hd hX hY
 generalize P ++ (ofN X ++ S) = Q at *
 generalize P2 ++ (ofN Y ++ S2) = R at *
 generalize P' ++ (ofN x ++ S') = Q' at *
 generalize P ++ (d ++ S) = Q2 at *
 generalize ofN X = A at *
 generalize ofN Y = B at *
 cases f <;> simp -implicitDefEqProofs [l228_0, nm2, nmX, nmY, hc, t1, t2, b1, b2, hless, hodd]
theorem gc_lt (f : Bool) (P S P2 S2 : List UInt32) (X Y m n : Nat) (hX : (ofN X).length ≤ 10000) (hY : (ofN Y).length ≤ 10000) (h : X < Y) :
  ∃ (P' S' : List UInt32) (k x : Nat), Y - X = 2 ^ k * x ∧ x % 2 = 1 ∧
   evX (orc T) T 0 l228_0 (stGc f P (ofN X) S P2 (ofN Y) S2 m n) = some (.n, stGc (!f) P' (ofN x) S' P (ofN X) S m n) := by
 have hc := ref02_cmp (T := T) (ofN X) (ofN Y) (by omega) (by omega)
 rw [val_ofN, val_ofN, show cmpN X Y = -1 by unfold cmpN; rw [if_pos h]] at hc
 obtain ⟨d, hd, hv, hless⟩ := ref05_less2 (T := T) P2 (ofN Y) S2 P (ofN X) S (by omega) (ofN_len_le (Nat.le_of_lt h)) (by rw [val_ofN, val_ofN]; omega)
 rw [val_ofN, val_ofN] at hv
 obtain ⟨P', S', x, k, e1, e2, e3, e4, e5, hodd⟩ := ref06_odd (T := T) P2 d S2 (by omega) (by omega)
 refine ⟨P', S', k, x, by omega, e2, ?_⟩
 have t1 : List.take (ofN X).length (List.drop P.length (P ++ (ofN X ++ S))) = ofN X := by simp
 have t2 : List.take (ofN Y).length (List.drop P2.length (P2 ++ (ofN Y ++ S2))) = ofN Y := by simp
 have b1 : P.length + (ofN X).length ≤ (P ++ (ofN X ++ S)).length := by simp
 have b2 : P2.length + (ofN Y).length ≤ (P2 ++ (ofN Y ++ S2)).length := by simp
 rw [hd] at hodd
 unfold stGc
 clear hv e1 e3 e4 e5 hd hX hY
 generalize P ++ (ofN X ++ S) = Q at *
 generalize P2 ++ (ofN Y ++ S2) = R at *
 generalize P' ++ (ofN x ++ S') = Q' at *
 generalize P2 ++ (d ++ S2) = Q2 at *
 generalize ofN X = A at *
 generalize ofN Y = B at *
 cases f <;> simp -implicitDefEqProofs [l228_0, nm2, nmX, nmY, hc, t1, t2, b1, b2, hless, hodd]
theorem gc_eq (f : Bool) (P S P2 S2 : List UInt32) (X m n : Nat) (hX : (ofN X).length ≤ 10000) {G : Option (Ex × St)}
  (hG : G = some (.n, ⟨[(5, .bs (nm2 f).1 1 1 P.length (ofN X).length), (7, .i .i64 m), (8, .i .i64 n)], [((nm2 f).1, ⟨1, .own, 1, u32s (P ++ (ofN X ++ S))⟩)], 3⟩)) :
  isEx (evX (orc T) T 0 l228_0 (stGc f P (ofN X) S P2 (ofN X) S2 m n)) = true ∧ finX 0 0 (Gh.norm false [5, 7, 8]) (evX (orc T) T 0 l228_0 (stGc f P (ofN X) S P2 (ofN X) S2 m n)) = G := by
 subst hG
 have hc := ref02_cmp (T := T) (ofN X) (ofN X) (by omega) (by omega)
 rw [val_ofN, show cmpN X X = 0 by unfold cmpN; rw [if_neg (by omega), if_neg (by omega)]] at hc
 have t1 : List.take (ofN X).length (List.drop P.length (P ++ (ofN X ++ S))) = ofN X := by simp
 have t2 : List.take (ofN X).length (List.drop P2.length (P2 ++ (ofN X ++ S2))) = ofN X := by simp
 have b1 : P.length + (ofN X).length ≤ (P ++ (ofN X ++ S)).length := by simp
 have b2 : P2.length + (ofN X).length ≤ (P2 ++ (ofN X ++ S2)).length := by simp
 unfold stGc
 generalize P ++ (ofN X ++ S) = Q at *
 generalize P2 ++ (ofN X ++ S2) = R at *
 generalize ofN X = A at *
 cases f <;> constructor <;> simp -implicitDefEqProofs [l228_0, nm2, nmX, nmY, hc, t1, t2, b1, b2]
structure Gc where
 f : Bool
 P : List UInt32
 S : List UInt32
 P2 : List UInt32
 S2 : List UInt32
 X : Nat
 Y : Nat
theorem gc_loop (G m n : Nat) : ∀ y : Gc, ((ofN y.X).length ≤ 10000 ∧ (ofN y.Y).length ≤ 10000 ∧ y.X % 2 = 1 ∧ y.Y % 2 = 1 ∧ Nat.gcd y.X y.Y = G) →
  ∃ r, (∃ (f : Bool) (P S : List UInt32), r = (Ex.n, (⟨[(5, .bs (nm2 f).1 1 1 P.length (ofN G).length), (7, .i .i64 m), (8, .i .i64 n)], [((nm2 f).1, ⟨1, .own, 1, u32s (P ++ (ofN G ++ S))⟩)], 3⟩ : St))) ∧
   loopN T 0 0 (.norm false [5, 7, 8]) l228_0 (stGc y.f y.P (ofN y.X) y.S y.P2 (ofN y.Y) y.S2 m n) = some r := by
 refine loopN_ex (fun y : Gc => stGc y.f y.P (ofN y.X) y.S y.P2 (ofN y.Y) y.S2 m n) _ (fun y => y.X + y.Y) _ ?_
 rintro ⟨f, P, S, P2, S2, X, Y⟩ ⟨hX, hY, oX, oY, hG⟩
 simp only at hX hY oX oY hG ⊢
 rcases Nat.lt_trichotomy X Y with h | h | h
 ·left
  obtain ⟨P', S', k, x, e1, e2, he⟩ := gc_lt (T := T) f P S P2 S2 X Y m n hX hY h
  have hle : x ≤ Y - X := by rw [e1]; exact Nat.le_mul_of_pos_left _ (Nat.pow_pos (by decide))
  refine ⟨⟨!f, P', S', P, S, x, X⟩, ⟨?_, hX, e2, oX, ?_⟩, by simp only; omega, he⟩
  ·have := ofN_len_le (show x ≤ Y by omega)
   simp only; omega
  ·simp only
   rw [gcd_less oX (Nat.le_of_lt h) e1, ← hG, Nat.gcd_comm]
 ·right
  subst h
  rw [Nat.gcd_self] at hG
  subst hG
  obtain ⟨h1, h2⟩ := gc_eq (T := T) f P S P2 S2 X m n hX rfl
  exact ⟨_, ⟨f, P, S, rfl⟩, h1, h2⟩
 ·left
  obtain ⟨P', S', k, x, e1, e2, he⟩ := gc_gt (T := T) f P S P2 S2 X Y m n hX hY h
  have hle : x ≤ X - Y := by rw [e1]; exact Nat.le_mul_of_pos_left _ (Nat.pow_pos (by decide))
  refine ⟨⟨f, P', S', P2, S2, x, Y⟩, ⟨?_, hY, e2, oY, ?_⟩, by simp only; omega, he⟩
  ·have := ofN_len_le (show x ≤ X by omega)
   simp only; omega
  ·simp only
   rw [gcd_less oY (Nat.le_of_lt h) e1, ← hG]
theorem ref06_gcd (a b : List UInt32) (ha : a.length ≤ 10000) (hb : b.length ≤ 10000) : callF T 228 [.sl (u32s a) .an, .sl (u32s b) .an] = some (.sl (u32s (ofN (Nat.gcd (val a) (val b)))) .an) := by
 have n1 := ref02_norm_own (T := T) a (by omega)
 have n2 := ref02_norm_own (T := T) b (by omega)
 have la := ofN_length_le a
 have lb := ofN_length_le b
 rw [f228 _ rfl, b228]
 generalize val a = X at *
 generalize val b = Y at *
 have tX : List.take (ofN X).length (ofN X) = ofN X := List.take_of_length_le (Nat.le_refl _)
 have tY : List.take (ofN Y).length (ofN Y) = ofN Y := List.take_of_length_le (Nat.le_refl _)
 by_cases hX : X = 0
 ·subst hX
  rw [Nat.gcd_zero_left]
  simp only [ofN_zero] at n1
  generalize ofN Y = B at *
  simp -implicitDefEqProofs [n1, n2, tY]
 ·have eX : ¬ ofN X = [] := fun e => hX (ofN_eq_nil.1 e)
  by_cases hY : Y = 0
  ·subst hY
   rw [Nat.gcd_zero_right]
   simp only [ofN_zero] at n2
   generalize ofN X = A at *
   simp -implicitDefEqProofs [n1, n2, eX, tX]
  ·have eY : ¬ ofN Y = [] := fun e => hY (ofN_eq_nil.1 e)
   obtain ⟨P1, S1, x, m, e1, e2, e3, e4, e5, o1⟩ := ref06_odd (T := T) [] (ofN X) [] (by omega) (by rw [val_ofN]; exact hX)
   obtain ⟨P2, S2, y, n, g1, g2, g3, g4, g5, o2⟩ := ref06_odd (T := T) [] (ofN Y) [] (by omega) (by rw [val_ofN]; exact hY)
   rw [val_ofN] at e1 g1
   obtain ⟨_, ⟨f, P, S, rfl⟩, hl⟩ := gc_loop (T := T) (Nat.gcd x y) m n ⟨true, P1, S1, P2, S2, x, y⟩ ⟨by simp only; omega, by simp only; omega, e2, g2, rfl⟩
   have hG : Nat.gcd X Y = 2 ^ (min m n) * Nat.gcd x y := by rw [e1, g1]; exact gcd_two e2 g2
   have hgl : (ofN (Nat.gcd x y)).length ≤ 10000 := by
    have := ofN_len_le (Nat.gcd_le_left y (show 0 < x by omega))
    omega
   have hdb := ref06_double (T := T) (ofN (Nat.gcd x y)) (min m n) hgl (by omega)
   rw [val_ofN, ← hG] at hdb
   simp only [List.nil_append, List.append_nil, List.length_nil] at o1 o2
   unfold stGc at hl
   have t1 : List.take (ofN (Nat.gcd x y)).length (List.drop P.length (P ++ (ofN (Nat.gcd x y) ++ S))) = ofN (Nat.gcd x y) := by simp
   have b1 : P.length + (ofN (Nat.gcd x y)).length ≤ (P ++ (ofN (Nat.gcd x y) ++ S)).length := by simp
   have hmin : (if n < m then (n : Int) else (m : Int)) = ((min m n : Nat) : Int) := by split <;> omega
   clear e1 e2 e3 e4 e5 g1 g2 g3 g4 g5 hG hgl
   generalize min m n = K at *
   generalize P ++ (ofN (Nat.gcd x y) ++ S) = Q at *
   generalize P1 ++ (ofN x ++ S1) = Q1 at *
   generalize P2 ++ (ofN y ++ S2) = Q2 at *
   generalize ofN (Nat.gcd x y) = g at *
   generalize ofN (Nat.gcd X Y) = g' at *
   simp only [nm2, nmX, nmY, if_true] at hl
   generalize ofN X = A at *
   generalize ofN Y = B at *
   cases f <;> simp only [Bool.false_eq_true, if_false, if_true] at hl <;> simp -implicitDefEqProofs [n1, n2, eX, eY, o1, o2, hl, hdb, t1, b1, hmin, mm2]
end
end Go.Ab
end

section
namespace Go.Ab
section
variable {T : Tbl} [CRef08 T]
theorem ref08_norm (n : Bool) (a : List UInt32) (ha : a.length ≤ 1000000) : callF T 39 [wh n a] = some (ez (wv n a)) := by
 have h := ref02_norm (T := T) a ha
 have hl : (0 < (ofN (val a)).length) = (val a ≠ 0) := by
  rw [eq_iff_iff, List.length_pos_iff]
  exact not_congr ofN_eq_nil
 rw [f39 _ rfl, b39]
 unfold wv
 rw [ez_sg]
 cases n <;> simp -implicitDefEqProofs [h, hl]
theorem ref08_add (n m : Bool) (a b : List UInt32) (ha : a.length ≤ 10000) (hb : b.length ≤ 10000) : callF T 24 [wh n a, wh m b] = some (ez (wv n a + wv m b)) := by
 have hc := ref02_cmp (T := T) a b (by omega) (by omega)
 rw [f24 _ rfl, b24]
 have fin : ∀ (s : Bool) (k : Nat), sg s k = wv n a + wv m b → (ofN k).length ≤ 1000000 → callF T 39 [wh s (ofN k)] = some (ez (wv n a + wv m b)) := by
  intro s k h1 h2
  rw [ref08_norm (T := T) s (ofN k) h2]
  have : wv s (ofN k) = sg s k := by unfold wv; rw [val_ofN]
  rw [this, h1]
 have hla := ofN_length_le a
 have hlb := ofN_length_le b
 obtain ⟨z, hz⟩ : ∃ z, z = wv n a + wv m b := ⟨_, rfl⟩
 by_cases h : n = m
 ·subst h
  have h1 := ref02_add (T := T) a b (by omega) (by omega)
  have h2 := fin n (val a + val b) (sg_add_same _ _ _) (by
   have := abs_add_len (x := (val a : Int)) (y := val b) (L := 10000) (by simpa using Nat.le_trans hla ha) (by simpa using Nat.le_trans hlb hb)
   have e : ((val a : Int) + val b).natAbs = val a + val b := by omega
   rw [e] at this
   omega)
  rw [← hz] at h2 ⊢
  simp -implicitDefEqProofs [h1, h2]
 ·by_cases hlt : val a < val b
  ·have h1 := ref02_sub (T := T) b a (by omega) (by omega) (by omega)
   have h2 := fin m (val b - val a) (sg_add_lt h hlt) (by have := ofN_len_le (Nat.sub_le (val b) (val a)); omega)
   rw [← hz] at h2 ⊢
   simp -implicitDefEqProofs [h, hc, cmpN_lt, hlt, h1, h2]
  ·have h1 := ref02_sub (T := T) a b (by omega) (by omega) (by omega)
   have h2 := fin n (val a - val b) (sg_add_ge h hlt) (by have := ofN_len_le (Nat.sub_le (val a) (val b)); omega)
   rw [← hz] at h2 ⊢
   simp -implicitDefEqProofs [h, hc, cmpN_lt, hlt, h1, h2]
end
end Go.Ab
end

section
namespace Go.Ab
theorem sg_mulr (n : Bool) (x y : Nat) : sg n (x * y) = sg n x * (y : Int) := by cases n <;> simp [sg, Int.neg_mul]
theorem fz_den (q : Rat) : val (fz q).2.2 ≠ 0 := by
 unfold fz
 rw [val_ofN]
 exact q.den_nz
section
variable {T : Tbl} [CRef02 T] [CRef04 T] [CRef05 T] [CRef07 T] [CRef06 T] [CRef08 T] [CRef09 T]
theorem ref09_norm (x : Fz) (hx : fsz x ≤ 10000) : callF T 231 [efz x] = some (efz (fz (fv x))) := by
 obtain ⟨n, a, d⟩ := x
 have la := fsz_a (n, a, d)
 have ld := fsz_d (n, a, d)
 simp only at la ld
 have n1 := ref02_norm (T := T) a (by omega)
 have n2 := ref02_norm (T := T) d (by omega)
 have la2 := ofN_length_le a
 have ld2 := ofN_length_le d
 have ho := ref06_one (T := T) d
 have hg := ref06_gcd (T := T) (ofN (val a)) (ofN (val d)) (by omega) (by omega)
 rw [val_ofN, val_ofN] at hg
 show _ = some (efz (fz (mkRat (sg n (val a)) (val d))))
 by_cases hd : val d = 0
 ·rw [hd, Rat.mkRat_zero, fz_zero, f231 _ rfl, b231]
  rw [hd] at n2
  simp only [ofN_zero] at n2
  simp -implicitDefEqProofs [n1, n2, show u32s [1] = [[u32 1]] from rfl]
 ·by_cases ha : val a = 0
  ·have e0 : mkRat (sg n (val a)) (val d) = 0 := by rw [Rat.mkRat_eq_zero hd, ha]; cases n <;> rfl
   have ed : ¬ ofN (val d) = [] := fun e => hd (ofN_eq_nil.1 e)
   rw [e0, fz_zero, f231 _ rfl, b231]
   rw [ha] at n1
   simp only [ofN_zero] at n1
   simp -implicitDefEqProofs [n1, n2, ed, show u32s [1] = [[u32 1]] from rfl]
  ·have ea : ¬ ofN (val a) = [] := fun e => ha (ofN_eq_nil.1 e)
   have ed : ¬ ofN (val d) = [] := fun e => hd (ofN_eq_nil.1 e)
   rw [fz_mk n (val a) hd, show decide (val a ≠ 0) = true by simpa using ha, Bool.and_true]
   have gpos : Nat.gcd (val a) (val d) ≠ 0 := by
    have := Nat.gcd_pos_of_pos_right (val a) (Nat.pos_of_ne_zero hd)
    omega
   have glen : (ofN (Nat.gcd (val a) (val d))).length ≤ 10000 := by
    have := ofN_len_le (Nat.gcd_le_right (val a) (Nat.pos_of_ne_zero hd))
    omega
   have o1 := ref06_over (T := T) (ofN (val a)) (ofN (Nat.gcd (val a) (val d))) (by omega) glen (by rw [val_ofN]; exact gpos)
   have o2 := ref06_over (T := T) (ofN (val d)) (ofN (Nat.gcd (val a) (val d))) (by omega) glen (by rw [val_ofN]; exact gpos)
   rw [val_ofN, val_ofN] at o1 o2
   rw [f231 _ rfl, b231]
   by_cases h1 : val d = 1
   ·rw [h1] at n2 ho ed ⊢
    rw [Nat.gcd_one_right, Nat.div_one, Nat.div_one]
    generalize ofN (val a) = A at *
    generalize ofN 1 = O at *
    simp -implicitDefEqProofs [n1, n2, ho, ea, ed]
   ·generalize ofN (val a / Nat.gcd (val a) (val d)) = A' at *
    generalize ofN (val d / Nat.gcd (val a) (val d)) = D' at *
    generalize ofN (Nat.gcd (val a) (val d)) = G at *
    generalize ofN (val a) = A at *
    generalize ofN (val d) = D at *
    simp -implicitDefEqProofs [n1, n2, ho, ea, ed, h1, hg, o1, o2]
theorem ref02_of (n : Nat) (h : n < 18446744073709551616) : callF T 353 [u64 n] = some (.sl (u32s (ofN n)) .an) := by
 have e2 : val [w32 n, w32 (n / 4294967296)] = n := by simp [w32_mod]; omega
 have h2 := ref02_norm (T := T) [w32 n, w32 (n / 4294967296)] (by simp)
 rw [e2] at h2
 have h3 : n / 4294967296 % 4294967296 = n / 4294967296 := Nat.mod_eq_of_lt (by omega)
 have h4 : n / 4294967296 % 18446744073709551616 = n / 4294967296 := Nat.mod_eq_of_lt (by omega)
 rw [f353 _ rfl, b353]
 simp -implicitDefEqProofs [h3, h4, u32s_set _ _ _ (show n / 4294967296 < 4294967296 by omega), h2]
theorem ref09_int (k : Int) (h1 : -9223372036854775808 ≤ k) (h2 : k < 9223372036854775808) : callF T 232 [.i .i64 k] = some (efz (fz (k : Rat))) := by
 have hu : u32s [1] = [[u32 1]] := rfl
 rw [f232 _ rfl, b232]
 by_cases hk : k < 0
 ·have w1 : IntKind.wrap .i64 (k + 1) = k + 1 := wrap_i64 _ (by omega)
  have w2 : IntKind.wrap .i64 (-(k + 1)) = -(k + 1) := wrap_i64 _ (by omega)
  have w3 : (-(k + 1) % 18446744073709551616).toNat = k.natAbs - 1 := by omega
  have c1 := ref02_of (T := T) (k.natAbs - 1) (by omega)
  have c2 := ref02_add (T := T) (ofN (k.natAbs - 1)) [1] (by have := ofN_length_le' (n := k.natAbs - 1) (k := 2) (by show _ < 18446744073709551616; omega); omega) (by decide)
  have e1 : val (ofN (k.natAbs - 1)) + val [1] = k.natAbs := by rw [val_ofN]; show _ + (1 + 4294967296 * 0) = _; omega
  rw [e1, hu] at c2
  have c3 := ref09_norm (T := T) (true, ofN k.natAbs, [1]) (by
   have := ofN_length_le' (n := k.natAbs) (k := 2) (by show _ < 18446744073709551616; omega)
   unfold fsz; simp only [List.length_singleton]; omega)
  have e2 : fv (true, ofN k.natAbs, [1]) = (k : Rat) := by
   unfold fv wv
   simp only [val_ofN]
   rw [show val [1] = 1 from rfl, show sg true k.natAbs = k by unfold sg; rw [if_pos rfl]; omega]
   rw [← Rat.divInt_ofNat]
   exact Rat.num_divInt_den (k : Rat)
  rw [e2] at c3
  change callF T 231 [.agg [.b true, .sl (u32s (ofN k.natAbs)) .an, .sl (u32s [1]) .an]] = _ at c3
  rw [hu] at c3
  generalize fz (k : Rat) = z at *
  simp -implicitDefEqProofs [hk, w1, w2, w3, c1, c2, c3]
 ·have w3 : (k % 18446744073709551616).toNat = k.natAbs := by omega
  have c1 := ref02_of (T := T) k.natAbs (by omega)
  have c3 := ref09_norm (T := T) (false, ofN k.natAbs, [1]) (by
   have := ofN_length_le' (n := k.natAbs) (k := 2) (by show _ < 18446744073709551616; omega)
   unfold fsz; simp only [List.length_singleton]; omega)
  have e2 : fv (false, ofN k.natAbs, [1]) = (k : Rat) := by
   unfold fv wv
   simp only [val_ofN]
   rw [show val [1] = 1 from rfl, show sg false k.natAbs = k by unfold sg; simp; omega]
   rw [← Rat.divInt_ofNat]
   exact Rat.num_divInt_den (k : Rat)
  rw [e2] at c3
  change callF T 231 [.agg [.b false, .sl (u32s (ofN k.natAbs)) .an, .sl (u32s [1]) .an]] = _ at c3
  rw [hu] at c3
  generalize fz (k : Rat) = z at *
  simp -implicitDefEqProofs [hk, w3, c1, c3]
theorem ref09_int0 : callF T 232 [.i .i64 0] = some (efz (fz 0)) := ref09_int 0 (by decide) (by decide)
theorem ref09_int1 : callF T 232 [.i .i64 1] = some (efz (fz 1)) := ref09_int 1 (by decide) (by decide)
theorem ref09_same (x y : Fz) (hx : fsz x ≤ 10000) : callF T 233 [efz x, efz y] = some (.b (decide (x = y))) := by
 obtain ⟨n, a, d⟩ := x
 obtain ⟨m, b, e⟩ := y
 have la := fsz_a (n, a, d)
 have ld := fsz_d (n, a, d)
 simp only at la ld
 have c1 := ref02_same (T := T) a b (by omega)
 have c2 := ref02_same (T := T) d e (by omega)
 rw [f233 _ rfl, b233]
 by_cases h1 : n = m
 ·subst h1
  by_cases h2 : a = b
  ·subst h2
   by_cases h3 : d = e
   ·subst h3
    simp -implicitDefEqProofs [c1, c2]
   ·simp -implicitDefEqProofs [c1, c2, h3]
  ·simp -implicitDefEqProofs [c1, h2]
 ·simp -implicitDefEqProofs [c1, c2, h1]
theorem ref09_long (x : Fz) (k : Nat) : callF T 247 [efz x, .i .i64 k] = some (.b (decide (k < fsz x))) := by
 obtain ⟨n, a, d⟩ := x
 unfold fsz
 rw [f247 _ rfl, b247]
 by_cases h1 : k < a.length
 ·have h3 : k < max a.length d.length := by omega
  simp -implicitDefEqProofs [h1, h3]
 ·by_cases h2 : k < d.length
  ·have h3 : k < max a.length d.length := by omega
   simp -implicitDefEqProofs [h1, h2, h3]
  ·have h3 : ¬ k < max a.length d.length := by omega
   simp -implicitDefEqProofs [h1, h2, h3]
theorem ref09_neg (x : Fz) (hx : fsz x ≤ 10000) : callF T 237 [efz x] = some (efz (fz (-fv x))) := by
 obtain ⟨n, a, d⟩ := x
 have c3 := ref09_norm (T := T) (!n, a, d) hx
 have e1 : fv (!n, a, d) = -fv (n, a, d) := by
  unfold fv wv
  simp only
  rw [sg_not, Rat.neg_mkRat]
 rw [e1] at c3
 rw [f237 _ rfl, b237]
 generalize fz (-fv (n, a, d)) = z at *
 simp -implicitDefEqProofs [c3]
theorem ref09_add (x y : Fz) (hx : fsz x ≤ 1000) (hy : fsz y ≤ 1000) (h1 : val x.2.2 ≠ 0) (h2 : val y.2.2 ≠ 0) : callF T 239 [efz x, efz y] = some (efz (fz (fv x + fv y))) := by
 obtain ⟨n, a, d⟩ := x
 obtain ⟨m, b, e⟩ := y
 have la := fsz_a (n, a, d)
 have ld := fsz_d (n, a, d)
 have lb := fsz_a (m, b, e)
 have le := fsz_d (m, b, e)
 simp only at la ld lb le h1 h2
 have c1 := ref04_mul (T := T) a e (by omega) (by omega)
 have c2 := ref04_mul (T := T) b d (by omega) (by omega)
 have c4 := ref04_mul (T := T) d e (by omega) (by omega)
 have l1 : (ofN (val a * val e)).length ≤ 2000 := by
  have := nat_mul_len (x := val a) (y := val e) (L := 1000) (M := 1000) (Nat.le_trans (ofN_length_le a) (by omega)) (Nat.le_trans (ofN_length_le e) (by omega))
  omega
 have l2 : (ofN (val b * val d)).length ≤ 2000 := by
  have := nat_mul_len (x := val b) (y := val d) (L := 1000) (M := 1000) (Nat.le_trans (ofN_length_le b) (by omega)) (Nat.le_trans (ofN_length_le d) (by omega))
  omega
 have l4 : (ofN (val d * val e)).length ≤ 2000 := by
  have := nat_mul_len (x := val d) (y := val e) (L := 1000) (M := 1000) (Nat.le_trans (ofN_length_le d) (by omega)) (Nat.le_trans (ofN_length_le e) (by omega))
  omega
 have c3 := ref08_add (T := T) n m (ofN (val a * val e)) (ofN (val b * val d)) (by omega) (by omega)
 have e3 : wv n (ofN (val a * val e)) + wv m (ofN (val b * val d)) = sg n (val a) * (val e : Int) + sg m (val b) * (val d : Int) := by
  unfold wv
  rw [val_ofN, val_ofN, sg_mulr, sg_mulr]
 have l3 : (ofN (sg n (val a) * (val e : Int) + sg m (val b) * (val d : Int)).natAbs).length ≤ 3000 := by
  rw [← e3]
  have := abs_add_len (x := wv n (ofN (val a * val e))) (y := wv m (ofN (val b * val d))) (L := 2000) (Nat.le_trans (wv_len _ _) l1) (Nat.le_trans (wv_len _ _) l2)
  omega
 rw [e3] at c3
 obtain ⟨z, hz⟩ : ∃ z, z = sg n (val a) * (val e : Int) + sg m (val b) * (val d : Int) := ⟨_, rfl⟩
 rw [← hz] at c3 l3
 have c5 := ref09_norm (T := T) (decide (z < 0), ofN z.natAbs, ofN (val d * val e)) (by unfold fsz; simp only; omega)
 have e1 : fv (decide (z < 0), ofN z.natAbs, ofN (val d * val e)) = fv (n, a, d) + fv (m, b, e) := by
  unfold fv
  simp only [val_ofN, wv_ez]
  rw [hz]
  exact (Rat.mkRat_add_mkRat _ _ h1 h2).symm
 rw [e1] at c5
 rw [f239 _ rfl, b239]
 clear e1 e3 hz l1 l2 l3 l4 h1 h2
 generalize fz (fv (n, a, d) + fv (m, b, e)) = R at *
 generalize ofN (val a * val e) = A at *
 generalize ofN (val b * val d) = B at *
 generalize ofN (val d * val e) = D at *
 simp -implicitDefEqProofs [c1, c2, c3, c4, c5, pendOk_cons]
theorem ref09_addQ (p q : Rat) (hp : sz p ≤ 1000) (hq : sz q ≤ 1000) : callF T 239 [efz (fz p), efz (fz q)] = some (efz (fz (p + q))) := by
 have := ref09_add (T := T) (fz p) (fz q) hp hq (fz_den p) (fz_den q)
 rwa [fv_fz, fv_fz] at this
end
end Go.Ab
end

section
namespace Go.Ab
section
variable {T : Tbl} [CRef02 T] [CRef04 T] [CRef05 T] [CRef07 T] [CRef06 T] [CRef08 T] [CRef09 T] [CRef11 T]
def stZ1 (n i : Nat) : St := ⟨[(0, .i .i64 n), (3, .bs (.loc 3) 1 3 0 i), (4, .i .i64 i)], [(.loc 3, ⟨1, .own, 3, rowF (List.replicate i (fz 0))⟩)], 3⟩
def stN1 (l : List Fz) (i : Nat) : St := ⟨[(0, .sl (rowF l) .an), (3, .bs (.loc 3) 1 3 0 i), (4, .i .i64 i)], [(.loc 3, ⟨1, .own, 3, rowF (nrm (l.take i))⟩)], 3⟩
theorem norms_loop (l : List Fz) (hl : l.length ≤ 1000) (hw : ∀ x ∈ l, fsz x ≤ 1000) :
  loopN T 0 0 (.norm false [3]) l278_0 (stN1 l 0) = some (.n, ⟨[(3, .bs (.loc 3) 1 3 0 l.length)], [(.loc 3, ⟨1, .own, 3, rowF (nrm l)⟩)], 3⟩) := by
 refine range_loop (stN1 l) l.length _ (fun i hi => ?_) ?_
 ·have hg : l[i]? = some (l[i]'hi) := List.getElem?_eq_getElem hi
  have hws := wrapS hi (by omega)
  have hn := ref09_norm (T := T) (l[i]'hi) (Nat.le_trans (hw _ (List.getElem_mem hi)) (by decide))
  have e : nrm (l.take (i + 1)) = nrm (l.take i) ++ [fz (fv (l[i]'hi))] := take_map_succ l _ hi
  have hml : (nrm (l.take i)).length = i := by simp [nrm]; omega
  have hp := rowF_push hml (fz (fv (l[i]'hi)))
  unfold stN1
  rw [e]
  clear e
  generalize nrm (l.take i) = M at *
  generalize fz (fv (l[i]'hi)) = z at *
  have hb : i ≤ 4294967295 := by omega
  simp -implicitDefEqProofs [l278_0, hi, hg, hws, hn, hp, hml, hb]
 ·unfold stN1
  rw [List.take_of_length_le (Nat.le_refl _)]
  generalize nrm l = M
  constructor <;> simp -implicitDefEqProofs [l278_0]
theorem ref11_norms (l : List Fz) (hl : l.length ≤ 1000) (hw : ∀ x ∈ l, fsz x ≤ 1000) : callF T 278 [.sl (rowF l) .an] = some (.sl (rowF (nrm l)) .an) := by
 have h := norms_loop (T := T) l hl hw
 unfold stN1 at h
 have e : nrm (l.take 0) = [] := rfl
 rw [e] at h
 simp only [rowF_nil, Int.natCast_zero] at h
 have hl2 : (nrm l).length = l.length := by simp [nrm]
 have ht : List.take l.length (nrm l) = nrm l := List.take_of_length_le (by omega)
 rw [f278 _ rfl, b278]
 simp -implicitDefEqProofs [h, ht, hl2]
def stS1 (a b : List Fz) (i : Nat) : St := ⟨[(0, .sl (rowF a) .an), (1, .sl (rowF b) .an), (5, .i .i64 i)], [], 2⟩
theorem same1_loop (a b : List Fz) (hab : a.length = b.length) (hl : a.length ≤ 1000) (ha : ∀ x ∈ a, fsz x ≤ 10000) :
  loopN T 0 0 (.norm false []) l279_0 (stS1 a b 0) = if a.drop 0 = b.drop 0 then some (.n, ⟨[], [], 2⟩) else some (.r, ⟨[(4, .b false)], [], 2⟩) := by
 refine until_loop (stS1 a b) a.length (fun i => if a.drop i = b.drop i then some (.n, ⟨[], [], 2⟩) else some (.r, ⟨[(4, .b false)], [], 2⟩)) (fun i hi => ?_) ?_
 ·have hga : a[i]? = some (a[i]'hi) := List.getElem?_eq_getElem hi
  have hib : i < b.length := by omega
  have hgb : b[i]? = some (b[i]'hib) := List.getElem?_eq_getElem hib
  have hws := wrapS hi (by omega)
  have c := ref09_same (T := T) (a[i]'hi) (b[i]'hib) (ha _ (List.getElem_mem hi))
  have hib' : (i : Int) < b.length := by omega
  have key : (a.drop i = b.drop i) ↔ ((a[i]'hi) = (b[i]'hib) ∧ a.drop (i + 1) = b.drop (i + 1)) := by
   rw [List.drop_eq_getElem_cons hi, List.drop_eq_getElem_cons hib, List.cons.injEq]
  by_cases he : (a[i]'hi) = (b[i]'hib)
  ·left
   refine ⟨?_, by simp only [key, he, true_and]⟩
   unfold stS1
   rw [decide_eq_true he] at c
   clear he
   simp -implicitDefEqProofs [l279_0, hi, hga, hgb, hws, c, hib, hib']
  ·right
   rw [if_neg (fun h => he (key.1 h).1)]
   unfold stS1
   rw [decide_eq_false he] at c
   clear he
   constructor <;> simp -implicitDefEqProofs [l279_0, hi, hga, hgb, hws, c, hib, hib']
 ·rw [List.drop_length, if_pos (by rw [hab, List.drop_length])]
  unfold stS1
  constructor <;> simp -implicitDefEqProofs [l279_0]
theorem ref11_same (a b : List Fz) (hl : a.length ≤ 1000) (ha : ∀ x ∈ a, fsz x ≤ 10000) : callF T 279 [.sl (rowF a) .an, .sl (rowF b) .an] = some (.b (decide (a = b))) := by
 rw [f279 _ rfl, b279]
 by_cases hab : a.length = b.length
 ·have h := same1_loop (T := T) a b hab hl ha
  rw [List.drop_zero, List.drop_zero] at h
  unfold stS1 at h
  simp only [Int.natCast_zero] at h
  have hab' : (b.length : Int) = a.length := by omega
  by_cases he : a = b
  ·subst he
   rw [if_pos rfl] at h
   simp -implicitDefEqProofs [h]
  ·rw [if_neg he] at h
   simp -implicitDefEqProofs [hab', h, he]
 ·have he : ¬ a = b := fun h => hab (by rw [h])
  have hab' : ¬ (a.length : Int) = b.length := by omega
  simp -implicitDefEqProofs [hab, hab', he]
def stA1 (p q : List Rat) (i : Nat) : St := ⟨[(0, .sl (rowF (fzs p)) .an), (1, .sl (rowF (fzs q)) .an), (5, .bs (.loc 5) 1 3 0 i), (6, .i .i64 i)], [(.loc 5, ⟨1, .own, 3, rowF (fzs ((addP p (fzs q)).take i))⟩)], 3⟩
def stD1 (p q : List Rat) (i : Nat) : St := ⟨[(0, .sl (rowF (fzs p)) .an), (1, .sl (rowF (fzs q)) .an), (4, .ptr (.loc 4) 1 3 0 0), (5, .ptr (.loc 5) 2 3 0 0), (6, .i .i64 i)],
 [(.loc 4, ⟨1, .str, 3, [nocell]⟩), (.loc 5, ⟨2, .str, 3, [celF (fz (dotK (fzs p) (fzs q) i))]⟩)], 4⟩
def longB (l : List Fz) (many words : Nat) : Bool := decide (many < l.length) || l.any fun x => decide (words < fsz x)
def stL1 (l : List Fz) (many words : Nat) (i : Nat) : St := ⟨[(0, .sl (rowF l) .an), (1, .i .i64 many), (2, .i .i64 words), (7, .i .i64 i)], [], 2⟩
theorem long1_loop (l : List Fz) (many words : Nat) (hl : l.length ≤ many) (hm : many ≤ 1000) :
  loopN T 0 0 (.norm false [0, 1]) l286_0 (stL1 l many words 0) = if (l.drop 0).any (fun x => decide (words < fsz x)) = true then some (.r, ⟨[(6, .b true)], [], 2⟩) else some (.n, ⟨[(0, .sl (rowF l) .an), (1, .i .i64 many)], [], 2⟩) := by
 refine until_loop (stL1 l many words) l.length (fun i => if (l.drop i).any (fun x => decide (words < fsz x)) = true then some (.r, ⟨[(6, .b true)], [], 2⟩) else some (.n, ⟨[(0, .sl (rowF l) .an), (1, .i .i64 many)], [], 2⟩)) (fun i hi => ?_) ?_
 ·have hga : l[i]? = some (l[i]'hi) := List.getElem?_eq_getElem hi
  have hws := wrapS hi (by omega)
  have c := ref09_long (T := T) (l[i]'hi) words
  have h3 : (i : Int) < many := by omega
  have h4 : i < many := by omega
  have key : (l.drop i).any (fun x => decide (words < fsz x)) = (decide (words < fsz (l[i]'hi)) || (l.drop (i + 1)).any fun x => decide (words < fsz x)) := by
   rw [List.drop_eq_getElem_cons hi, List.any_cons]
  by_cases he : words < fsz (l[i]'hi)
  ·right
   rw [if_pos (by rw [key, decide_eq_true he, Bool.true_or])]
   rw [decide_eq_true he] at c
   unfold stL1
   clear key he
   constructor <;> simp -implicitDefEqProofs [l286_0, hi, h3, h4, hga, hws, c]
  ·left
   refine ⟨?_, by simp only [key, decide_eq_false he, Bool.false_or]⟩
   rw [decide_eq_false he] at c
   unfold stL1
   clear key he
   simp -implicitDefEqProofs [l286_0, hi, h3, h4, hga, hws, c]
 ·rw [List.drop_length, if_neg (by simp)]
  unfold stL1
  constructor <;> simp -implicitDefEqProofs [l286_0]
theorem ref11_long (l : List Fz) (many words : Nat) (hl : l.length ≤ many) (hm : many ≤ 1000) : callF T 286 [.sl (rowF l) .an, .i .i64 many, .i .i64 words] = some (.b (longB l many words)) := by
 have h := long1_loop (T := T) l many words hl hm
 rw [List.drop_zero] at h
 unfold stL1 at h
 simp only [Int.natCast_zero] at h
 have h1 : ¬ (many : Int) < l.length := by omega
 have h2 : ¬ many < l.length := by omega
 unfold longB
 rw [f286 _ rfl, b286]
 cases hc : l.any fun x => decide (words < fsz x) with
 | true =>
  rw [hc, if_pos rfl] at h
  simp -implicitDefEqProofs [h, h2]
 | false =>
  rw [hc, if_neg (by decide)] at h
  simp -implicitDefEqProofs [h, h1, h2]
theorem long2_loop (l : List Fz) (many words : Nat) (hl : many < l.length) (hm : many ≤ 1000) :
  ∃ r, (r = some (.r, (⟨[(6, .b true)], [], 2⟩ : St)) ∨ r = some (.n, ⟨[(0, .sl (rowF l) .an), (1, .i .i64 many)], [], 2⟩)) ∧ loopN T 0 0 (.norm false [0, 1]) l286_0 (stL1 l many words 0) = r := by
 obtain ⟨G, hG⟩ : ∃ G : Nat → Option (Ex × St), G = fun i => if ((l.take many).drop i).any (fun x => decide (words < fsz x)) = true then some (.r, ⟨[(6, .b true)], [], 2⟩) else some (.n, ⟨[(0, .sl (rowF l) .an), (1, .i .i64 many)], [], 2⟩) := ⟨_, rfl⟩
 refine ⟨G 0, ?_, until_loop (stL1 l many words) many G (fun i hi => ?_) ?_⟩
 ·rw [hG]
  simp only
  split
  ·exact .inl rfl
  ·exact .inr rfl
 ·have hil : i < l.length := by omega
  have hil' : (i : Int) < l.length := by omega
  have hga : l[i]? = some (l[i]'hil) := List.getElem?_eq_getElem hil
  have hws := wrapS hi (by omega)
  have c := ref09_long (T := T) (l[i]'hil) words
  have key : ((l.take many).drop i).any (fun x => decide (words < fsz x)) = (decide (words < fsz (l[i]'hil)) || ((l.take many).drop (i + 1)).any fun x => decide (words < fsz x)) := by
   rw [List.drop_eq_getElem_cons (show i < (l.take many).length by simp; omega), List.any_cons, List.getElem_take]
  by_cases he : words < fsz (l[i]'hil)
  ·right
   rw [hG]
   simp only
   rw [if_pos (by rw [key, decide_eq_true he, Bool.true_or])]
   rw [decide_eq_true he] at c
   unfold stL1
   clear key he hG
   constructor <;> simp -implicitDefEqProofs [l286_0, hi, hil, hil', hga, hws, c]
  ·left
   refine ⟨?_, by rw [hG]; simp only [key, decide_eq_false he, Bool.false_or]⟩
   rw [decide_eq_false he] at c
   unfold stL1
   clear key he hG
   simp -implicitDefEqProofs [l286_0, hi, hil, hil', hga, hws, c]
 ·rw [hG]
  simp only
  rw [List.drop_of_length_le (by simp; omega), if_neg (by simp)]
  have h1 : (many : Int) < l.length := by omega
  unfold stL1
  constructor <;> simp -implicitDefEqProofs [l286_0, h1, hl]
theorem ref11_long2 (l : List Fz) (many words : Nat) (hl : many < l.length) (hm : many ≤ 1000) : callF T 286 [.sl (rowF l) .an, .i .i64 many, .i .i64 words] = some (.b true) := by
 obtain ⟨r, hr, h⟩ := long2_loop (T := T) l many words hl hm
 unfold stL1 at h
 simp only [Int.natCast_zero] at h
 have h1 : (many : Int) < l.length := by omega
 rw [f286 _ rfl, b286]
 rcases hr with rfl | rfl
 ·simp -implicitDefEqProofs [h]
 ·simp -implicitDefEqProofs [h, hl]
theorem ref11_longB (l : List Fz) (many words : Nat) (hm : many ≤ 1000) : callF T 286 [.sl (rowF l) .an, .i .i64 many, .i .i64 words] = some (.b (longB l many words)) := by
 by_cases h : many < l.length
 ·rw [ref11_long2 l many words h hm]
  unfold longB
  rw [decide_eq_true h, Bool.true_or]
 ·exact ref11_long l many words (by omega) hm
theorem longB_false {l : List Fz} {many words : Nat} (h : longB l many words = false) : l.length ≤ many ∧ ∀ x ∈ l, fsz x ≤ words := by
 unfold longB at h
 simp only [Bool.or_eq_false_iff, decide_eq_false_iff_not, List.any_eq_false, decide_eq_true_eq] at h
 exact ⟨by omega, fun x hx => by have := h.2 x hx; omega⟩
end
end Go.Ab
end

section
namespace Go.Ab
theorem blen_eq {x j : Nat} (h1 : 2 ^ j ≤ x) (h2 : x < 2 ^ (j + 1)) : blen x = j + 1 := by
 have hx : x ≠ 0 := by
  have := Nat.pow_pos (n := j) (show 0 < 2 by decide)
  omega
 unfold blen
 rw [if_neg hx, (Nat.log2_eq_iff hx).2 ⟨h1, h2⟩]
def cap300 (n : Int) : Nat := (min (max n 0) 300).toNat
theorem cap300_le (n : Int) : cap300 n ≤ 300 := by unfold cap300; omega
section
variable {T : Tbl} [CRef05 T]
theorem lnx_loop (a : List UInt32) (hl : a.length ≤ 1000000) : ∀ y : Nat, (y ≤ 32 * a.length ∧ val a < 2 ^ y) → loopN T 0 0 (.norm false [3]) l95_0 (stLn a y) = some (.n, ⟨[(3, .i .i64 (blen (val a)))], [], 2⟩) := by
 refine loopN_eq (stLn a) (fun y => y ≤ 32 * a.length ∧ val a < 2 ^ y) (fun y => y) (fun _ => _) ?_
 rintro k ⟨hk, hv⟩
 by_cases h0 : k = 0
 ·right
  subst h0
  have hz : val a = 0 := by
   rw [Nat.pow_zero] at hv
   omega
  have hb : blen (val a) = 0 := by rw [hz]; rfl
  rw [hb]
  constructor <;> simp -implicitDefEqProofs [l95_0, stLn]
 ·obtain ⟨j, rfl⟩ : ∃ j, k = j + 1 := ⟨k - 1, by omega⟩
  have hw : IntKind.wrap .i64 (j : Int) = (j : Int) := wrap_i64 _ (by omega)
  have hh := ref03_has (T := T) a j hl (by omega)
  have hp : (0 : Int) < (j : Int) + 1 := by omega
  by_cases h1 : val a / 2 ^ j % 2 = 1
  ·right
   have hge : 2 ^ j ≤ val a := by
    rcases Nat.lt_or_ge (val a) (2 ^ j) with h | h
    ·rw [Nat.div_eq_of_lt h] at h1
     omega
    ·exact h
   rw [blen_eq hge hv]
   clear hge hv
   constructor <;> simp -implicitDefEqProofs [l95_0, stLn, hw, hh, hp, h1]
  ·left
   refine ⟨j, ⟨by omega, lt_of_bit hv (by generalize val a / 2 ^ j = q at *; omega)⟩, by omega, ?_, rfl⟩
   clear hv
   simp -implicitDefEqProofs [l95_0, stLn, hw, hh, hp, h1]
theorem ref03_blen (a : List UInt32) (hl : a.length ≤ 1000000) : callF T 95 [.sl (u32s a) .an] = some (.i .i64 (blen (val a))) := by
 have hr := lnx_loop (T := T) a hl (32 * a.length) ⟨Nat.le_refl _, by rw [← pow32]; exact val_lt a⟩
 unfold stLn at hr
 simp at hr
 have hw : IntKind.wrap .i64 (32 * (a.length : Int)) = 32 * (a.length : Int) := by
  have := wrap_i64 (32 * a.length) (by omega)
  simpa using this
 rw [f95 _ rfl, b95]
 simp -implicitDefEqProofs [hr, hw]
end
section
variable {T : Tbl} [CNat T] [CProd T] [CTwos T] [CQuot T] [CQuotD T] [CText T] [CWhole T] [CCommon T] [CFrac T] [CJoin T] [CRow T]
theorem row_zero_own_int (n : Int) : callH T 2263 [.i .i64 n] [] = some (.bs (.loc 9) 1 3 0 (cap300 n), [(.loc 9, ⟨1, .own, 3, rowF (List.replicate (cap300 n) (fz 0))⟩)]) := by
 have hk := cap300_le n
 have h := zero_loop (T := T) (cap300 n) hk
 have m2 : (if (300 : Int) < (if n < 0 then 0 else n) then (300 : Int) else (if n < 0 then 0 else n)) = (cap300 n : Int) := by unfold cap300; split <;> split at * <;> omega
 generalize cap300 n = k at *
 rw [show l263_0 = l2263_0 from rfl] at h
 unfold stZe at h
 simp only [List.replicate_zero, rowF_nil, List.nil_append, Nat.sub_zero, Int.natCast_zero] at h
 have m3 : (k : Int) ≤ 4294967296 := by omega
 have hz : wkL (List.replicate k [AV.b false, .sl [] .nl, .sl [] .nl]) = List.replicate k [AV.b false, .sl [] .an, .sl [] .an] := by rw [wkL_map, List.map_replicate]; simp [wkR, wkA]
 rw [f2263 _ _ rfl, b2263]
 simp -implicitDefEqProofs [mm2, m2, m3, h, hz]
theorem row_zero_int (n : Int) : callF T 263 [.i .i64 n] = some (.sl (rowF (fzs (List.replicate (cap300 n) 0))) .an) := by
 have hk := cap300_le n
 have h := zero_loop (T := T) (cap300 n) hk
 have m2 : (if (300 : Int) < (if n < 0 then 0 else n) then (300 : Int) else (if n < 0 then 0 else n)) = (cap300 n : Int) := by unfold cap300; split <;> split at * <;> omega
 have ef : fzs (List.replicate (cap300 n) 0) = List.replicate (cap300 n) (fz 0) := by simp [fzs]
 rw [ef]
 clear ef
 generalize cap300 n = k at *
 unfold stZe at h
 simp only [List.replicate_zero, rowF_nil, List.nil_append, Nat.sub_zero, Int.natCast_zero] at h
 have m3 : (k : Int) ≤ 4294967296 := by omega
 have hz : wkL (List.replicate k [AV.b false, .sl [] .nl, .sl [] .nl]) = List.replicate k [AV.b false, .sl [] .an, .sl [] .an] := by rw [wkL_map, List.map_replicate]; simp [wkR, wkA]
 rw [f263 _ rfl, b263]
 simp -implicitDefEqProofs [mm2, m2, m3, h, hz]
def unitR (n i : Int) : List Rat := if 0 ≤ i ∧ i < cap300 n then (List.replicate (cap300 n) 0).set i.toNat 1 else List.replicate (cap300 n) 0
theorem row_unit_int (n i : Int) : callF T 264 [.i .i64 n, .i .i64 i] = some (.sl (rowF (fzs (unitR n i))) .an) := by
 have hz := row_zero_own_int (T := T) n
 have c := frac_of1 (T := T)
 have hk := cap300_le n
 unfold unitR
 generalize cap300 n = k at *
 rw [f264 _ rfl, b264]
 by_cases h1 : 0 ≤ i ∧ i < (k : Int)
 ·rw [if_pos h1]
  obtain ⟨j, rfl⟩ : ∃ j : Nat, i = j := ⟨i.toNat, by omega⟩
  have hj : j < k := by omega
  have e : fzs ((List.replicate k (0 : Rat)).set j 1) = (List.replicate k (fz 0)).set j (fz 1) := by
   rw [← fzs_set]
   simp [fzs]
  rw [Int.toNat_natCast, e]
  have hset := rowF_set (List.replicate k (fz 0)) j (fz 1)
  have hl : (List.replicate k (fz 0)).length = k := by simp
  have hl2 : ((List.replicate k (fz 0)).set j (fz 1)).length = k := by simp
  have hg : (List.replicate k (fz 0))[j]? = some (fz 0) := by rw [List.getElem?_replicate, if_pos hj]
  have ht : List.take k ((List.replicate k (fz 0)).set j (fz 1)) = (List.replicate k (fz 0)).set j (fz 1) := List.take_of_length_le (by omega)
  have p1 : (0 : Int) ≤ j := by omega
  have p2 : (j : Int) < k := by omega
  clear e
  generalize fz 1 = O at *
  generalize List.replicate k (fz 0) = Z at *
  obtain ⟨_, hgE⟩ := List.getElem?_eq_some_iff.1 hg
  simp -implicitDefEqProofs [hz, c, p1, p2, hj, hset, hl, hl2, hg, hgE, ht]
 ·rw [if_neg h1]
  have e : fzs (List.replicate k (0 : Rat)) = List.replicate k (fz 0) := by simp [fzs]
  rw [e]
  have hl : (List.replicate k (fz 0)).length = k := by simp
  have ht : List.take k (List.replicate k (fz 0)) = List.replicate k (fz 0) := List.take_of_length_le (by omega)
  clear e
  generalize List.replicate k (fz 0) = Z at *
  by_cases h2 : 0 ≤ i
  ·have h3 : ¬ i < (k : Int) := fun h => h1 ⟨h2, h⟩
   simp -implicitDefEqProofs [hz, h2, h3, hl, ht]
  ·simp -implicitDefEqProofs [hz, h2, hl, ht]
end
section
variable {T : Tbl} [CRef02 T] [CRef04 T] [CRef05 T] [CRef07 T] [CRef06 T] [CRef08 T] [CRef09 T] [CRef11 T]
def stZ1x (n : Int) (i : Nat) : St := ⟨[(0, .i .i64 n), (3, .bs (.loc 3) 1 3 0 i), (4, .i .i64 i)], [(.loc 3, ⟨1, .own, 3, rowF (List.replicate i (fz 0))⟩)], 3⟩
theorem zero1x_loop (n : Int) : loopN T 0 0 (.norm false [3]) l276_0 (stZ1x n 0) = some (.n, ⟨[(3, .bs (.loc 3) 1 3 0 (cap300 n))], [(.loc 3, ⟨1, .own, 3, rowF (List.replicate (cap300 n) (fz 0))⟩)], 3⟩) := by
 have hk := cap300_le n
 have hc : (cap300 n : Int) = min (max n 0) 300 := by unfold cap300; omega
 refine range_loop (stZ1x n) (cap300 n) _ (fun i hi => ?_) ?_
 ·have h0 := ref09_int0 (T := T)
  have hw := wrapS hi (by omega)
  have hp := rowF_push (m := List.replicate i (fz 0)) (n := i) (by simp) (fz 0)
  have hml : (List.replicate i (fz 0)).length = i := by simp
  have e : List.replicate (i + 1) (fz 0) = List.replicate i (fz 0) ++ [fz 0] := List.replicate_succ'
  have hb : i ≤ 4294967295 := by omega
  have h3 : (i : Int) < 300 := by omega
  have h4 : (i : Int) < n := by omega
  unfold stZ1x
  rw [e]
  clear e hc
  generalize List.replicate i (fz 0) = M at *
  generalize fz 0 = z at *
  simp -implicitDefEqProofs [l276_0, h3, h4, hw, h0, hp, hml, hb]
 ·unfold stZ1x
  generalize List.replicate (cap300 n) (fz 0) = M at *
  by_cases h4 : (cap300 n : Int) < n
  ·have h3 : ¬ (cap300 n : Int) < 300 := by omega
   generalize cap300 n = k at *
   constructor <;> simp -implicitDefEqProofs [l276_0, h4, h3]
  ·generalize cap300 n = k at *
   constructor <;> simp -implicitDefEqProofs [l276_0, h4]
theorem ref11_zero_int (n : Int) : callF T 276 [.i .i64 n] = some (.sl (rowF (fzs (List.replicate (cap300 n) 0))) .an) := by
 have h := zero1x_loop (T := T) n
 unfold stZ1x at h
 simp only [List.replicate_zero, rowF_nil, Int.natCast_zero] at h
 have ef : fzs (List.replicate (cap300 n) 0) = List.replicate (cap300 n) (fz 0) := by simp [fzs]
 rw [ef]
 clear ef
 generalize cap300 n = k at *
 have hl : (List.replicate k (fz 0)).length = k := by simp
 rw [f276 _ rfl, b276]
 generalize List.replicate k (fz 0) = M at *
 have ht : List.take k M = M := List.take_of_length_le (by omega)
 simp -implicitDefEqProofs [h, hl, ht]
theorem ref11_zero_own_int (n : Int) : callH T 2276 [.i .i64 n] [] = some (.bs (.loc 3) 1 3 0 (cap300 n), [(.loc 3, ⟨1, .own, 3, rowF (List.replicate (cap300 n) (fz 0))⟩)]) := by
 have h := zero1x_loop (T := T) n
 rw [show l276_0 = l2276_0 from rfl] at h
 unfold stZ1x at h
 simp only [List.replicate_zero, rowF_nil, Int.natCast_zero] at h
 rw [f2276 _ _ rfl, b2276]
 generalize cap300 n = k at *
 generalize List.replicate k (fz 0) = M at *
 simp -implicitDefEqProofs [h]
theorem ref11_unit_int (n i : Int) : callF T 277 [.i .i64 n, .i .i64 i] = some (.sl (rowF (fzs (unitR n i))) .an) := by
 have hz := ref11_zero_own_int (T := T) n
 have c := ref09_int1 (T := T)
 have hk := cap300_le n
 unfold unitR
 generalize cap300 n = k at *
 rw [f277 _ rfl, b277]
 by_cases h1 : 0 ≤ i ∧ i < (k : Int)
 ·rw [if_pos h1]
  obtain ⟨j, rfl⟩ : ∃ j : Nat, i = j := ⟨i.toNat, by omega⟩
  have hj : j < k := by omega
  have e : fzs ((List.replicate k (0 : Rat)).set j 1) = (List.replicate k (fz 0)).set j (fz 1) := by
   rw [← fzs_set]
   simp [fzs]
  rw [Int.toNat_natCast, e]
  have hset := rowF_set (List.replicate k (fz 0)) j (fz 1)
  have hl : (List.replicate k (fz 0)).length = k := by simp
  have hl2 : ((List.replicate k (fz 0)).set j (fz 1)).length = k := by simp
  have hg : (List.replicate k (fz 0))[j]? = some (fz 0) := by rw [List.getElem?_replicate, if_pos hj]
  have ht : List.take k ((List.replicate k (fz 0)).set j (fz 1)) = (List.replicate k (fz 0)).set j (fz 1) := List.take_of_length_le (by omega)
  have p1 : (0 : Int) ≤ j := by omega
  have p2 : (j : Int) < k := by omega
  clear e
  generalize fz 1 = O at *
  generalize List.replicate k (fz 0) = Z at *
  obtain ⟨_, hgE⟩ := List.getElem?_eq_some_iff.1 hg
  simp -implicitDefEqProofs [hz, c, p1, p2, hj, hset, hl, hl2, hg, hgE, ht]
 ·rw [if_neg h1]
  have e : fzs (List.replicate k (0 : Rat)) = List.replicate k (fz 0) := by simp [fzs]
  rw [e]
  have hl : (List.replicate k (fz 0)).length = k := by simp
  have ht : List.take k (List.replicate k (fz 0)) = List.replicate k (fz 0) := List.take_of_length_le (by omega)
  clear e
  generalize List.replicate k (fz 0) = Z at *
  by_cases h2 : 0 ≤ i
  ·have h3 : ¬ i < (k : Int) := fun h => h1 ⟨h2, h⟩
   simp -implicitDefEqProofs [hz, h2, h3, hl, ht]
  ·simp -implicitDefEqProofs [hz, h2, hl, ht]
end
end Go.Ab
end

section
namespace Go.Ab
class CGrid (T : Tbl) : Prop where
end Go.Ab
end

section
namespace Go.Ab
theorem take_succ {α : Type} (l : List α) {i : Nat} (h : i < l.length) : l.take (i + 1) = l.take i ++ [l[i]'h] := List.take_succ_eq_append_getElem h
section
variable {T : Tbl} [CRef02 T] [CRef04 T] [CRef05 T] [CRef07 T] [CRef06 T] [CRef08 T] [CRef09 T] [CRef11 T] [CLaw09 T] [CLaw11 T]
theorem law09_to (x : Fz) : callF T 248 [efz x] = some (efz x) := by
 rw [f248 _ rfl, b248]
 simp -implicitDefEqProofs
theorem law09_of (x : Fz) : callF T 249 [efz x] = some (efz x) := by
 rw [f249 _ rfl, b249]
 simp -implicitDefEqProofs
theorem law09_is (x y : Fz) (hx : fsz x ≤ 10000) : callF T 250 [efz x, efz y] = some (.b (decide (x = y))) := by
 have h1 := law09_of (T := T) x
 have h2 := ref09_same (T := T) x y hx
 rw [f250 _ rfl, b250]
 simp -implicitDefEqProofs [h1, h2]
def stTo11 (l : List Fz) (i : Nat) : St := ⟨[(0, .sl (rowF l) .an), (3, .bs (.loc 3) 1 3 0 i), (4, .i .i64 i)], [((.loc 3), ⟨1, .own, 3, rowF (l.take i)⟩)], 3⟩
theorem to11_loop (l : List Fz) (hl : l.length ≤ 4294967296) :
  loopN T 0 0 (.norm false [3]) l287_0 (stTo11 l 0) = some (.n, ⟨[(3, .bs (.loc 3) 1 3 0 (l.length))], [((.loc 3), ⟨1, .own, 3, rowF (l.take (l.length))⟩)], 3⟩) := by
 refine range_loop (stTo11 l) (l.length) _ (fun i hi => ?_) ?_
 ·have hws := wrapS hi (by omega)
  have hb : i ≤ 4294967295 := by omega
  have hg : l[i]? = some (l[i]'hi) := List.getElem?_eq_getElem hi
  have hn := law09_to (T := T) (l[i]'hi)
  have e := take_succ l hi
  have hml : (l.take i).length = i := by simp; omega
  have hp := rowF_push hml (l[i]'hi)
  unfold stTo11
  rw [e]
  clear e
  generalize l.take i = M at *
  simp -implicitDefEqProofs [l287_0, hi, hws, hb, hp, hml, hg, hn]
 ·unfold stTo11
  rw [List.take_of_length_le (Nat.le_refl _)]
  constructor <;> simp -implicitDefEqProofs [l287_0]
theorem law11_to (l : List Fz) (hl : l.length ≤ 4294967296) : callF T 287 [.sl (rowF l) .an] = some (.sl (rowF l) .an) := by
 have h := to11_loop (T := T) l hl
 unfold stTo11 at h
 rw [List.take_zero, List.take_of_length_le (Nat.le_refl _)] at h
 simp only [rowF_nil, Int.natCast_zero] at h
 have ht : List.take l.length l = l := List.take_of_length_le (Nat.le_refl _)
 rw [f287 _ rfl, b287]
 simp -implicitDefEqProofs [h, ht]
def stOf11 (l : List Fz) (i : Nat) : St := ⟨[(0, .sl (rowF l) .an), (3, .bs (.loc 3) 1 3 0 i), (4, .i .i64 i)], [((.loc 3), ⟨1, .own, 3, rowF (l.take i)⟩)], 3⟩
theorem of11_loop (l : List Fz) (hl : l.length ≤ 4294967296) :
  loopN T 0 0 (.norm false [3]) l288_0 (stOf11 l 0) = some (.n, ⟨[(3, .bs (.loc 3) 1 3 0 (l.length))], [((.loc 3), ⟨1, .own, 3, rowF (l.take (l.length))⟩)], 3⟩) := by
 refine range_loop (stOf11 l) (l.length) _ (fun i hi => ?_) ?_
 ·have hws := wrapS hi (by omega)
  have hb : i ≤ 4294967295 := by omega
  have hg : l[i]? = some (l[i]'hi) := List.getElem?_eq_getElem hi
  have hn := law09_of (T := T) (l[i]'hi)
  have e := take_succ l hi
  have hml : (l.take i).length = i := by simp; omega
  have hp := rowF_push hml (l[i]'hi)
  unfold stOf11
  rw [e]
  clear e
  generalize l.take i = M at *
  simp -implicitDefEqProofs [l288_0, hi, hws, hb, hp, hml, hg, hn]
 ·unfold stOf11
  rw [List.take_of_length_le (Nat.le_refl _)]
  constructor <;> simp -implicitDefEqProofs [l288_0]
theorem law11_of (l : List Fz) (hl : l.length ≤ 4294967296) : callF T 288 [.sl (rowF l) .an] = some (.sl (rowF l) .an) := by
 have h := of11_loop (T := T) l hl
 unfold stOf11 at h
 rw [List.take_zero, List.take_of_length_le (Nat.le_refl _)] at h
 simp only [rowF_nil, Int.natCast_zero] at h
 have ht : List.take l.length l = l := List.take_of_length_le (Nat.le_refl _)
 rw [f288 _ rfl, b288]
 simp -implicitDefEqProofs [h, ht]
theorem law11_is (a b : List Fz) (hl : a.length ≤ 1000) (ha : ∀ x ∈ a, fsz x ≤ 10000) : callF T 289 [.sl (rowF a) .an, .sl (rowF b) .an] = some (.b (decide (a = b))) := by
 have h1 := law11_of (T := T) a (by omega)
 have h2 := ref11_same (T := T) a b hl ha
 rw [f289 _ rfl, b289]
 simp -implicitDefEqProofs [h1, h2]
end
end Go.Ab
end

section
namespace Go.Ab
def widthM : List (List Fz) → Nat
 | [] => 0
 | r :: _ => r.length
def rightM (m : List (List Fz)) : Bool := m.all fun r => decide (r.length = widthM m)
def colM (m : List (List Fz)) (j : Nat) : List Fz := m.map fun r => r.getD j (false, [], [])
def turnM (m : List (List Fz)) (k : Nat) : List (List Fz) := (List.range k).map fun j => nrm (colM m j)
def scM (r : List Fz) (m : List (List Fz)) : List (List Fz) := List.zipWith (fun x row => scl (fv x) row) r m
def sumM : List (List Fz) → List Rat
 | [] => []
 | r :: m => m.foldl addP (r.map fv)
def leftQ (r : List Fz) (m : List (List Fz)) : List Rat := sumM (scM r m)
def applyQ (m : List (List Fz)) (c : List Fz) : List Rat := m.map fun r => dotQ r c
section
variable {T : Tbl} [CNat T] [CProd T] [CTwos T] [CQuot T] [CQuotD T] [CText T] [CWhole T] [CCommon T] [CFrac T] [CJoin T] [CRow T] [CGrid T]
def stGrR (m : List (List Fz)) (i : Nat) : St := ⟨[(0, .sl (matF m) .an), (5, .sl (matF m) .an), (6, .i .i64 m.length), (7, .i .i64 i)], [], 2⟩
def stGrS (a b : List (List Fz)) (i : Nat) : St := ⟨[(1, .sl (matF b) .an), (12, .sl (matF a) .an), (13, .i .i64 a.length), (14, .i .i64 i)], [], 2⟩
def idQ (k : Nat) (i : Nat) : List (List Fz) := (List.range i).map fun j => fzs ((List.replicate k 0).set j 1)
def stGrI (k : Nat) (i : Nat) : St := ⟨[(0, .i .i64 k), (3, .bs (.loc 3) 1 1 0 i), (8, .i .i64 k), (9, .i .i64 i)], [((.loc 3), ⟨1, .own, 1, matF (idQ k i)⟩)], 3⟩
def stGrT (m R : List (List Fz)) (k j : Nat) (i : Nat) : St := ⟨[(0, .sl (matF m) .an), (3, .bs (.loc 3) 1 1 0 j), (4, .i .i64 j), (5, .bs (.loc 5) 2 3 0 i), (12, .i .i64 k), (13, .i .i64 j), (16, .sl (matF m) .an), (17, .i .i64 m.length), (18, .i .i64 i)], [(.loc 3, ⟨1, .own, 1, matF R⟩), ((.loc 5), ⟨2, .own, 3, rowF (nrm (colM (m.take i) j))⟩)], 4⟩
def stTo12t (m : List (List Fz)) (k : Nat) (i : Nat) : St := ⟨[(0, .sl (matF m) .an), (3, .bs (.loc 3) 1 1 0 i), (12, .i .i64 k), (13, .i .i64 i)], [((.loc 3), ⟨1, .own, 1, matF (turnM m i)⟩)], 3⟩
end
end Go.Ab
end

section
namespace Go.Ab
section
variable {T : Tbl} [CNat T] [CProd T] [CTwos T] [CQuot T] [CQuotD T] [CText T] [CWhole T] [CCommon T] [CFrac T] [CJoin T] [CRow T] [CGrid T]
def stGrL (r : List Fz) (m : List (List Fz)) (i : Nat) : St := ⟨[(0, .sl (rowF r) .an), (6, .bs (.loc 6) 1 1 0 i), (19, .sl (matF m) .an), (20, .i .i64 m.length), (21, .i .i64 i)], [((.loc 6), ⟨1, .own, 1, matF (scM (r.take i) (m.take i))⟩)], 3⟩
def stGrA (m : List (List Fz)) (c : List Fz) (i : Nat) : St := ⟨[(1, .sl (rowF c) .an), (6, .bs (.loc 6) 1 3 0 i), (21, .sl (matF m) .an), (22, .i .i64 m.length), (23, .i .i64 i)], [((.loc 6), ⟨1, .own, 3, rowF (fzs (applyQ (m.take i) c))⟩)], 3⟩
def mulM (a b : List (List Fz)) : List (List Fz) := a.map fun r => fzs (leftQ r b)
def stGrM (a m : List (List Fz)) (i : Nat) : St := ⟨[(1, .sl (matF m) .an), (6, .bs (.loc 6) 1 1 0 i), (26, .sl (matF a) .an), (27, .i .i64 a.length), (28, .i .i64 i)], [((.loc 6), ⟨1, .own, 1, matF (mulM (a.take i) m)⟩)], 3⟩
def addM (a b : List (List Fz)) : List (List Fz) := List.zipWith (fun r s => fzs (addP (r.map fv) s)) a b
def stGrP (a m : List (List Fz)) (i : Nat) : St := ⟨[(1, .sl (matF m) .an), (6, .bs (.loc 6) 1 1 0 i), (33, .sl (matF a) .an), (34, .i .i64 a.length), (35, .i .i64 i)], [((.loc 6), ⟨1, .own, 1, matF (addM (a.take i) (m.take i))⟩)], 3⟩
end
end Go.Ab
end

section
namespace Go.Ab
def dotR : List Rat → List Rat → Rat
 | x :: a, y :: b => x * y + dotR a b
 | _, _ => 0
def valM (m : List (List Fz)) : List (List Rat) := m.map fun r => r.map fv
def fzM (L : List (List Rat)) : List (List Fz) := L.map fzs
@[simp] theorem fzM_length (L : List (List Rat)) : (fzM L).length = L.length := by simp [fzM]
@[simp] theorem valM_length (m : List (List Fz)) : (valM m).length = m.length := by simp [valM]
@[simp] theorem valM_fzM (L : List (List Rat)) : valM (fzM L) = L := by
 unfold valM fzM
 rw [List.map_map]
 simp [Function.comp_def]
def widthQ : List (List Rat) → Nat
 | [] => 0
 | r :: _ => r.length
def rightQ (L : List (List Rat)) : Bool := L.all fun r => decide (r.length = widthQ L)
def colQ (L : List (List Rat)) (j : Nat) : List Rat := L.map fun p => p.getD j 0
def turnQ (L : List (List Rat)) : List (List Rat) := (List.range (widthQ L)).map (colQ L)
def applyR (L : List (List Rat)) (c : List Rat) : List Rat := L.map fun p => dotR p c
def leftR (r : List Rat) (L : List (List Rat)) : List Rat := applyR (turnQ L) r
end Go.Ab
end

section
namespace Go.Ab
def absQ (q : Rat) : Rat := if q < 0 then -q else q
theorem fz_abs (q : Rat) : fz (absQ q) = (false, (fz q).2.1, (fz q).2.2) := by
 unfold absQ fz
 split
 ·next h =>
  have h2 : q.num < 0 := by
   rw [Rat.lt_iff] at h
   simpa using h
  rw [Rat.neg_num, Rat.neg_den, Int.natAbs_neg]
  have e : decide (-q.num < 0) = false := by simp; omega
  rw [e]
 ·next h =>
  have h2 : ¬ q.num < 0 := by
   rw [Rat.lt_iff] at h
   simpa using h
  rw [decide_eq_false h2]
theorem sz_abs (q : Rat) : sz (absQ q) = sz q := by
 unfold absQ
 split
 ·exact sz_neg q
 ·rfl
section
variable {T : Tbl} [CNat T] [CProd T] [CTwos T] [CQuot T] [CQuotD T] [CWhole T] [CCommon T] [CFrac T] [CFrac2 T]
theorem frac_abs (x : Fz) (hx : fsz x ≤ 10000) : callF T 214 [efz x] = some (efz (fz (absQ (fv x)))) := by
 have c := frac_norm (T := T) x hx
 rw [fz_abs, f214 _ rfl, b214]
 generalize fz (fv x) = X at *
 simp -implicitDefEqProofs [c]
end
end Go.Ab
end

section
namespace Go.Ab
def sclR (c : Rat) (l : List Rat) : List Rat := l.map fun x => c * x
def addR (a b : List Rat) : List Rat := List.zipWith (· + ·) a b
def maxStep (b x : Rat) : Rat := if b < absQ x then absQ x else b
def normR (l : List Rat) : Rat := l.foldl maxStep 0
theorem maxStep_sz {b x : Rat} {S : Nat} (h1 : sz b ≤ S) (h2 : sz x ≤ S) : sz (maxStep b x) ≤ S := by
 unfold maxStep
 split
 ·rw [sz_abs]; exact h2
 ·exact h1
theorem normR_sz {S : Nat} (hS : 1 ≤ S) : ∀ (l : List Rat) (b : Rat), sz b ≤ S → (∀ x ∈ l, sz x ≤ S) → sz (l.foldl maxStep b) ≤ S
 | [], _, h, _ => h
 | x :: l, b, h, hl => normR_sz hS l _ (maxStep_sz h (hl x List.mem_cons_self)) fun y hy => hl y (List.mem_cons_of_mem _ hy)
def mixR : List (Rat × List Rat) → List Rat → List Rat
 | [], acc => acc
 | p :: l, acc => mixR l (addR acc (sclR p.1 p.2))
end Go.Ab
end

section
namespace Go.Ab
def sqC : List UInt32 → Nat
 | [] => 0
 | x :: r => 4294967296 * (x.toNat * val r) + 4294967296 * 4294967296 * sqC r
def sqD : List UInt32 → Nat
 | [] => 0
 | x :: r => x.toNat * x.toNat + 4294967296 * 4294967296 * sqD r
theorem sq_law : ∀ a : List UInt32, 2 * sqC a + sqD a = val a * val a
 | [] => rfl
 | x :: r => by
  have ih := sq_law r
  simp only [sqC, sqD, val_cons]
  generalize 4294967296 = p at *
  grind
theorem pow_two_i (i : Nat) : 4294967296 ^ (2 * i + 2) = 4294967296 ^ (2 * i) * (4294967296 * 4294967296) := by
 rw [Nat.pow_add]
theorem nat_mul_len' {x L : Nat} (h : (ofN x).length ≤ L) : (ofN (x * 2 ^ 1)).length ≤ L + 1 := by
 refine ofN_length_le' ?_
 have h1 := val_lt (ofN x)
 rw [val_ofN] at h1
 have h2 : 4294967296 ^ (ofN x).length ≤ 4294967296 ^ L := Nat.pow_le_pow_right (by decide) h
 rw [Nat.pow_succ]
 omega
section
variable {T : Tbl} [CLimb T] [CNat T] [CProd T] [CTwos T] [CPow T]
theorem twos_len (a : List UInt32) (ha : a.length ≤ 1000000) : callF T 356 [.sl (u32s a) .an] = some (.i .i64 (blen (val a))) := by
 have h1 := nat_norm (T := T) a (by omega)
 have hl := ofN_length_le a
 have hv : val (ofN (val a)) = val a := val_ofN _
 rw [f356 _ rfl, b356]
 by_cases h0 : val a = 0
 ·have e : ofN (val a) = [] := ofN_eq_nil.2 h0
  have eb : blen (val a) = 0 := by rw [h0]; rfl
  rw [e] at h1
  rw [eb]
  simp -implicitDefEqProofs [h1]
 ·have hne : ofN (val a) ≠ [] := fun h => h0 (ofN_eq_nil.1 h)
  obtain ⟨B, x, hB⟩ : ∃ B x, ofN (val a) = B ++ [x] := ⟨_, _, (List.dropLast_concat_getLast hne).symm⟩
  have hx0 : x.toNat ≠ 0 := by
   intro hx
   have e1 : val (ofN (val a)) = val B := by
    rw [hB, val_append]
    simp [hx]
   have e2 : ofN (val B) = ofN (val a) := by rw [← e1, val_ofN]
   have e3 := ofN_length_le B
   rw [e2, hB] at e3
   simp at e3
   omega
  have hlog : blen (val a) = 32 * B.length + blen x.toNat := by
   have hdiv : val a / 2 ^ (32 * B.length) = x.toNat := by
    have e1 : val a = val B + 4294967296 ^ B.length * x.toNat := by
     rw [← hv, hB, val_append]
     simp
    have e2 : 2 ^ (32 * B.length) = 4294967296 ^ B.length := by
     rw [Nat.pow_mul]
    have e3 := val_lt B
    rw [e2, e1, Nat.add_mul_div_left _ _ (by omega), Nat.div_eq_of_lt e3, Nat.zero_add]
   have := blen_shift (n := val a) (s := 32 * B.length) (by rw [hdiv]; exact hx0)
   rw [hdiv] at this
   exact this
  have hbl : B.length + 1 ≤ 1000000 := by
   have := congrArg List.length hB
   simp at this
   omega
  have hL := limb_len (T := T) x
  have hb32 : blen x.toNat ≤ 32 := by
   have hx := u32_lt x
   unfold blen
   split
   ·omega
   ·have := (Nat.log2_lt (n := x.toNat) (k := 32) (by assumption)).2 (by omega)
    omega
  rw [hB] at h1
  rw [hlog]
  have w1 : IntKind.wrap .i64 ((B.length : Int) + 1 - 1) = (B.length : Int) := by
   rw [Int.add_sub_cancel]
   exact wrap_i64 _ (by omega)
  have w2 : IntKind.wrap .i64 (32 * (B.length : Int)) = 32 * (B.length : Int) := wrap_i64 _ (by omega)
  have w3 : IntKind.wrap .i64 (32 * (B.length : Int) + (blen x.toNat : Int)) = 32 * (B.length : Int) + (blen x.toNat : Int) := wrap_i64 _ (by omega)
  have w4 : IntKind.wrap .i64 (B.length : Int) = B.length := wrap_i64 _ (by omega)
  have n1 : ¬ (B.length : Int) + 1 = 0 := by omega
  have n2 : (B.length : Int) < (B.length : Int) + 1 := by omega
  clear hlog hB hne hb32
  simp -implicitDefEqProofs [h1, hL, w1, w2, w3, w4, n1, n2]
def stSqA (a X : List UInt32) (i : Nat) : St :=
 ⟨[(0, .sl (u32s a) .an), (3, .bs (.loc 14) 1 1 0 (2 * a.length + 1)), (15, .sl (u32s a) .an), (16, .i .i64 a.length), (17, .i .i64 i)], [(.loc 14, ⟨1, .own, 1, u32s (X ++ List.replicate (a.length + 1 - i) 0)⟩)], 3⟩
theorem sqa_loop (a : List UInt32) (ha : a.length ≤ 100000) : ∀ y : Nat × List UInt32,
  (y.1 ≤ a.length ∧ y.2.length = a.length + y.1 ∧ val y.2 + 4294967296 ^ (2 * y.1) * sqC (a.drop y.1) = sqC a) →
  ∃ r, (∃ out : List UInt32, r = (Ex.n, (⟨[(0, .sl (u32s a) .an), (3, .bs (.loc 14) 1 1 0 (2 * a.length + 1))], [(.loc 14, ⟨1, .own, 1, u32s out⟩)], 3⟩ : St)) ∧ out.length = 2 * a.length + 1 ∧ val out = sqC a) ∧
   loopN T 0 0 (.norm false [0, 3]) l357_0 (stSqA a y.2 y.1) = some r := by
 refine loopN_ex _ _ (fun y => a.length - y.1) _ ?_
 rintro ⟨i, X⟩ ⟨hi, hX, hv⟩
 simp only at hi hX hv
 by_cases h0 : i < a.length
 ·left
  have hag : a[i]? = some (a[i]'h0) := List.getElem?_eq_getElem h0
  have hw : IntKind.wrap .i64 ((i : Int) + 1) = ((i + 1 : Nat) : Int) := wrap_i64 _ (by omega)
  have hw2 : IntKind.wrap .i64 (2 * (i : Int)) = 2 * (i : Int) := wrap_i64 _ (by omega)
  have hw3 : IntKind.wrap .i64 (2 * (i : Int) + 1) = ((2 * i + 1 : Nat) : Int) := wrap_i64 _ (by omega)
  have hdl : (a.drop (i + 1)).length = a.length - (i + 1) := List.length_drop
  obtain ⟨m, hm1, hm2, hc⟩ := prod_row (T := T) (X.take (2 * i + 1)) (X.drop (2 * i + 1) ++ List.replicate (a.length + 1 - i) 0) (a.drop (i + 1)) (a[i]'h0).toNat 0 (u32_lt _) (by decide) (by simp; omega) (by simp; omega)
  have hi21 : 2 * i + 1 ≤ X.length := by omega
  have e1 : X.take (2 * i + 1) ++ (X.drop (2 * i + 1) ++ List.replicate (a.length + 1 - i) 0) = X ++ List.replicate (a.length + 1 - i) 0 := by rw [← List.append_assoc, List.take_append_drop]
  have e2 : (X.take (2 * i + 1)).length = 2 * i + 1 := by simp; omega
  have e3 : (X.drop (2 * i + 1) ++ List.replicate (a.length + 1 - i) 0).length = 2 * a.length + 1 - (2 * i + 1) := by simp; omega
  have e4 : 2 * i + 1 + (2 * a.length + 1 - (2 * i + 1)) = 2 * a.length + 1 := by omega
  have e5 : (X.drop (2 * i + 1) ++ List.replicate (a.length + 1 - i) 0).drop ((a.drop (i + 1)).length + 1) = List.replicate (a.length + 1 - (i + 1)) 0 := by
   rw [List.drop_append, List.drop_of_length_le (by simp; omega), List.drop_replicate]
   simp only [List.nil_append, List.length_drop]
   congr 1
   omega
  have e6 : (X.drop (2 * i + 1) ++ List.replicate (a.length + 1 - i) 0).take (a.drop (i + 1)).length = X.drop (2 * i + 1) := by
   rw [List.take_append_of_le_length (by simp; omega), List.take_of_length_le (by simp; omega)]
  rw [e1, e2, e3, e4, e5] at hc
  rw [e6] at hm2
  simp only [← List.append_assoc] at hc
  refine ⟨(i + 1, X.take (2 * i + 1) ++ m), ⟨h0, by simp only [List.length_append, e2, hm1]; omega, ?_⟩, by simp only; omega, ?_⟩
  ·simp only
   have e7 := val_append (X.take (2 * i + 1)) (X.drop (2 * i + 1))
   rw [List.take_append_drop, e2] at e7
   rw [List.drop_eq_getElem_cons h0] at hv
   simp only [sqC] at hv
   rw [val_append, e2, hm2]
   have p1 : 4294967296 ^ (2 * i + 1) = 4294967296 ^ (2 * i) * 4294967296 := Nat.pow_succ ..
   have p2 : 4294967296 ^ (2 * (i + 1)) = 4294967296 ^ (2 * i) * (4294967296 * 4294967296) := pow_two_i i
   rw [p1] at e7 ⊢
   rw [p2, ← hv, e7]
   generalize 4294967296 ^ (2 * i) = q
   generalize val (a.drop (i + 1)) = v
   generalize sqC (a.drop (i + 1)) = w
   generalize (4294967296 : Nat) = p
   grind
  ·have hle : (i : Int) + 1 ≤ a.length := by omega
   have hle2 : i + 1 ≤ a.length := by omega
   have hm3 : ((2 * i + 1 : Nat) : Int) = 2 * (i : Int) + 1 := by omega
   rw [hm3] at hc hw3
   clear hv hm2 e1 e5 e6
   simp -implicitDefEqProofs [l357_0, stSqA, h0, hw, hw2, hw3, hc, hag, hle, hle2]
 ·right
  have : i = a.length := by omega
  subst this
  refine ⟨_, ⟨X ++ List.replicate (a.length + 1 - a.length) 0, rfl, by simp; omega, by rw [val_append, val_replicate]; simp [sqC] at hv; simp [hv]⟩, ?_, ?_⟩ <;> simp -implicitDefEqProofs [l357_0, stSqA]
def stSqD (a X : List UInt32) (U : List (List AV)) (i : Nat) : St :=
 ⟨[(6, .sl U .an), (7, .bs (.loc 38) 1 1 0 (2 * a.length)), (39, .sl (u32s a) .an), (40, .i .i64 a.length), (41, .i .i64 i)], [(.loc 38, ⟨1, .own, 1, u32s (X ++ List.replicate (2 * a.length - 2 * i) 0)⟩)], 3⟩
theorem sqd_loop (a : List UInt32) (U : List (List AV)) (hU : wkL U = U) (ha : a.length ≤ 100000) : ∀ y : Nat × List UInt32,
  (y.1 ≤ a.length ∧ y.2.length = 2 * y.1 ∧ val y.2 + 4294967296 ^ (2 * y.1) * sqD (a.drop y.1) = sqD a) →
  ∃ r, (∃ out : List UInt32, r = (Ex.n, (⟨[(6, .sl U .an), (7, .bs (.loc 38) 1 1 0 (2 * a.length))], [(.loc 38, ⟨1, .own, 1, u32s out⟩)], 3⟩ : St)) ∧ out.length = 2 * a.length ∧ val out = sqD a) ∧
   loopN T 0 2 (.norm false [6, 7]) l357_1 (stSqD a y.2 U y.1) = some r := by
 refine loopN_ex _ _ (fun y => a.length - y.1) _ ?_
 rintro ⟨i, X⟩ ⟨hi, hX, hv⟩
 simp only at hi hX hv
 by_cases h0 : i < a.length
 ·left
  have hag : a[i]? = some (a[i]'h0) := List.getElem?_eq_getElem h0
  have hm := limb_mul (T := T) (a[i]'h0) (a[i]'h0) 0 0
  obtain ⟨hi_, hhi⟩ : ∃ h : UInt32, h = w32 (((a[i]'h0).toNat * (a[i]'h0).toNat + (0 : UInt32).toNat + (0 : UInt32).toNat) / 4294967296) := ⟨_, rfl⟩
  obtain ⟨lo_, hlo⟩ : ∃ h : UInt32, h = w32 ((a[i]'h0).toNat * (a[i]'h0).toNat + (0 : UInt32).toNat + (0 : UInt32).toNat) := ⟨_, rfl⟩
  rw [← hhi, ← hlo] at hm
  have hx := u32_lt (a[i]'h0)
  have hval : lo_.toNat + 4294967296 * hi_.toNat = (a[i]'h0).toNat * (a[i]'h0).toNat := by
   have hlt := mul_lt hx hx
   have e0 : (0 : UInt32).toNat = 0 := rfl
   rw [hlo, hhi, w32_toNat, w32_toNat, e0]
   simp only [Nat.add_zero]
   generalize (a[i]'h0).toNat * (a[i]'h0).toNat = q at *
   omega
  have hw : IntKind.wrap .i64 ((i : Int) + 1) = ((i + 1 : Nat) : Int) := wrap_i64 _ (by omega)
  have hw2 : IntKind.wrap .i64 (2 * (i : Int)) = 2 * (i : Int) := wrap_i64 _ (by omega)
  have hw3 : IntKind.wrap .i64 (2 * (i : Int) + 1) = 2 * (i : Int) + 1 := wrap_i64 _ (by omega)
  have e1 : (X ++ List.replicate (2 * a.length - 2 * i) (0 : UInt32)) = X ++ 0 :: 0 :: List.replicate (2 * a.length - 2 * (i + 1)) 0 := by
   rw [show 2 * a.length - 2 * i = (2 * a.length - 2 * (i + 1)) + 1 + 1 by omega, List.replicate_succ, List.replicate_succ]
  have e2 : ((X ++ 0 :: 0 :: List.replicate (2 * a.length - 2 * (i + 1)) (0 : UInt32)).set (2 * i + 1) hi_).set (2 * i) lo_ = X ++ [lo_, hi_] ++ List.replicate (2 * a.length - 2 * (i + 1)) 0 := by
   rw [List.set_append_right _ _ (by omega), List.set_append_right _ _ (by omega), hX, Nat.sub_self, show 2 * i + 1 - 2 * i = 1 by omega]
   simp
  refine ⟨(i + 1, X ++ [lo_, hi_]), ⟨h0, by simp; omega, ?_⟩, by simp only; omega, ?_⟩
  ·simp only
   rw [List.drop_eq_getElem_cons h0] at hv
   simp only [sqD] at hv
   rw [val_append, hX]
   simp only [val_cons, val_nil, Nat.mul_zero, Nat.add_zero]
   have p2 : 4294967296 ^ (2 * (i + 1)) = 4294967296 ^ (2 * i) * (4294967296 * 4294967296) := pow_two_i i
   rw [p2, ← hv, ← hval]
   generalize 4294967296 ^ (2 * i) = q
   generalize sqD (a.drop (i + 1)) = w
   generalize (4294967296 : Nat) = p
   grind
  ·unfold stSqD
   simp only
   rw [e1, ← e2]
   have hl : (X ++ 0 :: 0 :: List.replicate (2 * a.length - 2 * (i + 1)) (0 : UInt32)).length = 2 * a.length := by simp; omega
   clear e1 e2 hv hval hhi hlo
   generalize (X ++ 0 :: 0 :: List.replicate (2 * a.length - 2 * (i + 1)) (0 : UInt32)) = B at *
   have s1 : (u32s B).set (2 * i + 1) [u32 hi_.toNat] = u32s (B.set (2 * i + 1) hi_) := by simp [u32s, List.map_set]
   have s2 : (u32s (B.set (2 * i + 1) hi_)).set (2 * i) [u32 lo_.toNat] = u32s ((B.set (2 * i + 1) hi_).set (2 * i) lo_) := by simp [u32s, List.map_set]
   have b1 : 2 * i + 1 < 2 * a.length := by omega
   have b2 : 2 * i < 2 * a.length := by omega
   have b3 : 2 * (i : Int) + 1 < 2 * (a.length : Int) := by omega
   have b4 : 2 * (i : Int) < 2 * (a.length : Int) := by omega
   have b5 : (0 : Int) ≤ 2 * (i : Int) + 1 := by omega
   have b6 : (0 : Int) ≤ 2 * (i : Int) := by omega
   have b7 : (2 * (i : Int) + 1).toNat = 2 * i + 1 := by omega
   have b8 : (2 * (i : Int)).toNat = 2 * i := by omega
   have g1 : B[2 * i + 1]? = some (B[2 * i + 1]'(by omega)) := List.getElem?_eq_getElem (by omega)
   have z0 : (0 : UInt32).toNat = 0 := rfl
   rw [z0] at hm
   have hl2 : ((B.set (2 * i + 1) hi_)).length = 2 * a.length := by simp [hl]
   simp -implicitDefEqProofs [l357_1, h0, hw, hw2, hw3, hag, hm, hl, s1, s2, b1, b2, b3, b4, b5, b6, b7, b8, hl2, hU]
 ·right
  have : i = a.length := by omega
  subst this
  refine ⟨_, ⟨X ++ List.replicate (2 * a.length - 2 * a.length) 0, rfl, by simp; omega, by rw [val_append, val_replicate]; simp [sqD] at hv; simp [hv]⟩, ?_, ?_⟩ <;> simp -implicitDefEqProofs [l357_1, stSqD, hU]
theorem prod_square (a : List UInt32) (ha : a.length ≤ 4000) : callF T 357 [.sl (u32s a) .an] = some (.sl (u32s (ofN (val a * val a))) .an) := by
 obtain ⟨_, ⟨out, rfl, ho, hv⟩, hr⟩ := sqa_loop (T := T) a (by omega) (0, List.replicate a.length 0) ⟨Nat.zero_le _, by simp, by simp [val_replicate]⟩
 unfold stSqA at hr
 have hup := twos_up (T := T) out 1 (by decide) (by omega)
 rw [Int.natCast_one] at hup
 have hupl : (ofN (val out * 2 ^ 1)).length ≤ 10000 := by
  have h1 := ofN_length_le out
  have h2 := nat_mul_len' (x := val out) (L := out.length) (by omega)
  omega
 obtain ⟨_, ⟨dg, rfl, hd, hdv⟩, hr2⟩ := sqd_loop (T := T) a (u32s (ofN (val out * 2 ^ 1))) (by simp) (by omega) (0, []) ⟨Nat.zero_le _, rfl, by simp⟩
 unfold stSqD at hr2
 have hn := nat_add (T := T) [ofN (val out * 2 ^ 1), dg] (by simp) (by
  intro x hx
  simp only [List.mem_cons, List.not_mem_nil, or_false] at hx
  rcases hx with rfl | rfl <;> omega)
 have e1 : lls [ofN (val out * 2 ^ 1), dg] = [[.sl (u32s (ofN (val out * 2 ^ 1))) .an], [.sl (u32s dg) .an]] := rfl
 have e2 : sumL [ofN (val out * 2 ^ 1), dg] = val a * val a := by
  simp only [sumL, List.map_cons, List.map_nil, val_ofN, List.sum_cons, List.sum_nil, hv, hdv]
  have := sq_law a
  omega
 rw [e1, e2] at hn
 simp only [Int.natCast_zero, List.nil_append, Nat.sub_zero, Nat.mul_zero] at hr hr2
 have e3 : List.replicate a.length (0 : UInt32) ++ List.replicate (a.length + 1) 0 = List.replicate (2 * a.length + 1) 0 := by
  rw [List.replicate_append_replicate]
  congr 1
  omega
 rw [e3] at hr
 have w1 : IntKind.wrap .i64 (2 * (a.length : Int)) = 2 * (a.length : Int) := wrap_i64 _ (by omega)
 have w2 : IntKind.wrap .i64 (2 * (a.length : Int) + 1) = 2 * (a.length : Int) + 1 := wrap_i64 _ (by omega)
 have n1 : (0 : Int) ≤ 2 * (a.length : Int) + 1 := by omega
 have n2 : 2 * (a.length : Int) + 1 ≤ 4294967296 := by omega
 have n3 : (0 : Int) ≤ 2 * (a.length : Int) := by omega
 have n4 : 2 * (a.length : Int) ≤ 4294967296 := by omega
 have n5 : (2 * (a.length : Int) + 1).toNat = 2 * a.length + 1 := by omega
 have n6 : (2 * (a.length : Int)).toNat = 2 * a.length := by omega
 have t1 : List.take (2 * a.length + 1) out = out := List.take_of_length_le (by omega)
 have t2 : List.take (2 * a.length) dg = dg := List.take_of_length_le (by omega)
 have o1 : out.length = 2 * a.length + 1 := ho
 rw [f357 _ rfl, b357]
 clear e1 e2 e3 hv hdv hupl
 simp -implicitDefEqProofs [w1, w2, n1, n2, n3, n4, n5, n6, hr, ho, t1, hup, hr2, hd, t2, hn]
end
theorem shr_i64 (e m : Nat) (hm : m ≤ 63) : binV .shr (.i .i64 (e : Int)) (.i .i64 (m : Int)) = some (.i .i64 ((e / 2 ^ m : Nat) : Int)) := by
 have h1 : ¬ (m : Int) < 0 := by omega
 have h2 : min m 64 = m := by omega
 simp only [binV, IntKind.bits, h1, if_false, Int.toNat_natCast, h2]
 congr 2
 rw [Int.fdiv_eq_ediv_of_nonneg _ (Int.le_of_lt (Int.pow_pos (by decide)))]
 norm_cast
theorem and_one (k : Nat) (hk : k < 9223372036854775808) : binV .and (.i .i64 (k : Int)) (.i .i64 1) = some (.i .i64 ((k % 2 : Nat) : Int)) := by
 show some (AV.i .i64 (IntKind.wrap .i64 ((BitVec.ofInt 64 (k : Int) &&& BitVec.ofInt 64 1).toNat : Int))) = _
 have h1 : (BitVec.ofInt 64 (k : Int)).toNat = k := by
  rw [BitVec.ofInt_natCast, BitVec.toNat_ofNat]
  omega
 have h2 : (BitVec.ofInt 64 1).toNat = 1 := rfl
 rw [BitVec.toNat_and, h1, h2, Nat.and_one_is_mod, wrap_i64 _ (by omega)]
theorem half_step (e m : Nat) : e / 2 ^ m = 2 * (e / 2 ^ (m + 1)) + e / 2 ^ m % 2 := by
 rw [Nat.pow_succ, ← Nat.div_div_eq_div_mul]
 omega
theorem blen_pow (x e : Nat) (h : e * blen x ≤ 65536) : (ofN (x ^ e)).length ≤ 2048 := by
 by_cases h1 : x ^ e = 0
 ·rw [h1]
  have : ofN 0 = [] := ofN_eq_nil.2 rfl
  rw [this]
  decide
 by_cases hx : x = 0
 ·subst hx
  cases e with
  | zero => exact Nat.le_trans (ofN_length_le' (k := 1) (by decide)) (by decide)
  | succ e => simp at h1
 ·refine ofN_length_le' ?_
  generalize hk : (2048 : Nat) = k
  have h2 : x < 2 ^ blen x := by
   unfold blen
   rw [if_neg hx]
   exact Nat.lt_log2_self
  have h5 : ∀ m, (2 : Nat) ^ (32 * m) = 4294967296 ^ m := fun m => by rw [Nat.pow_mul]
  cases e with
  | zero => exact Nat.one_lt_pow (by omega) (by decide)
  | succ e =>
   have h3 : x ^ (e + 1) < (2 ^ blen x) ^ (e + 1) := Nat.pow_lt_pow_left h2 (by omega)
   rw [← Nat.pow_mul, Nat.mul_comm] at h3
   refine Nat.lt_of_lt_of_le h3 ?_
   rw [← h5]
   exact Nat.pow_le_pow_right (by decide) (by omega)
theorem blen_lt {e : Nat} (h : e < 9223372036854775808) : blen e ≤ 63 := by
 unfold blen
 split
 ·omega
 ·next h0 =>
  have := (Nat.log2_lt (n := e) (k := 63) h0).2 h
  omega
theorem div_blen (e : Nat) : e / 2 ^ blen e = 0 := by
 unfold blen
 split
 ·next h => simp [h]
 ·exact Nat.div_eq_of_lt Nat.lt_log2_self
section
variable {T : Tbl} [CLimb T] [CNat T] [CProd T] [CTwos T] [CPow T]
theorem pow_loop (a : List UInt32) (e : Nat) (ha : a.length ≤ 3000) (he : e < 9223372036854775808) (hb : e * blen (val a) ≤ 65536) : ∀ b : Nat, b ≤ 63 →
  loopN T 0 0 (.norm false [7]) l258_0 ⟨[(0, .sl (u32s a) .an), (1, .i .i64 e), (7, .sl (u32s (ofN (val a ^ (e / 2 ^ b)))) .an), (8, .i .i64 ((b : Int) - 1))], [], 2⟩ =
   some (.n, ⟨[(7, .sl (u32s (ofN (val a ^ e))) .an)], [], 2⟩) := by
 refine loopN_eq (fun b : Nat => ⟨[(0, .sl (u32s a) .an), (1, .i .i64 e), (7, .sl (u32s (ofN (val a ^ (e / 2 ^ b)))) .an), (8, .i .i64 ((b : Int) - 1))], [], 2⟩) (fun b => b ≤ 63) (fun b => b) (fun _ => _) ?_
 intro b hb63
 cases b with
 | zero =>
  right
  rw [Nat.pow_zero, Nat.div_one]
  generalize ofN (val a ^ e) = R at *
  constructor <;> simp -implicitDefEqProofs [l258_0]
 | succ m =>
  left
  have hs := half_step e m
  have hmul : ∀ k, k ≤ e → k * blen (val a) ≤ 65536 := fun k hk => Nat.le_trans (Nat.mul_le_mul_right _ hk) hb
  have hd0 : e / 2 ^ m ≤ e := Nat.div_le_self _ _
  have l1 := blen_pow (val a) (e / 2 ^ (m + 1)) (hmul _ (Nat.div_le_self _ _))
  have l2 := blen_pow (val a) (2 * (e / 2 ^ (m + 1))) (hmul _ (by omega))
  have c1 := prod_square (T := T) (ofN (val a ^ (e / 2 ^ (m + 1)))) (by omega)
  rw [val_ofN, ← Nat.pow_add, ← Nat.two_mul] at c1
  have c2 := prod_mul (T := T) (ofN (val a ^ (2 * (e / 2 ^ (m + 1))))) a (by omega) (by omega)
  rw [val_ofN, ← Nat.pow_add_one] at c2
  have hsh := shr_i64 e m (by omega)
  have han := and_one (e / 2 ^ m) (by omega)
  have w1 : IntKind.wrap .i64 ((m : Int) - 1) = (m : Int) - 1 := wrap_i64 _ (by omega)
  have p1 : (0 : Int) ≤ m := by omega
  have e1 : ((m + 1 : Nat) : Int) - 1 = m := by omega
  refine ⟨m, by omega, by simp, ?_, rfl⟩
  rw [e1]
  rcases Nat.mod_two_eq_zero_or_one (e / 2 ^ m) with h0 | h0
  ·rw [h0] at han hs
   rw [Nat.add_zero] at hs
   rw [← hs] at c1
   clear l1 l2 c2 hs
   generalize ofN (val a ^ (e / 2 ^ (m + 1))) = X at *
   generalize ofN (val a ^ (e / 2 ^ m)) = Y at *
   generalize e / 2 ^ m = q at *
   simp -implicitDefEqProofs [l258_0, p1, c1, hsh, han, w1]
  ·rw [h0] at han hs
   rw [← hs] at c2
   clear l1 l2 hs
   generalize ofN (val a ^ (e / 2 ^ (m + 1))) = X at *
   generalize ofN (val a ^ (2 * (e / 2 ^ (m + 1)))) = Z at *
   generalize ofN (val a ^ (e / 2 ^ m)) = Y at *
   generalize e / 2 ^ m = q at *
   simp -implicitDefEqProofs [l258_0, p1, c1, c2, hsh, han, w1]
theorem prod_pow (a : List UInt32) (e : Nat) (ha : a.length ≤ 3000) (h2 : 2 ≤ blen (val a)) (hb : e ≤ 65536 / blen (val a)) :
  callF T 258 [.sl (u32s a) .an, .i .i64 e] = some (.tup [.sl (u32s (ofN (val a ^ e))) .an, .b true]) := by
 have hmul : e * blen (val a) ≤ 65536 := Nat.le_trans (Nat.mul_le_mul_right _ hb) (Nat.div_mul_le_self _ _)
 have he : e ≤ 65536 := Nat.le_trans hb (Nat.div_le_self _ _)
 have c1 := twos_len (T := T) a (by omega)
 have c2 := nat_of (T := T) 1 (by decide)
 have c3 := nat_of (T := T) e (by omega)
 have c4 := twos_len (T := T) (ofN e) (by
  have := ofN_length_le' (n := e) (k := 1) (by omega)
  omega)
 rw [val_ofN] at c4
 have hl := pow_loop (T := T) a e ha (by omega) hmul (blen e) (blen_lt (by omega))
 rw [div_blen, Nat.pow_zero] at hl
 have hbe := blen_lt (e := e) (by omega)
 have hq : ((65536 : Int)).tdiv (blen (val a) : Int) = ((65536 / blen (val a) : Nat) : Int) := by
  rw [Int.tdiv_eq_ediv_of_nonneg (by decide)]
  rfl
 have hbl : 65536 / blen (val a) ≤ 65536 := Nat.div_le_self _ _
 have w0 : IntKind.wrap .i64 ((65536 / blen (val a) : Nat) : Int) = ((65536 / blen (val a) : Nat) : Int) := wrap_i64 _ (by omega)
 have w1 : IntKind.wrap .i64 ((blen e : Int) - 1) = (blen e : Int) - 1 := wrap_i64 _ (by omega)
 have q1 : ¬ (e : Int) < 0 := by omega
 have q2 : (1 : Int) < (blen (val a) : Int) := by omega
 have q2' : 1 < blen (val a) := by omega
 have q3 : ¬ ((65536 / blen (val a) : Nat) : Int) < (e : Int) := by omega
 have q3' : ¬ (65536 / blen (val a)) < e := by omega
 have q4 : ¬ (blen (val a) : Int) < 2 := by omega
 have q4' : ¬ blen (val a) < 2 := by omega
 have q5 : ¬ (blen (val a) : Int) = 0 := by omega
 have q5' : ¬ blen (val a) = 0 := by omega
 have qm : ((e : Int) % 18446744073709551616).toNat = e := by omega
 rw [f258 _ rfl, b258]
 generalize 65536 / blen (val a) = Q at *
 clear hmul
 generalize ofN (val a ^ e) = R at *
 generalize ofN 1 = O at *
 generalize blen (val a) = B at *
 generalize ofN e = E at *
 simp -implicitDefEqProofs [c1, c2, c3, c4, hl, hq, w0, w1, q1, q2, q2', q3, q3', q4, q4', q5, q5', qm]
end
end Go.Ab
end

section
namespace Go.Ab
def b314 : AX :=
 (.seq
 (.reg [rg 4 (.mov (.c (.b false)))])
 (.seq
 (.seq
 (.reg [mv 13 0, rg 14 (.call 307 [(.t 13), (.c (.i .i64 8)), (.c (.i .i64 3))]), mv 15 14, gd 16 15 false (.mov (.t 1)),
 gd 17 15 false (.call 286 [(.t 16), (.c (.i .i64 8)), (.c (.i .i64 3))]), rg 18 (.pick (.t 15) (.c (.b true)) (.t 17))])
 (.cond (.t 18)
 (.seq
 (.reg [rg 19 (.call 310 []), mv 4 19])
 (.pre (.norm false [4]) .ret))
 .skip))
 (.seq
 (.reg [mv 21 1, rg 22 (.call 287 [(.t 21)]), mv 23 0, rg 24 (.call 308 [(.t 23)]), rg 25 (.call 295 [(.t 22), (.t 24)]), mv 20 25, rg 26 (.ext (.t 20) 0),
 rg 27 (.ext (.t 20) 1), mv 5 26, mv 6 27])
 (.seq
 (.reg [mv 29 0, rg 30 (.call 308 [(.t 29)]), mv 31 1, rg 32 (.call 287 [(.t 31)]), rg 33 (.call 296 [(.t 30), (.t 32)]), mv 28 33, rg 34 (.ext (.t 28) 0),
 rg 35 (.ext (.t 28) 1), mv 7 34, mv 8 35])
 (.seq
 (.reg [mv 36 0, rg 37 (.call 300 [(.t 36)]), mv 38 37, gd 39 38 true (.mov (.t 1)), gd 40 38 true (.len (.t 39)), gd 41 38 true (.mov (.t 0)),
 gd 42 38 true (.len (.t 41)), gd 43 38 true (.bin .eql (.t 40) (.t 42)), rg 44 (.pick (.t 38) (.t 43) (.c (.b false))), mv 9 44])
 (.seq
 (.reg [mv 45 0, rg 46 (.call 300 [(.t 45)]), mv 47 46, gd 48 47 true (.mov (.t 1)), gd 49 47 true (.len (.t 48)), gd 50 47 true (.mov (.t 0)),
 gd 51 47 true (.call 299 [(.t 50)]), gd 52 47 true (.bin .eql (.t 49) (.t 51)), rg 53 (.pick (.t 47) (.t 52) (.c (.b false))), mv 10 53])
 (.seq
 (.reg [mv 54 0, rg 55 (.call 301 [(.t 54)]), mv 11 55])
 (.seq
 (.reg [mv 56 1, rg 57 (.call 278 [(.t 56)]), mv 12 57])
 (.seq
 (.seq
 (.reg [mv 58 6, mv 59 9, rg 60 (.eqb true (.t 58) (.t 59)), mv 61 60, gd 62 61 false (.mov (.t 8)), gd 63 61 false (.mov (.t 10)),
 gd 64 61 false (.eqb true (.t 62) (.t 63)), rg 65 (.pick (.t 61) (.c (.b true)) (.t 64)), mv 66 65, gd 67 66 false (.mov (.t 9)),
 gd 68 66 false (.un .not (.t 67)), gd 69 66 false (.mov (.t 68)), gd 70 69 true (.mov (.t 5)), gd 71 69 true (.len (.t 70)),
 gd 72 69 true (.bin .neq (.t 71) (.c (.i .i64 0))), gd 73 66 false (.pick (.t 69) (.t 72) (.c (.b false))), rg 74 (.pick (.t 66) (.c (.b true)) (.t 73)),
 mv 75 74, gd 76 75 false (.mov (.t 10)), gd 77 75 false (.un .not (.t 76)), gd 78 75 false (.mov (.t 77)), gd 79 78 true (.mov (.t 7)),
 gd 80 78 true (.len (.t 79)), gd 81 78 true (.bin .neq (.t 80) (.c (.i .i64 0))), gd 82 75 false (.pick (.t 78) (.t 81) (.c (.b false))),
 rg 83 (.pick (.t 75) (.c (.b true)) (.t 82))])
 (.cond (.t 83)
 (.seq
 (.reg [rg 4 (.mov (.c (.b false)))])
 (.pre (.norm false [4]) .ret))
 .skip))
 (.seq
 (.reg [mv 84 9, rg 85 (.un .not (.t 84)), mv 86 85, gd 87 86 false (.mov (.t 5)), gd 88 86 false (.mov (.t 12)), gd 89 86 false (.mov (.t 11)),
 gd 90 86 false (.call 306 [(.t 88), (.t 89)]), gd 91 86 false (.call 289 [(.t 87), (.t 90)]), rg 92 (.pick (.t 86) (.c (.b true)) (.t 91)), mv 93 92,
 gd 94 93 true (.mov (.t 10)), gd 95 93 true (.un .not (.t 94)), gd 96 93 true (.mov (.t 95)), gd 97 96 false (.mov (.t 7)),
 gd 98 96 false (.mov (.t 11)), gd 99 96 false (.mov (.t 12)), gd 100 96 false (.call 305 [(.t 98), (.t 99)]),
 gd 101 96 false (.call 289 [(.t 97), (.t 100)]), gd 102 93 true (.pick (.t 96) (.c (.b true)) (.t 101)), rg 103 (.pick (.t 93) (.t 102) (.c (.b false))),
 mv 104 103, gd 105 104 true (.call 310 []), rg 106 (.pick (.t 104) (.t 105) (.c (.b false))), mv 4 106])
 (.pre (.norm false [4]) .ret)))))))))))
class CLaw12 (T : Tbl) : Prop where
 h314 : T 314 = some ⟨2, 107, [.t 4], b314, none, false⟩
section
variable {T : Tbl} [CLaw12 T] {d : Option Nat} {st : St} {xs : List AV} {ps : List Opd} {e : Env} {h : Heap} {ol : List Heap}
theorem f314 (xs : List AV) (hn : xs.length = 2) : callF T 314 xs = retF [.t 4] false (evX (orc T) T 0 b314 ⟨argEnv xs, [], 1⟩) := callF_eq CLaw12.h314 hn
end
end Go.Ab
end

section
namespace Go.Ab
class CRef12 (T : Tbl) : Prop where
end Go.Ab
end

section
namespace Go.Ab
section
variable {T : Tbl} [CRef02 T] [CRef04 T] [CRef05 T] [CRef07 T] [CRef06 T] [CRef08 T] [CRef09 T] [CRef11 T] [CRef12 T]
def stR12 (m : List (List Fz)) (i : Nat) : St := ⟨[(0, .sl (matF m) .an), (3, .i .i64 i)], [], 2⟩
def stN12 (m : List (List Fz)) (i : Nat) : St := ⟨[(0, .sl (matF m) .an), (3, .bs (.loc 3) 1 1 0 i), (4, .i .i64 i)], [((.loc 3), ⟨1, .own, 1, matF (fzM (valM (m.take i)))⟩)], 3⟩
def stS12 (a b : List (List Fz)) (i : Nat) : St := ⟨[(0, .sl (matF a) .an), (1, .sl (matF b) .an), (5, .i .i64 i)], [], 2⟩
def stI12 (n : Int) (k : Nat) (i : Nat) : St := ⟨[(0, .i .i64 n), (3, .bs (.loc 3) 1 1 0 i), (4, .i .i64 i)], [((.loc 3), ⟨1, .own, 1, matF (idQ k i)⟩)], 3⟩
def stT12i (L : List (List Rat)) (R : List (List Fz)) (j : Nat) (i : Nat) : St := ⟨[(0, .sl (matF (fzM L)) .an), (3, .bs (.loc 3) 1 1 0 j), (4, .i .i64 j), (5, .bs (.loc 5) 2 3 0 i), (6, .i .i64 i)], [(.loc 3, ⟨1, .own, 1, matF R⟩), ((.loc 5), ⟨2, .own, 3, rowF (fzs (colQ (L.take i) j))⟩)], 4⟩
def stT12o (L : List (List Rat)) (i : Nat) : St := ⟨[(0, .sl (matF (fzM L)) .an), (3, .bs (.loc 3) 1 1 0 i), (4, .i .i64 i)], [((.loc 3), ⟨1, .own, 1, matF (fzM ((List.range i).map (colQ L)))⟩)], 3⟩
def stA12 (L : List (List Rat)) (c : List Rat) (i : Nat) : St := ⟨[(0, .sl (matF (fzM L)) .an), (1, .sl (rowF (fzs c)) .an), (5, .bs (.loc 5) 1 3 0 i), (6, .i .i64 i)], [((.loc 5), ⟨1, .own, 3, rowF (fzs (applyR (L.take i) c))⟩)], 3⟩
def longM (m : List (List Fz)) (many words : Nat) : Bool := decide (many < m.length) || m.any fun r => longB r many words
def stL12 (m : List (List Fz)) (many words : Nat) (i : Nat) : St := ⟨[(0, .sl (matF m) .an), (1, .i .i64 many), (2, .i .i64 words), (7, .i .i64 i)], [], 2⟩
end
end Go.Ab
end

section
namespace Go.Ab
theorem fzs_inj {a b : List Rat} : fzs a = fzs b ↔ a = b := ⟨fun h => by rw [← fv_fzs a, h, fv_fzs], fun h => by rw [h]⟩
theorem fzs_sz {l : List Rat} {B : Nat} (h : ∀ q ∈ l, sz q ≤ B) : ∀ x ∈ fzs l, fsz x ≤ B := by
 intro x hx
 obtain ⟨q, hq, rfl⟩ := List.mem_map.1 hx
 exact h q hq
theorem vals_sz {l : List Fz} {B : Nat} (hB : 1 ≤ B) (h : ∀ x ∈ l, fsz x ≤ B) : ∀ q ∈ l.map fv, sz q ≤ B := by
 intro q hq
 obtain ⟨x, hx, rfl⟩ := List.mem_map.1 hq
 exact sz_fv (h x hx) hB
section
variable {T : Tbl} [CNat T] [CProd T] [CTwos T] [CQuot T] [CQuotD T] [CText T] [CWhole T] [CCommon T] [CFrac T] [CJoin T] [CRow T] [CGrid T] [CRef02 T] [CRef04 T] [CRef05 T] [CRef07 T] [CRef06 T] [CRef08 T] [CRef09 T] [CRef11 T] [CRef12 T] [CLaw09 T] [CLaw11 T] [CLaw12 T]
def stTo12 (m : List (List Fz)) (i : Nat) : St := ⟨[(0, .sl (matF m) .an), (3, .bs (.loc 3) 1 1 0 i), (4, .i .i64 i)], [((.loc 3), ⟨1, .own, 1, matF (m.take i)⟩)], 3⟩
def stI12s (a b : List (List Fz)) (i : Nat) : St := ⟨[(0, .sl (matF a) .an), (1, .sl (matF b) .an), (5, .i .i64 i)], [], 2⟩
theorem szle1 {q : Rat} (h1 : q.num.natAbs < 4294967296) (h2 : q.den < 4294967296) : sz q ≤ 1 := Nat.max_le.2 ⟨ofN_length_le' (by simpa using h1), ofN_length_le' (by simpa using h2)⟩
theorem textQ_nat (n : Nat) (h : n < 10) : textQ (n : Rat) = [UInt8.ofNat (48 + n)] := by
 unfold textQ
 rw [if_pos (Rat.den_natCast n), Rat.num_natCast]
 unfold textZ
 rw [if_neg (by omega), Int.natAbs_natCast, textN_small h]
end
end Go.Ab
end

section
namespace Go.Ab
class CPoly (T : Tbl) : Prop where
end Go.Ab
end

section
namespace Go.Ab
def tlen (l : List Rat) : Nat → Nat
 | 0 => 0
 | n + 1 => if l.getD n 0 = 0 then tlen l n else n + 1
def trimR (l : List Rat) : List Rat := l.take (tlen l l.length)
section
variable {T : Tbl} [CNat T] [CProd T] [CTwos T] [CQuot T] [CQuotD T] [CText T] [CWhole T] [CCommon T] [CFrac T] [CJoin T] [CRow T] [CPoly T]
def evlR : List Rat → Rat → Rat
 | [], _ => 0
 | a :: l, x => evlR l x * x + a
def dif (l : List Rat) : List Rat := (List.range (l.length - 1)).map fun (i : Nat) => (((i : Int) + 1 : Int) : Rat) * l.getD (i + 1) 0
def stDf (l : List Fz) (i : Nat) : St := ⟨[(0, .sl (rowF l) .an), (3, .bs (.loc 3) 1 3 0 i), (4, .i .i64 ((i : Int) + 1))], [((.loc 3), ⟨1, .own, 3, rowF (fzs ((dif (l.map fv)).take i))⟩)], 3⟩
end
end Go.Ab
end

section
namespace Go.Ab
def sizF (x : Fz) : Nat := blen (val x.2.1) + blen (val x.2.2)
def sizL (l : List Fz) : Nat := l.foldl (fun n x => max n (sizF x)) 0
theorem blen_le' {x k : Nat} (h : (ofN x).length ≤ k) : blen x ≤ 32 * k := by
 unfold blen
 split
 ·omega
 ·next h0 =>
  have h1 := val_lt (ofN x)
  rw [val_ofN] at h1
  have h2 : 4294967296 ^ (ofN x).length ≤ 4294967296 ^ k := Nat.pow_le_pow_right (by decide) h
  have h3 : (4294967296 : Nat) ^ k = 2 ^ (32 * k) := by rw [Nat.pow_mul]
  have := (Nat.log2_lt (n := x) (k := 32 * k) h0).2 (by omega)
  omega
theorem foldl_take {α β : Type} (f : β → α → β) (b : β) (l : List α) {i : Nat} (h : i < l.length) : (l.take (i + 1)).foldl f b = f ((l.take i).foldl f b) (l[i]'h) := by
 rw [List.take_succ_eq_append_getElem h, List.foldl_append]
 rfl
section
variable {T : Tbl} [CLimb T] [CNat T] [CProd T] [CTwos T] [CQuot T] [CQuotD T] [CText T] [CWhole T] [CCommon T] [CFrac T] [CFrac2 T] [CFrac5 T] [CPow T] [CJoin T] [CRow T] [CRow5 T]
def bestI (b c : Rat) (i : Nat) : Rat := if i = 0 then 0 else if i = 1 then b else (if b < c then c else b)
def stMx (b c : Rat) (i : Nat) : St := ⟨[(2, .ptr (.loc 2) 1 3 0 0), (3, .ptr (.loc 3) 2 3 0 0), (7, .sl [celF (fz b), celF (fz c)] .an), (8, .i .i64 2), (9, .i .i64 i)],
 [(.loc 2, ⟨1, .str, 3, [nocell]⟩), (.loc 3, ⟨2, .str, 3, [celF (fz (bestI b c i))]⟩)], 4⟩
theorem frac_max2 (b c : Rat) (hb : sz b ≤ 900) (hc : sz c ≤ 900) : callF T 221 [.sl [celF (fz b), celF (fz c)] .an] = some (efz (fz (if b < c then c else b))) := by
 have c0 := frac_of0 (T := T)
 have n1 := frac_norm (T := T) (fz b) (by rw [fsz_fz]; omega)
 have n2 := frac_norm (T := T) (fz c) (by rw [fsz_fz]; omega)
 rw [fv_fz] at n1 n2
 have cm := frac_cmp (T := T) (fz c) (fz b) (by rw [fsz_fz]; omega) (by rw [fsz_fz]; omega)
 rw [fv_fz, fv_fz] at cm
 have hloop : loopN T 0 0 (.norm false [2, 3]) l221_0 (stMx b c 0) = some (.n, ⟨[(2, .ptr (.loc 2) 1 3 0 0), (3, .ptr (.loc 3) 2 3 0 0)], [(.loc 2, ⟨1, .str, 3, [nocell]⟩), (.loc 3, ⟨2, .str, 3, [celF (fz (if b < c then c else b))]⟩)], 4⟩) := by
  refine range_loop (stMx b c) 2 _ (fun i hi => ?_) ?_
  ·have hws := wrapS hi (by decide)
   match i, hi with
   | 0, _ =>
    have e0 : bestI b c 0 = 0 := rfl
    have e1 : bestI b c 1 = b := rfl
    unfold stMx
    rw [e0, e1]
    generalize fz 0 = Z at *
    generalize fz b = X at *
    generalize fz c = Y at *
    simp -implicitDefEqProofs [l221_0, n1]
   | 1, _ =>
    have e1 : bestI b c 1 = b := rfl
    have e2 : bestI b c 2 = if b < c then c else b := rfl
    unfold stMx
    rw [e1, e2]
    by_cases h : b < c
    ·have hp : 0 < sgQ (c - b) := sgQ_pos.2 (by grind)
     rw [if_pos h]
     clear h e1 e2
     generalize sgQ (c - b) = Q at *
     generalize fz b = X at *
     generalize fz c = Y at *
     simp -implicitDefEqProofs [l221_0, n2, cm, hp]
    ·have hp : ¬ 0 < sgQ (c - b) := fun e => h (by have := sgQ_pos.1 e; grind)
     rw [if_neg h]
     clear h e1 e2
     generalize sgQ (c - b) = Q at *
     generalize fz b = X at *
     generalize fz c = Y at *
     simp -implicitDefEqProofs [l221_0, n2, cm, hp]
  ·have e2 : bestI b c 2 = if b < c then c else b := rfl
   unfold stMx
   rw [e2]
   generalize fz (if b < c then c else b) = R at *
   generalize fz b = X at *
   generalize fz c = Y at *
   constructor <;> simp -implicitDefEqProofs [l221_0]
 have e0 : bestI b c 0 = 0 := rfl
 unfold stMx at hloop
 rw [e0] at hloop
 simp only [Int.natCast_zero] at hloop
 rw [f221 _ rfl, b221]
 clear n1 n2 cm
 generalize fz (if b < c then c else b) = R at *
 generalize fz 0 = Z at *
 generalize fz b = X at *
 generalize fz c = Y at *
 simp -implicitDefEqProofs [c0, hloop]
def stRn (l : List Fz) (i : Nat) : St := ⟨[(2, .ptr (.loc 2) 1 3 0 0), (3, .ptr (.loc 3) 2 3 0 0), (7, .sl (rowF l) .an), (8, .i .i64 l.length), (9, .i .i64 i)],
 [(.loc 2, ⟨1, .str, 3, [nocell]⟩), (.loc 3, ⟨2, .str, 3, [celF (fz (normR ((l.map fv).take i)))]⟩)], 4⟩
theorem row_normv (l : List Fz) (hl : l.length ≤ 1000) (hw : ∀ x ∈ l, fsz x ≤ 900) : callF T 272 [.sl (rowF l) .an] = some (efz (fz (normR (l.map fv)))) := by
 have c0 := frac_of0 (T := T)
 have hloop : loopN T 0 0 (.norm false [2, 3]) l272_0 (stRn l 0) = some (.n, ⟨[(2, .ptr (.loc 2) 1 3 0 0), (3, .ptr (.loc 3) 2 3 0 0)], [(.loc 2, ⟨1, .str, 3, [nocell]⟩), (.loc 3, ⟨2, .str, 3, [celF (fz (normR (l.map fv)))]⟩)], 4⟩) := by
  refine range_loop (stRn l) l.length _ (fun i hi => ?_) ?_
  ·have hws := wrapS hi (by omega)
   have hg : l[i]? = some (l[i]'hi) := List.getElem?_eq_getElem hi
   have hil : (i : Int) < l.length := by omega
   have zx := hw _ (List.getElem_mem hi)
   have ca := frac_abs (T := T) (l[i]'hi) (by omega)
   have zn : sz (normR ((l.map fv).take i)) ≤ 900 := normR_sz (by decide) _ 0 (by rw [sz_zero]; decide) fun x hx => by
    obtain ⟨y, hy, rfl⟩ := List.mem_map.1 (List.mem_of_mem_take hx)
    exact sz_fv (hw y hy) (by decide)
   have za : sz (absQ (fv (l[i]'hi))) ≤ 900 := by rw [sz_abs]; exact sz_fv zx (by decide)
   have cm := frac_max2 (T := T) (normR ((l.map fv).take i)) (absQ (fv (l[i]'hi))) zn za
   have e : normR ((l.map fv).take (i + 1)) = (if normR ((l.map fv).take i) < absQ (fv (l[i]'hi)) then absQ (fv (l[i]'hi)) else normR ((l.map fv).take i)) := by
    unfold normR
    rw [foldl_take _ _ _ (show i < (l.map fv).length by simpa using hi)]
    simp only [maxStep, List.getElem_map]
   rw [← e] at cm
   unfold stRn
   clear e zn za hw
   generalize fz (normR ((l.map fv).take (i + 1))) = N' at *
   generalize fz (normR ((l.map fv).take i)) = N at *
   generalize fz (absQ (fv (l[i]'hi))) = A at *
   simp -implicitDefEqProofs [l272_0, hi, hil, hg, hws, ca, cm]
  ·have e : (l.map fv).take l.length = l.map fv := List.take_of_length_le (by simp)
   unfold stRn
   rw [e]
   generalize fz (normR (l.map fv)) = N at *
   constructor <;> simp -implicitDefEqProofs [l272_0]
 unfold stRn at hloop
 have e0 : normR ((l.map fv).take 0) = 0 := rfl
 rw [e0] at hloop
 simp only [Int.natCast_zero] at hloop
 rw [f272 _ rfl, b272]
 clear hw
 generalize fz (normR (l.map fv)) = R at *
 generalize fz 0 = Z at *
 simp -implicitDefEqProofs [c0, hloop]
theorem frac_size (x : Fz) (hx : fsz x ≤ 10000) : callF T 223 [efz x] = some (.i .i64 (sizF x)) := by
 have h1 := fsz_a x
 have h2 := fsz_d x
 have c1 := twos_len (T := T) x.2.1 (by omega)
 have c2 := twos_len (T := T) x.2.2 (by omega)
 have b1 := blen_le' (x := val x.2.1) (k := 10000) (Nat.le_trans (ofN_length_le x.2.1) (by omega))
 have b2 := blen_le' (x := val x.2.2) (k := 10000) (Nat.le_trans (ofN_length_le x.2.2) (by omega))
 have w : IntKind.wrap .i64 ((blen (val x.2.1) : Int) + (blen (val x.2.2) : Int)) = ((sizF x : Nat) : Int) := by
  have e : ((sizF x : Nat) : Int) = (blen (val x.2.1) : Int) + (blen (val x.2.2) : Int) := by unfold sizF; omega
  rw [e]
  exact wrap_i64 _ (by omega)
 rw [f223 _ rfl, b223]
 generalize sizF x = S at *
 generalize blen (val x.2.1) = B1 at *
 generalize blen (val x.2.2) = B2 at *
 simp -implicitDefEqProofs [c1, c2, w]
def stRs (l : List Fz) (i : Nat) : St := ⟨[(3, .i .i64 (sizL (l.take i))), (6, .sl (rowF l) .an), (7, .i .i64 l.length), (8, .i .i64 i)], [], 2⟩
theorem row_size (l : List Fz) (hl : l.length ≤ 1000) (hw : ∀ x ∈ l, fsz x ≤ 1000) : callF T 273 [.sl (rowF l) .an] = some (.i .i64 (sizL l)) := by
 have hloop : loopN T 0 0 (.norm false [3]) l273_0 (stRs l 0) = some (.n, ⟨[(3, .i .i64 (sizL l))], [], 2⟩) := by
  refine range_loop (stRs l) l.length _ (fun i hi => ?_) ?_
  ·have hws := wrapS hi (by omega)
   have hg : l[i]? = some (l[i]'hi) := List.getElem?_eq_getElem hi
   have hil : (i : Int) < l.length := by omega
   have cs := frac_size (T := T) (l[i]'hi) (by have := hw _ (List.getElem_mem hi); omega)
   have e : sizL (l.take (i + 1)) = max (sizL (l.take i)) (sizF (l[i]'hi)) := by
    unfold sizL
    rw [foldl_take _ _ _ hi]
   unfold stRs
   rw [e]
   clear e hw
   generalize sizL (l.take i) = A at *
   generalize sizF (l[i]'hi) = B at *
   by_cases h : A < B
   ·have m : max A B = B := Nat.max_eq_right (by omega)
    have h' : (A : Int) < B := by omega
    rw [m]
    simp -implicitDefEqProofs [l273_0, hi, hil, hg, hws, cs, mm2, h, h']
   ·have m : max A B = A := Nat.max_eq_left (by omega)
    have h' : ¬ (A : Int) < B := by omega
    rw [m]
    simp -implicitDefEqProofs [l273_0, hi, hil, hg, hws, cs, mm2, h, h']
  ·have e : l.take l.length = l := List.take_length
   unfold stRs
   rw [e]
   generalize sizL l = A at *
   constructor <;> simp -implicitDefEqProofs [l273_0]
 unfold stRs at hloop
 have e0 : sizL (l.take 0) = 0 := rfl
 rw [e0] at hloop
 simp only [Int.natCast_zero] at hloop
 rw [f273 _ rfl, b273]
 clear hw
 generalize sizL l = A at *
 simp -implicitDefEqProofs [hloop]
end
section
variable {T : Tbl} [CRef02 T] [CRef04 T] [CRef05 T] [CRef07 T] [CRef06 T] [CRef08 T] [CRef09 T] [CRef11 T] [CRef5 T]
theorem sub09 (p q : Rat) (hp : sz p ≤ 1000) (hq : sz q ≤ 1000) : callF T 240 [efz (fz p), efz (fz q)] = some (efz (fz (p - q))) := by
 have c1 := ref09_neg (T := T) (fz q) (by rw [fsz_fz]; omega)
 rw [fv_fz] at c1
 have c2 := ref09_addQ (T := T) p (-q) hp (by rw [sz_neg]; exact hq)
 rw [← Rat.sub_eq_add_neg] at c2
 rw [f240 _ rfl, b240]
 generalize fz (p - q) = R at *
 generalize fz (-q) = N at *
 generalize fz p = X at *
 generalize fz q = Y at *
 simp -implicitDefEqProofs [c1, c2]
theorem sign09 (q : Rat) : callF T 236 [efz (fz q)] = some (.i .i64 (sgQ q)) := by
 have h : ((fz q).2.1.length = 0) ↔ q = 0 := by
  constructor
  ·intro h
   have h1 : (ofN q.num.natAbs).length = 0 := h
   rw [List.length_eq_zero_iff] at h1
   have h2 : val (ofN q.num.natAbs) = 0 := by rw [h1]; rfl
   rw [val_ofN] at h2
   exact sgQ_zero.1 (sgI_zero.2 (by omega))
  ·intro h
   rw [h, fz_zero]
   rfl
 have hs : (fz q).1 = decide (q.num < 0) := rfl
 rw [f236 _ rfl, b236]
 by_cases hz : q = 0
 ·have h1 := h.2 hz
  have h3 : sgQ q = 0 := sgQ_zero.2 hz
  rw [h3]
  clear h
  generalize fz q = X at *
  simp -implicitDefEqProofs [h1]
 ·have h1 : ¬ (fz q).2.1.length = 0 := fun x => hz (h.1 x)
  have h2 : ¬ ((fz q).2.1.length : Int) = 0 := by omega
  have h4 : q.num ≠ 0 := fun x => hz (sgQ_zero.1 (sgI_zero.2 x))
  by_cases hn : q.num < 0
  ·have h3 : sgQ q = -1 := by
    have a1 := sgI_neg.2 hn
    have a2 : sgI q.num = -1 ∨ sgI q.num = 0 ∨ sgI q.num = 1 := by unfold sgI; split <;> (try split) <;> simp
    show sgI q.num = -1
    omega
   rw [decide_eq_true hn] at hs
   rw [h3]
   clear h
   generalize fz q = X at *
   simp -implicitDefEqProofs [h1, h2, hs]
  ·have h3 : sgQ q = 1 := by
    have a1 := sgI_pos.2 (show 0 < q.num by omega)
    have a2 : sgI q.num = -1 ∨ sgI q.num = 0 ∨ sgI q.num = 1 := by unfold sgI; split <;> (try split) <;> simp
    show sgI q.num = 1
    omega
   rw [decide_eq_false hn] at hs
   rw [h3]
   clear h
   generalize fz q = X at *
   simp -implicitDefEqProofs [h1, h2, hs]
theorem ref09_cmpQ (p q : Rat) (hp : sz p ≤ 1000) (hq : sz q ≤ 1000) : callF T 243 [efz (fz p), efz (fz q)] = some (.i .i64 (sgQ (p - q))) := by
 have c1 := sub09 (T := T) p q hp hq
 have c2 := sign09 (T := T) (p - q)
 rw [f243 _ rfl, b243]
 generalize fz (p - q) = D at *
 generalize fz p = X at *
 generalize fz q = Y at *
 simp -implicitDefEqProofs [c1, c2]
theorem ref09_size (x : Fz) (hx : fsz x ≤ 10000) : callF T 245 [efz x] = some (.i .i64 (sizF x)) := by
 have h1 := fsz_a x
 have h2 := fsz_d x
 have c1 := ref03_blen (T := T) x.2.1 (by omega)
 have c2 := ref03_blen (T := T) x.2.2 (by omega)
 have b1 := blen_le' (x := val x.2.1) (k := 10000) (Nat.le_trans (ofN_length_le x.2.1) (by omega))
 have b2 := blen_le' (x := val x.2.2) (k := 10000) (Nat.le_trans (ofN_length_le x.2.2) (by omega))
 have w : IntKind.wrap .i64 ((blen (val x.2.1) : Int) + (blen (val x.2.2) : Int)) = ((sizF x : Nat) : Int) := by
  have e : ((sizF x : Nat) : Int) = (blen (val x.2.1) : Int) + (blen (val x.2.2) : Int) := by unfold sizF; omega
  rw [e]
  exact wrap_i64 _ (by omega)
 rw [f245 _ rfl, b245]
 generalize sizF x = S at *
 generalize blen (val x.2.1) = B1 at *
 generalize blen (val x.2.2) = B2 at *
 simp -implicitDefEqProofs [c1, c2, w]
theorem ref09_absQ (q : Rat) (hq : sz q ≤ 10000) : callF T 238 [efz (fz q)] = some (efz (fz (absQ q))) := by
 rw [fz_abs, f238 _ rfl, b238]
 generalize fz q = X at *
 simp -implicitDefEqProofs
def stSc (c : Rat) (p : List Rat) (i : Nat) : St := ⟨[(1, .sl (rowF (fzs p)) .an), (2, .ptr (.loc 2) 1 3 0 0), (5, .bs (.loc 5) 2 3 0 i), (6, .i .i64 i)],
 [(.loc 2, ⟨1, .str, 3, [celF (fz c)]⟩), (.loc 5, ⟨2, .own, 3, rowF (fzs ((sclR c p).take i))⟩)], 4⟩
def stRx (p : List Rat) (i : Nat) : St := ⟨[(0, .sl (rowF (fzs p)) .an), (2, .ptr (.loc 2) 1 3 0 0), (3, .ptr (.loc 3) 2 3 0 0), (4, .i .i64 i)],
 [(.loc 2, ⟨1, .str, 3, [nocell]⟩), (.loc 3, ⟨2, .str, 3, [celF (fz (normR (p.take i)))]⟩)], 4⟩
theorem ref11_max (p : List Rat) (hl : p.length ≤ 1000) (hp : ∀ q ∈ p, sz q ≤ 900) : callF T 283 [.sl (rowF (fzs p)) .an] = some (efz (fz (normR p))) := by
 have c0 := ref09_int0 (T := T)
 have hloop : loopN T 0 0 (.norm false [2, 3]) l283_0 (stRx p 0) = some (.n, ⟨[(2, .ptr (.loc 2) 1 3 0 0), (3, .ptr (.loc 3) 2 3 0 0)], [(.loc 2, ⟨1, .str, 3, [nocell]⟩), (.loc 3, ⟨2, .str, 3, [celF (fz (normR p))]⟩)], 4⟩) := by
  refine range_loop (stRx p) p.length _ (fun i hi => ?_) ?_
  ·have hws := wrapS hi (by omega)
   have hg : (fzs p)[i]? = some (fz (p[i]'hi)) := fzs_get (List.getElem?_eq_getElem hi)
   obtain ⟨hil, hgE⟩ := List.getElem?_eq_some_iff.1 hg
   have hil' : (i : Int) < (fzs p).length := by omega
   have zx := hp _ (List.getElem_mem hi)
   have ca := ref09_absQ (T := T) (p[i]'hi) (by omega)
   have zn : sz (normR (p.take i)) ≤ 900 := normR_sz (by decide) _ 0 (by rw [sz_zero]; decide) fun x hx => hp x (List.mem_of_mem_take hx)
   have za : sz (absQ (p[i]'hi)) ≤ 900 := by rw [sz_abs]; exact zx
   have cm := ref09_cmpQ (T := T) (absQ (p[i]'hi)) (normR (p.take i)) (by omega) (by omega)
   have e : normR (p.take (i + 1)) = maxStep (normR (p.take i)) (p[i]'hi) := by
    unfold normR
    rw [foldl_take _ _ _ hi]
   unfold stRx
   rw [e]
   clear e zn za hp
   unfold maxStep
   by_cases h : normR (p.take i) < absQ (p[i]'hi)
   ·have hq : 0 < sgQ (absQ (p[i]'hi) - normR (p.take i)) := sgQ_pos.2 (by grind)
    rw [if_pos h]
    clear h
    generalize sgQ (absQ (p[i]'hi) - normR (p.take i)) = Q at *
    generalize fz (normR (p.take i)) = N at *
    generalize fz (absQ (p[i]'hi)) = A at *
    generalize fz (p[i]'hi) = X at *
    generalize fzs p = PP at *
    simp -implicitDefEqProofs [l283_0, hil, hil', hg, hgE, hws, ca, cm, hq]
   ·have hq : ¬ 0 < sgQ (absQ (p[i]'hi) - normR (p.take i)) := fun e => h (by have := sgQ_pos.1 e; grind)
    rw [if_neg h]
    clear h
    generalize sgQ (absQ (p[i]'hi) - normR (p.take i)) = Q at *
    generalize fz (normR (p.take i)) = N at *
    generalize fz (absQ (p[i]'hi)) = A at *
    generalize fz (p[i]'hi) = X at *
    generalize fzs p = PP at *
    simp -implicitDefEqProofs [l283_0, hil, hil', hg, hgE, hws, ca, cm, hq]
  ·have e : p.take p.length = p := List.take_length
   have hlp : (p.length : Int) = (fzs p).length := by rw [fzs_length]
   unfold stRx
   rw [e, hlp]
   clear hp
   generalize fz (normR p) = N at *
   generalize fzs p = PP at *
   constructor <;> simp -implicitDefEqProofs [l283_0]
 unfold stRx at hloop
 have e0 : normR (p.take 0) = 0 := rfl
 rw [e0] at hloop
 simp only [Int.natCast_zero] at hloop
 rw [f283 _ rfl, b283]
 clear hp
 generalize fz (normR p) = R at *
 generalize fz 0 = Z at *
 generalize fzs p = PP at *
 simp -implicitDefEqProofs [c0, hloop]
end
end Go.Ab
end

section
namespace Go.Ab
def splitC (c : UInt8) : List UInt8 → List (List UInt8)
 | [] => [[]]
 | b :: l => if b = c then [] :: splitC c l else match splitC c l with
  | [] => [[b]]
  | p :: r => (b :: p) :: r
theorem splitC_cases (c : UInt8) : ∀ l : List UInt8, (l.count c = 0 ∧ Lib.indexByte l c = -1 ∧ splitC c l = [l]) ∨
  ∃ m : Nat, m < l.length ∧ Lib.indexByte l c = m ∧ splitC c l = l.take m :: splitC c (l.drop (m + 1))
 | [] => .inl ⟨rfl, rfl, rfl⟩
 | b :: l => by
  by_cases h : b = c
  ·right
   subst h
   refine ⟨0, by simp, ?_, ?_⟩
   ·simp [Lib.indexByte]
   ·simp [splitC]
  ·have hb : (b == c) = false := by simpa using h
   rcases splitC_cases c l with ⟨h1, h2, h3⟩ | ⟨m, h1, h2, h3⟩
   ·left
    refine ⟨by rw [List.count_cons_of_ne h, h1], by simp [Lib.indexByte, hb, h2], by simp [splitC, h, h3]⟩
   ·right
    have hm : ((m : Int) == -1) = false := by simp
    refine ⟨m + 1, by simpa using h1, by simp [Lib.indexByte, hb, h2, hm], by simp [splitC, h, h3]⟩
theorem splitC_len (c : UInt8) : ∀ l : List UInt8, (splitC c l).length = l.count c + 1
 | [] => rfl
 | b :: l => by
  have ih := splitC_len c l
  by_cases h : b = c
  ·subst h
   simp [splitC, ih]
  ·rw [List.count_cons_of_ne h, ← ih]
   cases hs : splitC c l with
   | nil => rw [hs] at ih; simp at ih
   | cons p r => simp [splitC, h, hs]
theorem p194_eq {T : Tbl} [CStr T] (s : List UInt8) (c : UInt8) : callF T 194 [.s s, .s [c]] = some (.i .i64 (Lib.indexByte s c)) := by rw [p194]; rfl
theorem p361_eq {T : Tbl} [CStr T] (s : List UInt8) (c : UInt8) : callF T 361 [.s s, .s [c]] = some (.i .i64 ((s.count c : Nat) : Int)) := by rw [p361]; rfl
section
variable {T : Tbl} [CStr T] [CSplit T]
theorem str_index (s : List UInt8) (c : UInt8) : callF T 362 [.s s, .s [c]] = some (.i .i64 (Lib.indexByte s c)) := by
 have h := p194_eq (T := T) s c
 rw [f362 _ rfl, b362]
 simp -implicitDefEqProofs [h]
def stSp (c : UInt8) (N : Nat) (ps : List (List UInt8)) (s : List UInt8) : St :=
 ⟨[(0, .s s), (1, .s [c]), (2, .i .i64 0), (3, .i .i64 ((N : Int) - 1)), (9, .bs (.loc 31) 1 1 0 N), (10, .i .i64 ps.length)], [(.loc 31, ⟨1, .own, 1, rowsT ps ++ List.replicate (N - ps.length) [.s []]⟩)], 3⟩
theorem split_loop (c : UInt8) (all : List (List UInt8)) (hN : all.length ≤ 1000001) : ∀ y : List (List UInt8) × List UInt8, (y.1 ++ splitC c y.2 = all ∧ y.2.length ≤ 1000000) →
  loopN T 0 0 (.norm false [0, 9, 10]) l354_0 (stSp c all.length y.1 y.2) = some (.n, ⟨[(0, .s (all.getLastD [])), (9, .bs (.loc 31) 1 1 0 all.length), (10, .i .i64 ((all.length : Int) - 1))], [(.loc 31, ⟨1, .own, 1, rowsT all.dropLast ++ [[.s []]]⟩)], 3⟩) := by
 refine loopN_eq (fun y : List (List UInt8) × List UInt8 => stSp c all.length y.1 y.2) (fun y => y.1 ++ splitC c y.2 = all ∧ y.2.length ≤ 1000000) (fun y => y.2.length) (fun _ => _) ?_
 rintro ⟨ps, s⟩ ⟨hall, hs⟩
 simp only at hall hs
 have hi := str_index (T := T) s c
 have hlen := congrArg List.length hall
 rw [List.length_append, splitC_len] at hlen
 unfold stSp
 rcases splitC_cases c s with ⟨h1, h2, h3⟩ | ⟨m, h1, h2, h3⟩
 ·right
  rw [h3] at hall
  have e1 : all.getLastD [] = s := by rw [← hall]; simp
  have e2 : all.dropLast = ps := by rw [← hall]; simp
  have e3 : all.length - ps.length = 1 := by omega
  have e4 : ¬ (ps.length : Int) < (all.length : Int) - 1 := by omega
  have e5 : (ps.length : Int) = (all.length : Int) - 1 := by omega
  rw [e1, e2, e3, e5]
  have e6 : List.replicate 1 [AV.s []] = [[AV.s []]] := rfl
  rw [e6]
  have hw : wkL (rowsT ps ++ [[AV.s []]]) = rowsT ps ++ [[AV.s []]] := by
   rw [wkL_map, List.map_append, ← wkL_map, rowsT_wk]
   rfl
  have hl2 : (rowsT ps ++ [[AV.s []]]).length = all.length := by simp; omega
  clear hall e1 e2 h3
  generalize rowsT ps ++ [[AV.s []]] = B at *
  constructor <;> simp -implicitDefEqProofs [l354_0, hw, hl2]
 ·left
  rw [h2] at hi
  have hpos : 0 < (splitC c (s.drop (m + 1))).length := by rw [splitC_len]; omega
  have hlen2 := congrArg List.length hall
  rw [h3, List.length_append, List.length_cons] at hlen2
  refine ⟨(ps ++ [s.take m], s.drop (m + 1)), ⟨by rw [← hall, h3]; simp, by simp; omega⟩, by simp; omega, ?_, rfl⟩
  have q1 : (ps.length : Int) < (all.length : Int) - 1 := by omega
  have q2 : ¬ (m : Int) < 0 := by omega
  have q3 : IntKind.wrap .i64 ((m : Int) + 0) = m := by rw [Int.add_zero]; exact wrap_i64 _ (by omega)
  have q3' : IntKind.wrap .i64 (m : Int) = m := wrap_i64 _ (by omega)
  have q4 : IntKind.wrap .i64 ((m : Int) + 1) = ((m + 1 : Nat) : Int) := wrap_i64 _ (by omega)
  have q5 : IntKind.wrap .i64 ((ps.length : Int) + 1) = ((ps.length + 1 : Nat) : Int) := wrap_i64 _ (by omega)
  have q6 : (m : Int) ≤ s.length := by omega
  have q7 : ((m + 1 : Nat) : Int) ≤ s.length := by omega
  have q7' : m + 1 ≤ s.length := by omega
  have q8 : (m : Int) + 1 ≤ s.length := by omega
  have e : (rowsT ps ++ List.replicate (all.length - ps.length) [AV.s []]).set ps.length [AV.s (s.take m)] = rowsT (ps ++ [s.take m]) ++ List.replicate (all.length - (ps.length + 1)) [AV.s []] := by
   rw [List.set_append_right _ _ (by simp), rowsT_length, Nat.sub_self, show all.length - ps.length = (all.length - (ps.length + 1)) + 1 by omega, List.replicate_succ (n := all.length - (ps.length + 1)), List.set_cons_zero,
    show rowsT (ps ++ [s.take m]) = rowsT ps ++ [[AV.s (s.take m)]] by simp [rowsT], List.append_assoc]
   rfl
  have hl : (rowsT ps ++ List.replicate (all.length - ps.length) [AV.s []]).length = all.length := by simp; omega
  have hk : wkL ((rowsT ps ++ List.replicate (all.length - ps.length) [AV.s []]).set ps.length [AV.s (s.take m)]) = (rowsT ps ++ List.replicate (all.length - ps.length) [AV.s []]).set ps.length [AV.s (s.take m)] := by
   rw [e, wkL_map, List.map_append, ← wkL_map, rowsT_wk]
   simp [wkR, wkA]
  have hg : (rowsT ps ++ List.replicate (all.length - ps.length) [AV.s []])[ps.length]? = some [AV.s []] := by
   rw [List.getElem?_append_right (by simp), rowsT_length, Nat.sub_self, List.getElem?_replicate, if_pos (by omega)]
  simp only [List.length_append, List.length_cons, List.length_nil]
  rw [← e]
  have hnl : ps.length < all.length := by omega
  have hnl' : (ps.length : Int) < all.length := by omega
  clear e hall h3 hpos hlen hlen2
  generalize rowsT ps ++ List.replicate (all.length - ps.length) [AV.s []] = B at *
  obtain ⟨hb, hgE⟩ := List.getElem?_eq_some_iff.1 hg
  simp -implicitDefEqProofs [l354_0, hi, q1, q2, q3, q3', q4, q5, q6, q7, q7', q8, hl, hk, hg, hgE, hnl, hnl', h1]
theorem str_split (s : List UInt8) (c : UInt8) (hs : s.length ≤ 1000000) : callF T 346 [.s s, .s [c]] = some (.sl (rowsT (splitC c s)) .an) := by
 have hc := p361_eq (T := T) s c
 have hcl : s.count c ≤ s.length := List.count_le_length
 have hlen := splitC_len c s
 have h := split_loop (T := T) c (splitC c s) (by omega) ([], s) ⟨by simp, hs⟩
 unfold stSp at h
 simp only [List.length_nil, Nat.sub_zero, Int.natCast_zero] at h
 have e0 : rowsT [] = [] := rfl
 rw [e0, List.nil_append, hlen] at h
 have w1 : IntKind.wrap .i64 ((s.count c : Int) + 1) = ((s.count c + 1 : Nat) : Int) := wrap_i64 _ (by omega)
 have w2 : IntKind.wrap .i64 ((s.length : Int) + 1) = ((s.length + 1 : Nat) : Int) := wrap_i64 _ (by omega)
 have w3 : IntKind.wrap .i64 (((s.count c + 1 : Nat) : Int) - 1) = ((s.count c + 1 : Nat) : Int) - 1 := wrap_i64 _ (by omega)
 have w4 : IntKind.wrap .i64 (((s.count c + 1 : Nat) : Int) - 1 + 1) = ((s.count c + 1 : Nat) : Int) := by
  rw [Int.sub_add_cancel]
  exact wrap_i64 _ (by omega)
 have mm : min ((s.count c + 1 : Nat) : Int) ((s.length + 1 : Nat) : Int) = ((s.count c + 1 : Nat) : Int) := by omega
 have hz : wkL (List.replicate (s.count c + 1) [AV.s []]) = List.replicate (s.count c + 1) [AV.s []] := by rw [wkL_map, List.map_replicate]; rfl
 obtain ⟨L, hL⟩ : ∃ L, L = splitC c s := ⟨_, rfl⟩
 rw [← hL] at h ⊢ hlen
 have hne : L ≠ [] := by intro e; rw [e] at hlen; simp at hlen
 have hset : (rowsT L.dropLast ++ [[AV.s []]]).set (s.count c) [AV.s (L.getLastD [])] = rowsT L := by
  have h1 : L.dropLast.length = s.count c := by rw [List.length_dropLast]; omega
  rw [List.set_append_right _ _ (by simp; omega), rowsT_length, h1, Nat.sub_self, List.set_cons_zero]
  have h2 : L = L.dropLast ++ [L.getLastD []] := by
   rw [List.getLastD_eq_getLast?, List.getLast?_eq_some_getLast hne, Option.getD_some, List.dropLast_concat_getLast]
  conv => rhs; rw [h2]
  simp [rowsT]
 have hl2 : (rowsT L.dropLast ++ [[AV.s []]]).length = s.count c + 1 := by simp [List.length_dropLast]; omega
 have hg : (rowsT L.dropLast ++ [[AV.s []]])[s.count c]? = some [AV.s []] := by
  rw [List.getElem?_append_right (by simp [List.length_dropLast]; omega)]
  simp [List.length_dropLast, hlen]
 have hr : (rowsT L).length = s.count c + 1 := by simp [hlen]
 have n1 : ¬ ((s.count c : Int) + 1 < 0) := by omega
 have n2 : (s.count c : Int) + 1 ≤ 4294967296 := by omega
 have hwR : wkL (rowsT L) = rowsT L := rowsT_wk L
 generalize s.count c = k at *
 generalize rowsT L.dropLast ++ [[AV.s []]] = B at *
 obtain ⟨hb, hgE⟩ := List.getElem?_eq_some_iff.1 hg
 generalize L.getLastD [] = last at *
 generalize rowsT L = R at *
 clear hL hne
 have hk : (((k + 1 : Nat) : Int) - 1) = k := by omega
 rw [hk] at h w3 w4
 have tk : List.take (k + 1) R = R := List.take_of_length_le (by omega)
 have hnlt : ¬ s.length < k := by omega
 have nn : (0 : Int) ≤ (k : Int) + 1 := by omega
 have nt : ((k : Int) + 1).toNat = k + 1 := by omega
 have nk : (k : Int) < (k : Int) + 1 := by omega
 have nle : (k : Int) + 1 ≤ (R.length : Int) := by omega
 have nle2 : (k : Int) ≤ (B.length : Int) := by omega
 have hg354 : callF T 354 [.s s, .s [c], .i .i64 0, .i .i64 (-1)] = some (.sl R .an) := by
  rw [f354 _ rfl, b354]
  simp -implicitDefEqProofs [hc, w1, w2, w3, w4, mm, hz, h, hset, hl2, hg, hgE, hr, n1, n2, tk, hnlt, nn, nt, nk, nle, nle2, hwR, hr]
 rw [f346 _ rfl, b346]
 simp -implicitDefEqProofs [hg354, hwR]
end
end Go.Ab
end

section
namespace Go.Ab
abbrev flt (k a : Int) : AV := .agg [.i .i64 k, .i .i64 0, .i .i64 0, .i .i64 a]
def isCut (c : UInt8) : Bool := c == 47 || c == 46
def cutN : List UInt8 → Nat
 | [] => 0
 | c :: r => if isCut c then 0 else cutN r + 1
theorem cutN_le : ∀ s, cutN s ≤ s.length
 | [] => Nat.le_refl _
 | c :: r => by
  have := cutN_le r
  simp only [cutN]
  split
  ·omega
  ·simp only [List.length_cons]; omega
theorem cutN_any : ∀ s : List UInt8, Lib.indexAny s [47, 46] = if cutN s < s.length then (cutN s : Int) else -1
 | [] => rfl
 | c :: r => by
  have ih := cutN_any r
  have hc : ([47, 46] : List UInt8).contains c = isCut c := by
   rw [Bool.eq_iff_iff]
   simp only [List.contains_iff_mem, List.mem_cons, List.not_mem_nil, or_false, isCut, Bool.or_eq_true, beq_iff_eq]
  have hle := cutN_le r
  simp only [Lib.indexAny, hc, cutN]
  by_cases hcut : isCut c = true
  ·simp [hcut]
  ·simp only [hcut, if_false, List.length_cons, Nat.add_lt_add_iff_right, Bool.false_eq_true]
   rw [ih]
   by_cases h : cutN r < r.length
   ·have e : ((cutN r : Int) == -1) = false := by simp
    simp [h, e]
   ·simp [h]
theorem cutN_get : ∀ (s : List UInt8), cutN s < s.length → ∃ c, s[cutN s]? = some c ∧ (c = 47 ∨ c = 46)
 | [], h => by simp at h
 | c :: r, h => by
  simp only [cutN] at h ⊢
  cases hc : isCut c with
  | true =>
   refine ⟨c, by simp, ?_⟩
   simpa [isCut] using hc
  | false =>
   rw [hc] at h
   simp only [Bool.false_eq_true, if_false, List.length_cons, Nat.add_lt_add_iff_right] at h ⊢
   obtain ⟨d, h1, h2⟩ := cutN_get r h
   exact ⟨d, by simpa using h1, h2⟩
theorem rd_len {l : List UInt8} (h0 : ¬ 0 ≤ wrongI l) : l.length ≤ 60 ∧ (ofN (rd l)).length ≤ 60 := by
 have h1 : wrAt 0 l < 0 := by
  unfold wrongI at h0
  split at h0
  ·omega
  ·omega
 obtain ⟨h2, h3⟩ := wrAt_neg 0 l (Nat.zero_le _) h1
 refine ⟨by omega, ofN_length_le' (k := 60) ?_⟩
 have h4 := rd_lt h3
 have h5 : 10 ^ l.length ≤ 10 ^ 60 := Nat.pow_le_pow_right (by decide) (by omega)
 exact Nat.lt_of_lt_of_le h4 (Nat.le_trans h5 (by decide))
def figB (z : Int) (neg : Bool) (s : List UInt8) (c : UInt8) (at_ : Nat) : Rat × Int × Int :=
 let rest := s.drop at_
 if 0 ≤ wrongI rest then (0, 1, wrongI rest + at_)
 else if c = 47 then (if rd rest = 0 then (0, 2, at_) else (mkRat z (rd rest), 0, 0))
 else (mkRat (sg neg (z.natAbs * 10 ^ rest.length + rd rest)) (10 ^ rest.length), 0, 0)
def figR (s : List UInt8) : Rat × Int × Int :=
 let first := s.take (cutN s)
 if 0 ≤ wrongZ first then (0, 1, wrongZ first + minus first)
 else if cutN s < s.length then figB (readZ first) (s.head? = some 45) s (s.getD (cutN s) 0) (cutN s + 1)
 else (mkRat (readZ first) 1, 0, 0)
theorem ten_len {n : Nat} (h : n ≤ 60) : (ofN (10 ^ n)).length ≤ 60 := by
 refine ofN_length_le' (k := 60) ?_
 have h5 : 10 ^ n ≤ 10 ^ 60 := Nat.pow_le_pow_right (by decide) h
 exact Nat.lt_of_le_of_lt h5 (by decide)
theorem wrongZ_ge (l : List UInt8) : -1 ≤ wrongZ l ∧ wrongZ l ≤ 60 ∧ 0 ≤ minus l ∧ minus l ≤ 1 := by
 have key : ∀ l', -1 ≤ wrongI l' ∧ wrongI l' ≤ 60 := by
  intro l'
  unfold wrongI
  split
  ·omega
  ·exact ⟨wrAt_ge 0 l', wrAt_le 0 l' (by decide)⟩
 unfold wrongZ minus
 refine ⟨(key _).1, (key _).2, ?_, ?_⟩ <;> split <;> omega
section
variable {T : Tbl} [CNat T] [CProd T] [CTwos T] [CQuot T] [CQuotD T] [CDigits T] [CWhole T] [CCommon T] [CFrac T] [CFrac2 T] [CStr T] [CSplit T] [CFig T]
theorem frac_new (n : Bool) (a d : List UInt32) (ha : a.length ≤ 10000) (hd : d.length ≤ 10000) :
  callF T 204 [wh n a, .sl (u32s d) .an] = some (.tup (if val d = 0 then [efz (fz 0), .b false] else [efz (fz (mkRat (wv n a) (val d))), .b true])) := by
 have c0 := frac_of0 (T := T)
 have c1 := nat_zero (T := T) d (by omega)
 rw [f204 _ rfl, b204]
 by_cases h : val d = 0
 ·rw [if_pos h]
  rw [decide_eq_true h] at c1
  generalize fz 0 = Z at *
  simp -implicitDefEqProofs [c0, c1]
 ·rw [if_neg h]
  rw [decide_eq_false h] at c1
  have c2 := frac_cancel (T := T) n a d ha hd h
  generalize fz (mkRat (wv n a) (val d)) = R at *
  simp -implicitDefEqProofs [c1, c2]
theorem str_prefix (l : List UInt8) : callF T 345 [.s l, .s [45]] = some (.b (l.head? = some 45)) := by
 have h1 : callF T 123 [.s l, .s [45]] = some (.b (l.head? = some 45)) := by
  rw [f123 _ rfl, b123]
  cases l with
  | nil => simp -implicitDefEqProofs
  | cons c r =>
   have h2 : (1 : Int) ≤ (r.length : Int) + 1 := by omega
   by_cases hc : c = 45 <;> simp -implicitDefEqProofs [h2, hc]
 rw [f345 _ rfl, b345]
 simp -implicitDefEqProofs [h1]
theorem fig_behind (s : List UInt8) (k : Nat) (hk : k ≤ s.length) (hs : s.length ≤ 1000000) : callF T 253 [.s s, .i .i64 k] =
  some (.tup (if 0 ≤ wrongI (s.drop k) then [.sl [] .an, flt 1 (wrongI (s.drop k) + k)] else [.sl (u32s (ofN (rd (s.drop k)))) .an, flt 0 0])) := by
 have h1 := digits_read (T := T) (s.drop k) (by rw [List.length_drop]; omega)
 have hk' : (k : Int) ≤ s.length := by omega
 rw [f253 _ rfl, b253]
 by_cases h0 : 0 ≤ wrongI (s.drop k)
 ·rw [if_pos h0] at h1 ⊢
  have hw : wrongI (s.drop k) ≤ 60 := by
   unfold wrongI
   split
   ·omega
   ·exact wrAt_le 0 _ (by decide)
  have w1 : IntKind.wrap .i64 (wrongI (s.drop k) + (k : Int)) = wrongI (s.drop k) + (k : Int) := wrap_i64 _ (by omega)
  generalize wrongI (s.drop k) = W at *
  simp -implicitDefEqProofs [hk, hk', h1, w1]
 ·rw [if_neg h0] at h1 ⊢
  generalize ofN (rd (s.drop k)) = R at *
  simp -implicitDefEqProofs [hk, hk', h1]
theorem fig_over (n : Bool) (a : List UInt32) (s : List UInt8) (k : Nat) (ha : a.length ≤ 10000) (hk : k ≤ s.length) (hs : s.length ≤ 1000000) : callF T 254 [wh n a, .s s, .i .i64 k] =
  some (.tup (if 0 ≤ wrongI (s.drop k) then [efz (fz 0), flt 1 (wrongI (s.drop k) + k)] else if rd (s.drop k) = 0 then [efz (fz 0), flt 2 k] else [efz (fz (mkRat (wv n a) (rd (s.drop k)))), flt 0 0])) := by
 have h1 := fig_behind (T := T) s k hk hs
 have c0 := frac_of0 (T := T)
 rw [f254 _ rfl, b254]
 by_cases h0 : 0 ≤ wrongI (s.drop k)
 ·rw [if_pos h0] at h1 ⊢
  generalize fz 0 = Z at *
  generalize wrongI (s.drop k) + (k : Int) = W at *
  simp -implicitDefEqProofs [h1, c0]
 ·rw [if_neg h0] at h1 ⊢
  have hl := (rd_len h0).2
  have h2 := frac_new (T := T) n a (ofN (rd (s.drop k))) ha (by omega)
  rw [val_ofN] at h2
  by_cases hz : rd (s.drop k) = 0
  ·rw [if_pos hz] at h2 ⊢
   clear hl h0
   generalize fz 0 = Z at *
   generalize ofN (rd (s.drop k)) = R at *
   simp -implicitDefEqProofs [h1, h2]
  ·rw [if_neg hz] at h2 ⊢
   clear hl h0
   generalize fz (mkRat (wv n a) (rd (s.drop k))) = Z at *
   generalize ofN (rd (s.drop k)) = R at *
   simp -implicitDefEqProofs [h1, h2]
theorem fig_places (ht : ∀ n : Nat, n ≤ 60 → callF T 252 [.i .i64 n] = some (.sl (u32s (ofN (10 ^ n))) .an)) (n neg : Bool) (a : List UInt32) (s : List UInt8) (k : Nat) (ha : a.length ≤ 1000) (hk : k ≤ s.length) (hs : s.length ≤ 1000000) :
  callF T 255 [wh n a, .b neg, .s s, .i .i64 k] =
  some (.tup (if 0 ≤ wrongI (s.drop k) then [efz (fz 0), flt 1 (wrongI (s.drop k) + k)] else [efz (fz (mkRat (sg neg (val a * 10 ^ (s.drop k).length + rd (s.drop k))) (10 ^ (s.drop k).length))), flt 0 0])) := by
 have h1 := fig_behind (T := T) s k hk hs
 have c0 := frac_of0 (T := T)
 rw [f255 _ rfl, b255]
 by_cases h0 : 0 ≤ wrongI (s.drop k)
 ·rw [if_pos h0] at h1 ⊢
  generalize fz 0 = Z at *
  generalize wrongI (s.drop k) + (k : Int) = W at *
  simp -implicitDefEqProofs [h1, c0]
 ·rw [if_neg h0] at h1 ⊢
  obtain ⟨hl60, hl⟩ := rd_len h0
  have h2 := ht (s.drop k).length hl60
  have ht60 := ten_len hl60
  have h3 := prod_mul (T := T) a (ofN (10 ^ (s.drop k).length)) (by omega) (by omega)
  rw [val_ofN] at h3
  have hm : (ofN (val a * 10 ^ (s.drop k).length)).length ≤ 1060 := by
   have e1 := ofN_length_le a
   have e2 := nat_mul_len (x := val a) (y := 10 ^ (s.drop k).length) (L := 1000) (M := 60) (by omega) ht60
   omega
  have h4 := nat_add (T := T) [ofN (val a * 10 ^ (s.drop k).length), ofN (rd (s.drop k))] (by simp) (by
   intro x hx
   simp only [List.mem_cons, List.not_mem_nil, or_false] at hx
   rcases hx with rfl | rfl <;> omega)
  have e1 : lls [ofN (val a * 10 ^ (s.drop k).length), ofN (rd (s.drop k))] = [[.sl (u32s (ofN (val a * 10 ^ (s.drop k).length))) .an], [.sl (u32s (ofN (rd (s.drop k)))) .an]] := rfl
  have e2 : sumL [ofN (val a * 10 ^ (s.drop k).length), ofN (rd (s.drop k))] = val a * 10 ^ (s.drop k).length + rd (s.drop k) := by simp [sumL, val_ofN]
  rw [e1, e2] at h4
  have hsum : (ofN (val a * 10 ^ (s.drop k).length + rd (s.drop k))).length ≤ 10000 := by
   have e3 := abs_add_len (x := ((val a * 10 ^ (s.drop k).length : Nat) : Int)) (y := ((rd (s.drop k) : Nat) : Int)) (L := 1060) (by rw [Int.natAbs_natCast]; exact hm) (by rw [Int.natAbs_natCast]; omega)
   rw [← Int.natCast_add, Int.natAbs_natCast] at e3
   omega
  have h5 := frac_new (T := T) neg (ofN (val a * 10 ^ (s.drop k).length + rd (s.drop k))) (ofN (10 ^ (s.drop k).length)) hsum (by omega)
  have hne : ¬ 10 ^ (s.drop k).length = 0 := Nat.ne_of_gt (Nat.pow_pos (by decide))
  rw [val_ofN, if_neg hne] at h5
  unfold wv at h5
  rw [val_ofN] at h5
  have hd : (s.drop k).length = s.length - k := List.length_drop
  have w1 : IntKind.wrap .i64 ((s.length : Int) - (k : Int)) = (((s.drop k).length : Nat) : Int) := by
   rw [hd]
   have : ((s.length - k : Nat) : Int) = (s.length : Int) - k := by omega
   rw [this]
   exact wrap_i64 _ (by omega)
  clear hl hl60 ht60 hm e1 e2 hsum hne h0 hd ht
  generalize 10 ^ (s.drop k).length = TN at *
  generalize (s.drop k).length = dl at *
  generalize fz (mkRat (sg neg (val a * TN + rd (s.drop k))) TN) = R at *
  generalize ofN (val a * TN + rd (s.drop k)) = R1 at *
  generalize ofN (val a * TN) = R2 at *
  generalize ofN (rd (s.drop k)) = R3 at *
  generalize ofN TN = R4 at *
  simp -implicitDefEqProofs [h1, h2, h3, h4, h5, w1]
theorem fig_read (ht : ∀ n : Nat, n ≤ 60 → callF T 252 [.i .i64 n] = some (.sl (u32s (ofN (10 ^ n))) .an)) (s : List UInt8) (hs : s.length ≤ 100000) :
  callF T 256 [.s s] = some (.tup [efz (fz (figR s).1), flt (figR s).2.1 (figR s).2.2]) := by
 have hi : callF T 344 [.s s, .s [47, 46]] = some (.i .i64 (if cutN s < s.length then (cutN s : Int) else -1)) := by
  rw [p344, ← cutN_any]
  simp only [prim344]
  rw [if_pos (by omega)]
 have hr := whole_read (T := T) (s.take (cutN s)) (by rw [List.length_take]; omega)
 have hle := cutN_le s
 have c0 := frac_of0 (T := T)
 rw [f256 _ rfl, b256]
 by_cases hc : cutN s < s.length
 ·rw [if_pos hc] at hi
  have q1 : (0 : Int) ≤ (cutN s : Int) := by omega
  have q2 : (cutN s : Int) ≤ s.length := by omega
  have q3 : ¬ (cutN s : Int) < 0 := by omega
  by_cases h0 : 0 ≤ wrongZ (s.take (cutN s))
  ·have eR : figR s = (0, 1, wrongZ (s.take (cutN s)) + minus (s.take (cutN s))) := by simp only [figR, if_pos h0]
   rw [eR]
   rw [if_pos h0] at hr
   clear eR
   simp only
   generalize fz 0 = Z at *
   generalize wrongZ (s.take (cutN s)) + minus (s.take (cutN s)) = W at *
   simp -implicitDefEqProofs [hi, hr, c0, q1, q2, q3, hle]
  ·rw [if_neg h0] at hr
   have hrl := read_len h0
   obtain ⟨c, hg, hcc⟩ := cutN_get s hc
   obtain ⟨_, hgE⟩ := List.getElem?_eq_some_iff.1 hg
   have hd : s.getD (cutN s) 0 = c := by rw [List.getD_eq_getElem?_getD, hg]; rfl
   have eR : figR s = figB (readZ (s.take (cutN s))) (decide (s.head? = some 45)) s c (cutN s + 1) := by simp only [figR, if_neg h0, if_pos hc, hd]
   rw [eR]
   have w1 : IntKind.wrap .i64 ((cutN s : Int) + 1) = ((cutN s + 1 : Nat) : Int) := wrap_i64 _ (by omega)
   have q4 : (cutN s : Int) < s.length := by omega
   have px := str_prefix (T := T) s
   rcases hcc with rfl | rfl
   ·have ho := fig_over (T := T) (decide (readZ (s.take (cutN s)) < 0)) (ofN (readZ (s.take (cutN s))).natAbs) s (cutN s + 1) (by omega) (by omega) (by omega)
    rw [wv_ez] at ho
    have ho2 : callF T 254 [ez (readZ (s.take (cutN s))), .s s, .i .i64 ((cutN s + 1 : Nat) : Int)] = some (.tup [efz (fz (figB (readZ (s.take (cutN s))) (decide (s.head? = some 45)) s 47 (cutN s + 1)).1),
      flt (figB (readZ (s.take (cutN s))) (decide (s.head? = some 45)) s 47 (cutN s + 1)).2.1 (figB (readZ (s.take (cutN s))) (decide (s.head? = some 45)) s 47 (cutN s + 1)).2.2]) := by
     rw [ho]
     simp only [figB, if_true]
     split
     ·rfl
     ·split <;> rfl
    clear ho eR hd
    generalize figB (readZ (s.take (cutN s))) (decide (s.head? = some 45)) s 47 (cutN s + 1) = R at *
    generalize fz R.1 = Z at *
    have ec : ((cutN s + 1 : Nat) : Int) = (cutN s : Int) + 1 := by omega
    rw [ec] at ho2 w1
    clear hrl h0 c0 ht
    generalize readZ (s.take (cutN s)) = RZ at *
    simp -implicitDefEqProofs [hi, hr, q1, q2, q3, q4, hle, hc, hg, hgE, w1, ho2]
   ·have ho := fig_places (T := T) ht (decide (readZ (s.take (cutN s)) < 0)) (decide (s.head? = some 45)) (ofN (readZ (s.take (cutN s))).natAbs) s (cutN s + 1) (by omega) (by omega) (by omega)
    rw [val_ofN] at ho
    have ho2 : callF T 255 [ez (readZ (s.take (cutN s))), .b (decide (s.head? = some 45)), .s s, .i .i64 ((cutN s + 1 : Nat) : Int)] = some (.tup [efz (fz (figB (readZ (s.take (cutN s))) (decide (s.head? = some 45)) s 46 (cutN s + 1)).1),
      flt (figB (readZ (s.take (cutN s))) (decide (s.head? = some 45)) s 46 (cutN s + 1)).2.1 (figB (readZ (s.take (cutN s))) (decide (s.head? = some 45)) s 46 (cutN s + 1)).2.2]) := by
     rw [ho]
     simp only [figB, show ¬ ((46 : UInt8) = 47) by decide, if_false]
     split <;> rfl
    clear ho eR hd
    generalize figB (readZ (s.take (cutN s))) (decide (s.head? = some 45)) s 46 (cutN s + 1) = R at *
    generalize fz R.1 = Z at *
    have ec : ((cutN s + 1 : Nat) : Int) = (cutN s : Int) + 1 := by omega
    rw [ec] at ho2 w1
    clear hrl h0 c0 ht
    generalize readZ (s.take (cutN s)) = RZ at *
    generalize decide (s.head? = some 45) = hd45 at *
    simp -implicitDefEqProofs [hi, hr, q1, q2, q3, q4, hle, hc, hg, hgE, w1, px, ho2]
 ·rw [if_neg hc] at hi
  have hcl : cutN s = s.length := by omega
  have htk : s.take (cutN s) = s := by rw [hcl]; exact List.take_length
  rw [htk] at hr
  by_cases h0 : 0 ≤ wrongZ s
  ·have eR : figR s = (0, 1, wrongZ s + minus s) := by simp only [figR, htk, if_pos h0]
   rw [eR]
   rw [if_pos h0] at hr
   clear eR
   simp only
   generalize fz 0 = Z at *
   generalize wrongZ s + minus s = W at *
   simp -implicitDefEqProofs [hi, hr, c0]
  ·have eR : figR s = (mkRat (readZ s) 1, 0, 0) := by simp only [figR, htk, if_neg h0, if_neg hc]
   rw [eR]
   rw [if_neg h0] at hr
   have hrl := read_len h0
   have h1 := nat_of (T := T) 1 (by decide)
   have h2 := frac_new (T := T) (decide (readZ s < 0)) (ofN (readZ s).natAbs) (ofN 1) (by omega) (by rw [ofN_one]; decide)
   rw [val_ofN, if_neg (by decide), wv_ez] at h2
   clear hrl h0 c0 ht eR
   simp only
   generalize fz (mkRat (readZ s) 1) = Z at *
   generalize readZ s = RZ at *
   generalize ofN 1 = O at *
   simp -implicitDefEqProofs [hi, hr, h1, h2]
end
end Go.Ab
end

section
namespace Go.Ab
def readL : List (List UInt8) → Nat → List Rat → List Rat × Int × Int
 | [], _, acc => (acc, 0, 0)
 | w :: ws, k, acc => if (figR w).2.1 = 0 then readL ws (k + w.length + 1) (acc ++ [(figR w).1]) else ([], (figR w).2.1, (figR w).2.2 + k)
def rowR (s : List UInt8) : List Rat × Int × Int := if s = [] then ([], 0, 0) else readL (splitC 44 s) 0 []
theorem figR_fault (w : List UInt8) : ((figR w).2.1 = 0 ∧ (figR w).2.2 = 0) ∨ (((figR w).2.1 = 1 ∨ (figR w).2.1 = 2) ∧ 0 ≤ (figR w).2.2 ∧ (figR w).2.2 ≤ w.length + 62) := by
 have hle := cutN_le w
 obtain ⟨z1, z2, z3, z4⟩ := wrongZ_ge (w.take (cutN w))
 unfold figR
 simp only
 split
 ·next h => refine .inr ⟨.inl rfl, ?_, ?_⟩ <;> simp only <;> omega
 ·split
  ·next h h2 =>
   unfold figB
   simp only
   split
   ·next h3 =>
    have : wrongI (w.drop (cutN w + 1)) ≤ 60 := by
     unfold wrongI
     split
     ·omega
     ·exact wrAt_le 0 _ (by decide)
    refine .inr ⟨.inl rfl, ?_, ?_⟩ <;> simp only <;> omega
   ·split
    ·split
     ·refine .inr ⟨.inr rfl, ?_, ?_⟩ <;> simp only <;> omega
     ·left; simp
    ·left; simp
  ·left; simp
section
variable {T : Tbl} [CLimb T] [CNat T] [CProd T] [CTwos T] [CQuot T] [CQuotD T] [CDigits T] [CText T] [CWhole T] [CCommon T] [CFrac T] [CFrac2 T] [CStr T] [CSplit T] [CPow T] [CFig T] [CJoin T] [CRow T] [CRow2 T]
theorem fig_tens (n : Nat) (hn : n ≤ 60) : callF T 252 [.i .i64 n] = some (.sl (u32s (ofN (10 ^ n))) .an) := by
 have c1 := nat_of (T := T) 10 (by decide)
 have hb : blen 10 = 4 := by decide +kernel
 have c2 := prod_pow (T := T) (ofN 10) n (by
  have := ofN_length_le' (n := 10) (k := 1) (by decide)
  omega) (by rw [val_ofN, hb]; decide) (by rw [val_ofN, hb]; omega)
 rw [val_ofN] at c2
 rw [f252 _ rfl, b252]
 generalize ofN (10 ^ n) = R at *
 generalize ofN 10 = N at *
 simp -implicitDefEqProofs [c1, c2]
theorem fig_readT (s : List UInt8) (hs : s.length ≤ 100000) : callF T 256 [.s s] = some (.tup [efz (fz (figR s).1), flt (figR s).2.1 (figR s).2.2]) :=
 fig_read (T := T) fig_tens s hs
def stRR (ws : List (List UInt8)) (y : Nat × Nat × List Rat) : St :=
 ⟨[(3, .ptr (.loc 3) 1 4 0 0), (4, .bs (.loc 4) 2 3 0 y.2.2.length), (5, .i .i64 y.2.1), (14, .sl (rowsT ws) .an), (15, .i .i64 ws.length), (16, .i .i64 y.1)],
  [(.loc 3, ⟨1, .str, 4, [[.i .i64 0, .i .i64 0, .i .i64 0, .i .i64 0]]⟩), (.loc 4, ⟨2, .own, 3, rowF (fzs y.2.2)⟩)], 4⟩
def resRR (r : List Rat × Int × Int) : Option (Ex × St) :=
 if r.2.1 = 0 then some (.n, ⟨[(3, .ptr (.loc 3) 1 4 0 0), (4, .bs (.loc 4) 2 3 0 r.1.length)], [(.loc 3, ⟨1, .str, 4, [[.i .i64 0, .i .i64 0, .i .i64 0, .i .i64 0]]⟩), (.loc 4, ⟨2, .own, 3, rowF (fzs r.1)⟩)], 4⟩)
 else some (.r, ⟨[(2, .sl [] .an), (3, .ptr (.loc 3) 1 4 0 0)], [(.loc 3, ⟨1, .str, 4, [[.i .i64 r.2.1, .i .i64 0, .i .i64 0, .i .i64 r.2.2]]⟩)], 3⟩)
theorem rr_loop (ws : List (List UInt8)) (hl : ws.length ≤ 1000000) (hw : ∀ w ∈ ws, w.length ≤ 100000) : ∀ y : Nat × Nat × List Rat, (y.1 ≤ ws.length ∧ y.2.1 ≤ y.1 * 100001 ∧ y.2.2.length = y.1) →
  loopN T 0 0 (.norm false [3, 4]) l275_0 (stRR ws y) = resRR (readL (ws.drop y.1) y.2.1 y.2.2) := by
 refine loopN_eq (stRR ws) (fun y => y.1 ≤ ws.length ∧ y.2.1 ≤ y.1 * 100001 ∧ y.2.2.length = y.1) (fun y => ws.length - y.1) (fun y => resRR (readL (ws.drop y.1) y.2.1 y.2.2)) ?_
 rintro ⟨i, k, acc⟩ ⟨hi, hk, ha⟩
 simp only at hi hk ha ⊢
 by_cases h0 : i < ws.length
 ·have hm := List.getElem_mem h0
  have hwl := hw _ hm
  have hg : (rowsT ws)[i]? = some [.s (ws[i]'h0)] := by simp [rowsT, h0]
  have hil : i < (rowsT ws).length := by simpa using h0
  have hil' : (i : Int) < ws.length := by omega
  obtain ⟨_, hgE⟩ := List.getElem?_eq_some_iff.1 hg
  have hwR := rowsT_wk ws
  have c := fig_readT (T := T) (ws[i]'h0) hwl
  have hf := figR_fault (ws[i]'h0)
  have hdr : ws.drop i = ws[i]'h0 :: ws.drop (i + 1) := List.drop_eq_getElem_cons h0
  have hws := wrapS h0 (by omega)
  generalize ws[i]'h0 = w at *
  have hml : (fzs acc).length = i := by rw [fzs_length, ha]
  have hb4 : i ≤ 4294967295 := by omega
  rcases hf with ⟨f1, f2⟩ | ⟨f1, f2, f3⟩
  ·left
   have hp := rowF_push hml (fz (figR w).1)
   have ef : fzs (acc ++ [(figR w).1]) = fzs acc ++ [fz (figR w).1] := by simp [fzs]
   have w1 : IntKind.wrap .i64 ((w.length : Int) + 1) = (w.length : Int) + 1 := wrap_i64 _ (by omega)
   have w2 : IntKind.wrap .i64 ((k : Int) + ((w.length : Int) + 1)) = ((k + w.length + 1 : Nat) : Int) := by
    have : ((k + w.length + 1 : Nat) : Int) = (k : Int) + ((w.length : Int) + 1) := by omega
    rw [this]
    exact wrap_i64 _ (by omega)
   refine ⟨(i + 1, k + w.length + 1, acc ++ [(figR w).1]), ⟨by omega, by simp only; omega, by simp [ha]⟩, by simp only; omega, ?_, ?_⟩
   ·unfold stRR
    simp only [List.length_append, List.length_cons, List.length_nil, ha]
    rw [ef]
    rw [f1, f2] at c
    clear hdr ef hw f1 f2
    generalize fz (figR w).1 = X at *
    generalize fzs acc = M at *
    generalize rowsT ws = R at *
    simp -implicitDefEqProofs [l275_0, h0, hil, hil', hg, hgE, c, hws, w1, w2, hml, hb4, hp, hwR]
   ·simp only
    rw [hdr, readL, if_pos f1]
  ·right
   have hne : ¬ (figR w).2.1 = 0 := by omega
   have er : readL (ws.drop i) k acc = ([], (figR w).2.1, (figR w).2.2 + k) := by rw [hdr, readL, if_neg hne]
   rw [er]
   unfold resRR stRR
   simp only [ha]
   rw [if_neg hne]
   have w1 : IntKind.wrap .i64 ((figR w).2.2 + (k : Int)) = (figR w).2.2 + (k : Int) := wrap_i64 _ (by omega)
   clear hdr er hw
   generalize fz (figR w).1 = X at *
   generalize (figR w).2.1 = K at *
   generalize (figR w).2.2 = A at *
   generalize fzs acc = M at *
   generalize rowsT ws = R at *
   rcases f1 with rfl | rfl <;> (constructor <;> simp -implicitDefEqProofs [l275_0, h0, hil, hil', hg, hgE, c, w1])
 ·right
  have hi2 : i = ws.length := by omega
  subst hi2
  rw [List.drop_length, readL]
  unfold resRR stRR
  simp only [if_true, ha]
  have hn : ¬ ws.length < (rowsT ws).length := by simp
  generalize fzs acc = M at *
  generalize rowsT ws = R at *
  generalize ws.length = n at *
  constructor <;> simp -implicitDefEqProofs [l275_0]
theorem readL_len : ∀ (ws : List (List UInt8)) (k : Nat) (acc : List Rat), (readL ws k acc).2.1 ≠ 0 → (readL ws k acc).1 = []
 | [], _, _, h => by simp [readL] at h
 | w :: ws, k, acc, h => by
  unfold readL at h ⊢
  split at h
  ·next h1 => rw [if_pos h1]; exact readL_len ws _ _ h
  ·next h1 => rw [if_neg h1]
theorem readL_at : ∀ (ws : List (List UInt8)) (k : Nat) (acc : List Rat), (readL ws k acc).2.1 = 0 → (readL ws k acc).2.2 = 0
 | [], _, _, h => rfl
 | w :: ws, k, acc, h => by
  unfold readL at h ⊢
  split at h
  ·next h1 => rw [if_pos h1]; exact readL_at ws _ _ h
  ·next h1 => exact absurd h h1
theorem row_read (s : List UInt8) (hs : s.length ≤ 100000) :
  callF T 275 [.s s] = some (.tup [.sl (rowF (fzs (rowR s).1)) .an, flt (rowR s).2.1 (rowR s).2.2]) := by
 rw [f275 _ rfl, b275]
 unfold rowR
 by_cases h0 : s = []
 ·subst h0
  have e0 : fzs [] = [] := rfl
  simp only [if_true, e0, rowF_nil]
  simp -implicitDefEqProofs
 ·rw [if_neg h0]
  have hpl : ∀ (l : List UInt8) (w : List UInt8), w ∈ splitC 44 l → w.length ≤ l.length := by
   intro l
   induction l with
   | nil => intro w hw; simp [splitC] at hw; simp [hw]
   | cons b l ih =>
    intro w hw
    unfold splitC at hw
    split at hw
    ·rcases List.mem_cons.1 hw with rfl | hw
     ·simp
     ·have := ih w hw; simp; omega
    ·cases hsp : splitC 44 l with
     | nil => rw [hsp] at hw; simp at hw; simp [hw]
     | cons p r =>
      rw [hsp] at hw ih
      rcases List.mem_cons.1 hw with rfl | hw
      ·have := ih p List.mem_cons_self; simp; omega
      ·have := ih w (List.mem_cons_of_mem _ hw); simp; omega
  have hcl : (splitC 44 s).length ≤ s.length + 1 := by
   rw [splitC_len]
   have : s.count 44 ≤ s.length := List.count_le_length
   omega
  have c := str_split (T := T) s 44 (by omega)
  have h := rr_loop (T := T) (splitC 44 s) (by omega) (fun w hw => by have := hpl s w hw; omega) (0, 0, []) ⟨Nat.zero_le _, Nat.zero_le _, rfl⟩
  have hnil := readL_len (splitC 44 s) 0 []
  have hat := readL_at (splitC 44 s) 0 []
  simp only [List.drop_zero] at h
  unfold stRR at h
  have e0 : fzs [] = [] := rfl
  simp only [e0, rowF_nil, Int.natCast_zero, List.length_nil] at h
  generalize readL (splitC 44 s) 0 [] = r at *
  unfold resRR at h
  have hsl := rowsT_length (splitC 44 s)
  have hwR := rowsT_wk (splitC 44 s)
  generalize rowsT (splitC 44 s) = R at *
  generalize (splitC 44 s).length = n at *
  by_cases hr : r.2.1 = 0
  ·rw [if_pos hr] at h
   have ha := hat hr
   rw [hr, ha]
   have hml : (fzs r.1).length = r.1.length := fzs_length r.1
   generalize fzs r.1 = M at *
   generalize r.1.length = m at *
   have ht : List.take m M = M := List.take_of_length_le (by omega)
   simp -implicitDefEqProofs [h0, c, hsl, h, ht, hml, hwR]
  ·rw [if_neg hr] at h
   rw [hnil hr]
   simp only [e0, rowF_nil]
   simp -implicitDefEqProofs [h0, c, hsl, h, hwR]
end
end Go.Ab
end

section
namespace Go.Ab
section
variable {T : Tbl} [CLimb T] [CNat T] [CProd T] [CTwos T] [CQuot T] [CQuotD T] [CDigits T] [CText T] [CWhole T] [CCommon T] [CFrac T] [CFrac2 T] [CStr T] [CSplit T] [CPow T] [CFig T] [CJoin T] [CRow T] [CRow2 T] [CLaw11b T]
theorem law11_works : callF T 334 [] = some (.b true) := by
 have a1 := row_read (T := T) [49, 44, 50] (by decide)
 have a2 := row_read (T := T) [51, 44, 52] (by decide)
 have a3 := row_read (T := T) [49, 44, 44, 50] (by decide)
 have e1 : rowR [49, 44, 50] = ([1, 2], 0, 0) := by decide +kernel
 have e2 : rowR [51, 44, 52] = ([3, 4], 0, 0) := by decide +kernel
 have e3 : rowR [49, 44, 44, 50] = ([], 1, 2) := by decide +kernel
 rw [e1] at a1
 rw [e2] at a2
 rw [e3] at a3
 have s1 : ∀ q ∈ [(1 : Rat), 2], sz q ≤ 1 := by
  intro q hq
  simp only [List.mem_cons, List.not_mem_nil, or_false] at hq
  rcases hq with rfl | rfl <;> exact szle1 (by decide) (by decide)
 have s2 : ∀ q ∈ [(3 : Rat), 4], sz q ≤ 1 := by
  intro q hq
  simp only [List.mem_cons, List.not_mem_nil, or_false] at hq
  rcases hq with rfl | rfl <;> exact szle1 (by decide) (by decide)
 have s3 : ∀ q ∈ [(4 : Rat), 6], sz q ≤ 1 := by
  intro q hq
  simp only [List.mem_cons, List.not_mem_nil, or_false] at hq
  rcases hq with rfl | rfl <;> exact szle1 (by decide) (by decide)
 have d := row_dot (T := T) (fzs [1, 2]) (fzs [3, 4]) (B := 1) (fzs_sz s1) (fzs_sz s2) (by decide) (by decide)
 rw [if_pos (by decide)] at d
 have dv : dotQ (fzs [1, 2]) (fzs [3, 4]) = 11 := by decide +kernel
 rw [dv] at d
 have ad := row_add (T := T) (fzs [1, 2]) [fzs [3, 4]] (by decide) (by decide) (B := 1) (fzs_sz s1) (by
  intro r hr
  simp only [List.mem_cons, List.not_mem_nil, or_false] at hr
  rw [hr]
  exact fzs_sz s2) (by decide) (by decide) (by
  intro r hr
  simp only [List.mem_cons, List.not_mem_nil, or_false] at hr
  rw [hr]
  rfl)
 have av : List.foldl addP ((fzs [1, 2]).map fv) [fzs [3, 4]] = [4, 6] := by decide +kernel
 rw [av] at ad
 have k11 := frac_of (T := T) 11 (by decide) (by decide)
 have q11 : ((11 : Int) : Rat) = 11 := rfl
 rw [q11] at k11
 have s11 : sz 11 ≤ 1 := szle1 (by decide) (by decide)
 have sm := frac_same (T := T) (fz 11) (fz 11) (Nat.le_trans s11 (by decide)) (Nat.le_trans s11 (by decide))
 rw [decide_eq_true rfl] at sm
 have t1 := row_text (T := T) (fzs [4, 6]) (by decide) (fzs_sz fun q hq => Nat.le_trans (s3 q hq) (by decide))
 have w1 : List.intercalate [44] (txts (fzs [4, 6])) = [52, 44, 54] := by
  have e1 := textQ_nat 4 (by decide)
  have e2 := textQ_nat 6 (by decide)
  simp only [txts, fzs, List.map_cons, List.map_nil, fv_fz]
  rw [show (4 : Rat) = ((4 : Nat) : Rat) from rfl, show (6 : Rat) = ((6 : Nat) : Rat) from rfl, e1, e2]
  rfl
 rw [w1] at t1
 have rm : matF [fzs [1, 2], fzs [3, 4]] = [[.sl (rowF (fzs [1, 2])) .an], [.sl (rowF (fzs [3, 4])) .an]] := rfl
 have e0 : fzs [] = [] := rfl
 rw [e0] at a3
 simp only [rowF_nil] at a3
 try rw [rm] at ad
 clear e1 e2 e3 s1 s2 s3 dv av q11 s11 w1 rm e0
 generalize fzs [1, 2] = A at *
 generalize fzs [3, 4] = B at *
 generalize fzs [4, 6] = C at *
 generalize fz 11 = E at *
 rw [f334 _ rfl, b334]
 simp -implicitDefEqProofs [a1, a2, a3, d, ad, k11, sm, t1]
end
end Go.Ab
end

section
namespace Go.Ab
def Dig (l : List UInt8) : Prop := ∀ c ∈ l, 48 ≤ c.toNat ∧ c.toNat ≤ 57
def NoCut (l : List UInt8) : Prop := ∀ c ∈ l, isCut c = false
end Go.Ab
end

section
namespace Go.Ab
section
variable {T : Tbl} [CLimb T] [CNat T] [CProd T] [CTwos T] [CQuot T] [CQuotD T] [CDigits T] [CText T] [CWhole T] [CCommon T] [CFrac T] [CFrac2 T] [CFrac5 T] [CStr T] [CSplit T] [CPow T] [CFig T] [CJoin T] [CRow T] [CRow2 T] [CRow5 T] [CRef02 T] [CRef04 T] [CRef05 T] [CRef07 T] [CRef06 T] [CRef08 T] [CRef09 T] [CRef11 T] [CRef5 T] [CLaw09 T] [CLaw11 T] [CLaw11b T] [CLaw11c T]
def stSz (l : List Fz) (i : Nat) : St := ⟨[(0, .sl (rowF l) .an), (3, .i .i64 (sizL (l.take i))), (4, .i .i64 i)], [], 2⟩
theorem law11_size (l : List Fz) (hl : l.length ≤ 1000) (hw : ∀ x ∈ l, fsz x ≤ 1000) : callF T 371 [.sl (rowF l) .an] = some (.i .i64 (sizL l)) := by
 have hloop : loopN T 0 0 (.norm false [3]) l371_0 (stSz l 0) = some (.n, ⟨[(3, .i .i64 (sizL l))], [], 2⟩) := by
  refine range_loop (stSz l) l.length _ (fun i hi => ?_) ?_
  ·have hws := wrapS hi (by omega)
   have hg : l[i]? = some (l[i]'hi) := List.getElem?_eq_getElem hi
   have hil : (i : Int) < l.length := by omega
   have cs := ref09_size (T := T) (l[i]'hi) (by have := hw _ (List.getElem_mem hi); omega)
   have e : sizL (l.take (i + 1)) = max (sizL (l.take i)) (sizF (l[i]'hi)) := by
    unfold sizL
    rw [foldl_take _ _ _ hi]
   unfold stSz
   rw [e]
   clear e hw
   generalize sizL (l.take i) = A at *
   generalize sizF (l[i]'hi) = B at *
   by_cases h : A < B
   ·have m : max A B = B := Nat.max_eq_right (by omega)
    have h' : (A : Int) < B := by omega
    rw [m]
    simp -implicitDefEqProofs [l371_0, hi, hil, hg, hws, cs, mm2, h, h']
   ·have m : max A B = A := Nat.max_eq_left (by omega)
    have h' : ¬ (A : Int) < B := by omega
    rw [m]
    simp -implicitDefEqProofs [l371_0, hi, hil, hg, hws, cs, mm2, h, h']
  ·have e : l.take l.length = l := List.take_length
   unfold stSz
   rw [e]
   generalize sizL l = A at *
   constructor <;> simp -implicitDefEqProofs [l371_0]
 unfold stSz at hloop
 have e0 : sizL (l.take 0) = 0 := rfl
 rw [e0] at hloop
 simp only [Int.natCast_zero] at hloop
 rw [f371 _ rfl, b371]
 clear hw
 generalize sizL l = A at *
 simp -implicitDefEqProofs [hloop]
theorem law11_tells (a b : List Fz) (n m : Int) : callF T 370 [.sl (rowF a) .an, .sl (rowF b) .an, .agg [.i .i64 n, .i .i64 m]] = some (.b true) := by
 have hw := law11_works (T := T)
 have ca := ref11_longB (T := T) a 12 6 (by decide)
 have cb := ref11_longB (T := T) b 12 6 (by decide)
 simp only [Int.cast_ofNat_Int] at ca cb
 rw [f370 _ rfl, b370]
 cases hA : longB a 12 6 with
 | true =>
  rw [hA] at ca
  simp -implicitDefEqProofs [hw, ca]
 | false =>
 rw [hA] at ca
 cases hB : longB b 12 6 with
 | true =>
  rw [hB] at cb
  simp -implicitDefEqProofs [hw, ca, cb]
 | false =>
 rw [hB] at cb
 obtain ⟨la, za⟩ := longB_false hA
 obtain ⟨lb, zb⟩ := longB_false hB
 have t1 := law11_to (T := T) a (by omega)
 have t2 := law11_to (T := T) b (by omega)
 have n1 := ref11_norms (T := T) a (by omega) (fun x hx => Nat.le_trans (za x hx) (by decide))
 have n2 := ref11_norms (T := T) b (by omega) (fun x hx => Nat.le_trans (zb x hx) (by decide))
 rw [fzs_nrm] at n1 n2
 have vza := vals_sz (B := 6) (by decide) za
 have hk := cap300_le n
 have z1 := row_zero_int (T := T) n
 have z2 := ref11_zero_int (T := T) n
 have z3 := row_unit_int (T := T) n m
 have z4 := ref11_unit_int (T := T) n m
 have zz : ∀ q ∈ List.replicate (cap300 n) (0 : Rat), sz q ≤ 1 := fun q hq => by
  rw [List.eq_of_mem_replicate hq, sz_zero]
  decide
 have zu : ∀ q ∈ unitR n m, sz q ≤ 1 := by
  unfold unitR
  split
  ·intro q hq
   rcases List.mem_or_eq_of_mem_set hq with hq | rfl
   ·exact zz q hq
   ·rw [sz_one]; decide
  ·exact zz
 have lu : (unitR n m).length = cap300 n := by
  unfold unitR
  split <;> simp
 have i1 := law11_is (T := T) (fzs (List.replicate (cap300 n) 0)) (fzs (List.replicate (cap300 n) 0)) (by rw [fzs_length, List.length_replicate]; omega) (fzs_sz fun q hq => Nat.le_trans (zz q hq) (by decide))
 have i2 := law11_is (T := T) (fzs (unitR n m)) (fzs (unitR n m)) (by rw [fzs_length, lu]; omega) (fzs_sz fun q hq => Nat.le_trans (zu q hq) (by decide))
 rw [decide_eq_true rfl] at i1 i2
 have s1 := row_same (T := T) a b (by omega) (fun x hx => Nat.le_trans (za x hx) (by decide)) (fun x hx => Nat.le_trans (zb x hx) (by decide))
 have s2 := ref11_same (T := T) (fzs (a.map fv)) (fzs (b.map fv)) (by rw [fzs_length, List.length_map]; omega) (fzs_sz fun q hq => Nat.le_trans (vza q hq) (by decide))
 have es : decide (fzs (a.map fv) = fzs (b.map fv)) = decide (a.map fv = b.map fv) := decide_eq_decide.2 fzs_inj
 rw [es] at s2
 have m1 := row_normv (T := T) a (by omega) (fun x hx => Nat.le_trans (za x hx) (by decide))
 have m2 := ref11_max (T := T) (a.map fv) (by simp; omega) (fun q hq => Nat.le_trans (vza q hq) (by decide))
 have zn : sz (normR (a.map fv)) ≤ 6 := normR_sz (by decide) _ 0 (by rw [sz_zero]; decide) vza
 have i3 := law09_is (T := T) (fz (normR (a.map fv))) (fz (normR (a.map fv))) (by rw [fsz_fz]; omega)
 rw [decide_eq_true rfl] at i3
 have v1 := row_size (T := T) a (by omega) (fun x hx => Nat.le_trans (za x hx) (by decide))
 have v2 := law11_size (T := T) a (by omega) (fun x hx => Nat.le_trans (za x hx) (by decide))
 clear za zb vza zz zu lu es zn hk
 generalize fzs (List.replicate (cap300 n) 0) = X1 at *
 generalize fzs (unitR n m) = X2 at *
 generalize fzs (a.map fv) = X3 at *
 generalize fzs (b.map fv) = X4 at *
 generalize fz (normR (a.map fv)) = X5 at *
 generalize sizL a = X6 at *
 generalize decide (a.map fv = b.map fv) = SB at *
 cases SB <;> simp -implicitDefEqProofs [hw, ca, cb, t1, t2, n1, n2, z1, z2, z3, z4, i1, i2, s1, s2, m1, m2, i3, v1, v2]
end
end Go.Ab
end
