/-
  A calculus of values, boxes and code, and what functions of the program compute, proved in it.
  Conditions: none beyond those that the theorems state. (Part 7: GpFig, GpRef10, GcLaw11c, GcRow5, GcFrac5, GcRef5x, GpRow3, GpRef11, GpRow4, GcGrid, GpLaw11, GpGrid, GpGrid2, NmGrid, GpFrac2, NmRow, GpPow, GcLaw12, GcRef12, GpRef12, GpLaw12, GcPoly, GpPoly, GpRow5, GcLaw11b, GpFig2, GpLaw11b, NmTxt, GpLaw11c, GpRef11b, GpRnd, NmRnd, NmPad, GpRef10c, GpLaw11e, GpLaw10, GpLaw10d.)
-/
import Derived.Test.YtoogmjnkclcjjaaGreatDoorPart6

set_option linter.unusedSectionVars false
set_option linter.unusedVariables false
set_option linter.unusedSimpArgs false
set_option linter.unnecessarySimpa false

section
namespace Go.Ab
abbrev flt (k a : Int) : AV := .agg [.i .i64 k, .i .i64 0, .i .i64 0, .i .i64 a]
def isCut (c : UInt8) : Bool := c == 47 || c == 46
def cutN : List UInt8 → Nat
 | [] => 0
 | c :: r => if isCut c then 0 else cutN r + 1
theorem cutN_le : ∀ s, cutN s ≤ s.length
 | [] => Nat.le_refl _
 | c :: r => by
  have := cutN_le r
  simp only [cutN]
  split
  ·omega
  ·simp only [List.length_cons]; omega
theorem cutN_any : ∀ s : List UInt8, Lib.indexAny s [47, 46] = if cutN s < s.length then (cutN s : Int) else -1
 | [] => rfl
 | c :: r => by
  have ih := cutN_any r
  have hc : ([47, 46] : List UInt8).contains c = isCut c := by
   rw [Bool.eq_iff_iff]
   simp only [List.contains_iff_mem, List.mem_cons, List.not_mem_nil, or_false, isCut, Bool.or_eq_true, beq_iff_eq]
  have hle := cutN_le r
  simp only [Lib.indexAny, hc, cutN]
  by_cases hcut : isCut c = true
  ·simp [hcut]
  ·simp only [hcut, if_false, List.length_cons, Nat.add_lt_add_iff_right, Bool.false_eq_true]
   rw [ih]
   by_cases h : cutN r < r.length
   ·have e : ((cutN r : Int) == -1) = false := by simp
    simp [h, e]
   ·simp [h]
theorem cutN_get : ∀ (s : List UInt8), cutN s < s.length → ∃ c, s[cutN s]? = some c ∧ (c = 47 ∨ c = 46)
 | [], h => by simp at h
 | c :: r, h => by
  simp only [cutN] at h ⊢
  cases hc : isCut c with
  | true =>
   refine ⟨c, by simp, ?_⟩
   simpa [isCut] using hc
  | false =>
   rw [hc] at h
   simp only [Bool.false_eq_true, if_false, List.length_cons, Nat.add_lt_add_iff_right] at h ⊢
   obtain ⟨d, h1, h2⟩ := cutN_get r h
   exact ⟨d, by simpa using h1, h2⟩
theorem rd_len {l : List UInt8} (h0 : ¬ 0 ≤ wrongI l) : l.length ≤ 60 ∧ (ofN (rd l)).length ≤ 60 := by
 have h1 : wrAt 0 l < 0 := by
  unfold wrongI at h0
  split at h0
  ·omega
  ·omega
 obtain ⟨h2, h3⟩ := wrAt_neg 0 l (Nat.zero_le _) h1
 refine ⟨by omega, ofN_length_le' (k := 60) ?_⟩
 have h4 := rd_lt h3
 have h5 : 10 ^ l.length ≤ 10 ^ 60 := Nat.pow_le_pow_right (by decide) (by omega)
 exact Nat.lt_of_lt_of_le h4 (Nat.le_trans h5 (by decide))
def figB (z : Int) (neg : Bool) (s : List UInt8) (c : UInt8) (at_ : Nat) : Rat × Int × Int :=
 let rest := s.drop at_
 if 0 ≤ wrongI rest then (0, 1, wrongI rest + at_)
 else if c = 47 then (if rd rest = 0 then (0, 2, at_) else (mkRat z (rd rest), 0, 0))
 else (mkRat (sg neg (z.natAbs * 10 ^ rest.length + rd rest)) (10 ^ rest.length), 0, 0)
def figR (s : List UInt8) : Rat × Int × Int :=
 let first := s.take (cutN s)
 if 0 ≤ wrongZ first then (0, 1, wrongZ first + minus first)
 else if cutN s < s.length then figB (readZ first) (s.head? = some 45) s (s.getD (cutN s) 0) (cutN s + 1)
 else (mkRat (readZ first) 1, 0, 0)
theorem ten_len {n : Nat} (h : n ≤ 60) : (ofN (10 ^ n)).length ≤ 60 := by
 refine ofN_length_le' (k := 60) ?_
 have h5 : 10 ^ n ≤ 10 ^ 60 := Nat.pow_le_pow_right (by decide) h
 exact Nat.lt_of_le_of_lt h5 (by decide)
section
variable {T : Tbl} [CNat T] [CProd T] [CTwos T] [CQuot T] [CQuotD T] [CDigits T] [CWhole T] [CCommon T] [CFrac T] [CFrac2 T] [CStr T] [CSplit T] [CFig T]
theorem frac_new (n : Bool) (a d : List UInt32) (ha : a.length ≤ 10000) (hd : d.length ≤ 10000) :
  callF T 204 [wh n a, .sl (u32s d) .an] = some (.tup (if val d = 0 then [efz (fz 0), .b false] else [efz (fz (mkRat (wv n a) (val d))), .b true])) := by
 have c0 := frac_of0 (T := T)
 have c1 := nat_zero (T := T) d (by omega)
 rw [f204 _ rfl, b204]
 by_cases h : val d = 0
 ·rw [if_pos h]
  rw [decide_eq_true h] at c1
  generalize fz 0 = Z at *
  simp -implicitDefEqProofs [c0, c1]
 ·rw [if_neg h]
  rw [decide_eq_false h] at c1
  have c2 := frac_cancel (T := T) n a d ha hd h
  generalize fz (mkRat (wv n a) (val d)) = R at *
  simp -implicitDefEqProofs [c1, c2]
theorem str_prefix (l : List UInt8) : callF T 345 [.s l, .s [45]] = some (.b (l.head? = some 45)) := by
 have h1 : callF T 123 [.s l, .s [45]] = some (.b (l.head? = some 45)) := by
  rw [f123 _ rfl, b123]
  cases l with
  | nil => simp -implicitDefEqProofs
  | cons c r =>
   have h2 : (1 : Int) ≤ (r.length : Int) + 1 := by omega
   by_cases hc : c = 45 <;> simp -implicitDefEqProofs [h2, hc]
 rw [f345 _ rfl, b345]
 simp -implicitDefEqProofs [h1]
theorem fig_behind (s : List UInt8) (k : Nat) (hk : k ≤ s.length) (hs : s.length ≤ 1000000) : callF T 253 [.s s, .i .i64 k] =
  some (.tup (if 0 ≤ wrongI (s.drop k) then [.sl [] .an, flt 1 (wrongI (s.drop k) + k)] else [.sl (u32s (ofN (rd (s.drop k)))) .an, flt 0 0])) := by
 have h1 := digits_read (T := T) (s.drop k) (by rw [List.length_drop]; omega)
 have hk' : (k : Int) ≤ s.length := by omega
 rw [f253 _ rfl, b253]
 by_cases h0 : 0 ≤ wrongI (s.drop k)
 ·rw [if_pos h0] at h1 ⊢
  have hw : wrongI (s.drop k) ≤ 60 := by
   unfold wrongI
   split
   ·omega
   ·exact wrAt_le 0 _ (by decide)
  have w1 : IntKind.wrap .i64 (wrongI (s.drop k) + (k : Int)) = wrongI (s.drop k) + (k : Int) := wrap_i64 _ (by omega)
  generalize wrongI (s.drop k) = W at *
  simp -implicitDefEqProofs [hk, hk', h1, w1]
 ·rw [if_neg h0] at h1 ⊢
  generalize ofN (rd (s.drop k)) = R at *
  simp -implicitDefEqProofs [hk, hk', h1]
theorem fig_over (n : Bool) (a : List UInt32) (s : List UInt8) (k : Nat) (ha : a.length ≤ 10000) (hk : k ≤ s.length) (hs : s.length ≤ 1000000) : callF T 254 [wh n a, .s s, .i .i64 k] =
  some (.tup (if 0 ≤ wrongI (s.drop k) then [efz (fz 0), flt 1 (wrongI (s.drop k) + k)] else if rd (s.drop k) = 0 then [efz (fz 0), flt 2 k] else [efz (fz (mkRat (wv n a) (rd (s.drop k)))), flt 0 0])) := by
 have h1 := fig_behind (T := T) s k hk hs
 have c0 := frac_of0 (T := T)
 rw [f254 _ rfl, b254]
 by_cases h0 : 0 ≤ wrongI (s.drop k)
 ·rw [if_pos h0] at h1 ⊢
  generalize fz 0 = Z at *
  generalize wrongI (s.drop k) + (k : Int) = W at *
  simp -implicitDefEqProofs [h1, c0]
 ·rw [if_neg h0] at h1 ⊢
  have hl := (rd_len h0).2
  have h2 := frac_new (T := T) n a (ofN (rd (s.drop k))) ha (by omega)
  rw [val_ofN] at h2
  by_cases hz : rd (s.drop k) = 0
  ·rw [if_pos hz] at h2 ⊢
   clear hl h0
   generalize fz 0 = Z at *
   generalize ofN (rd (s.drop k)) = R at *
   simp -implicitDefEqProofs [h1, h2]
  ·rw [if_neg hz] at h2 ⊢
   clear hl h0
   generalize fz (mkRat (wv n a) (rd (s.drop k))) = Z at *
   generalize ofN (rd (s.drop k)) = R at *
   simp -implicitDefEqProofs [h1, h2]
theorem fig_places (ht : ∀ n : Nat, n ≤ 60 → callF T 252 [.i .i64 n] = some (.sl (u32s (ofN (10 ^ n))) .an)) (n neg : Bool) (a : List UInt32) (s : List UInt8) (k : Nat) (ha : a.length ≤ 1000) (hk : k ≤ s.length) (hs : s.length ≤ 1000000) :
  callF T 255 [wh n a, .b neg, .s s, .i .i64 k] =
  some (.tup (if 0 ≤ wrongI (s.drop k) then [efz (fz 0), flt 1 (wrongI (s.drop k) + k)] else [efz (fz (mkRat (sg neg (val a * 10 ^ (s.drop k).length + rd (s.drop k))) (10 ^ (s.drop k).length))), flt 0 0])) := by
 have h1 := fig_behind (T := T) s k hk hs
 have c0 := frac_of0 (T := T)
 rw [f255 _ rfl, b255]
 by_cases h0 : 0 ≤ wrongI (s.drop k)
 ·rw [if_pos h0] at h1 ⊢
  generalize fz 0 = Z at *
  generalize wrongI (s.drop k) + (k : Int) = W at *
  simp -implicitDefEqProofs [h1, c0]
 ·rw [if_neg h0] at h1 ⊢
  obtain ⟨hl60, hl⟩ := rd_len h0
  have h2 := ht (s.drop k).length hl60
  have ht60 := ten_len hl60
  have h3 := prod_mul (T := T) a (ofN (10 ^ (s.drop k).length)) (by omega) (by omega)
  rw [val_ofN] at h3
  have hm : (ofN (val a * 10 ^ (s.drop k).length)).length ≤ 1060 := by
   have e1 := ofN_length_le a
   have e2 := nat_mul_len (x := val a) (y := 10 ^ (s.drop k).length) (L := 1000) (M := 60) (by omega) ht60
   omega
  have h4 := nat_add (T := T) [ofN (val a * 10 ^ (s.drop k).length), ofN (rd (s.drop k))] (by simp) (by
   intro x hx
   simp only [List.mem_cons, List.not_mem_nil, or_false] at hx
   rcases hx with rfl | rfl <;> omega)
  have e1 : lls [ofN (val a * 10 ^ (s.drop k).length), ofN (rd (s.drop k))] = [[.sl (u32s (ofN (val a * 10 ^ (s.drop k).length))) .an], [.sl (u32s (ofN (rd (s.drop k)))) .an]] := rfl
  have e2 : sumL [ofN (val a * 10 ^ (s.drop k).length), ofN (rd (s.drop k))] = val a * 10 ^ (s.drop k).length + rd (s.drop k) := by simp [sumL, val_ofN]
  rw [e1, e2] at h4
  have hsum : (ofN (val a * 10 ^ (s.drop k).length + rd (s.drop k))).length ≤ 10000 := by
   have e3 := abs_add_len (x := ((val a * 10 ^ (s.drop k).length : Nat) : Int)) (y := ((rd (s.drop k) : Nat) : Int)) (L := 1060) (by rw [Int.natAbs_natCast]; exact hm) (by rw [Int.natAbs_natCast]; omega)
   rw [← Int.natCast_add, Int.natAbs_natCast] at e3
   omega
  have h5 := frac_new (T := T) neg (ofN (val a * 10 ^ (s.drop k).length + rd (s.drop k))) (ofN (10 ^ (s.drop k).length)) hsum (by omega)
  have hne : ¬ 10 ^ (s.drop k).length = 0 := Nat.ne_of_gt (Nat.pow_pos (by decide))
  rw [val_ofN, if_neg hne] at h5
  unfold wv at h5
  rw [val_ofN] at h5
  have hd : (s.drop k).length = s.length - k := List.length_drop
  have w1 : IntKind.wrap .i64 ((s.length : Int) - (k : Int)) = (((s.drop k).length : Nat) : Int) := by
   rw [hd]
   have : ((s.length - k : Nat) : Int) = (s.length : Int) - k := by omega
   rw [this]
   exact wrap_i64 _ (by omega)
  clear hl hl60 ht60 hm e1 e2 hsum hne h0 hd ht
  generalize 10 ^ (s.drop k).length = TN at *
  generalize (s.drop k).length = dl at *
  generalize fz (mkRat (sg neg (val a * TN + rd (s.drop k))) TN) = R at *
  generalize ofN (val a * TN + rd (s.drop k)) = R1 at *
  generalize ofN (val a * TN) = R2 at *
  generalize ofN (rd (s.drop k)) = R3 at *
  generalize ofN TN = R4 at *
  simp -implicitDefEqProofs [h1, h2, h3, h4, h5, w1]
theorem fig_read (ht : ∀ n : Nat, n ≤ 60 → callF T 252 [.i .i64 n] = some (.sl (u32s (ofN (10 ^ n))) .an)) (s : List UInt8) (hs : s.length ≤ 100000) :
  callF T 256 [.s s] = some (.tup [efz (fz (figR s).1), flt (figR s).2.1 (figR s).2.2]) := by
 have hi : callF T 344 [.s s, .s [47, 46]] = some (.i .i64 (if cutN s < s.length then (cutN s : Int) else -1)) := by
  rw [p344, ← cutN_any]
  simp only [prim344]
  rw [if_pos (by omega)]
 have hr := whole_read (T := T) (s.take (cutN s)) (by rw [List.length_take]; omega)
 have hle := cutN_le s
 have c0 := frac_of0 (T := T)
 rw [f256 _ rfl, b256]
 by_cases hc : cutN s < s.length
 ·rw [if_pos hc] at hi
  have q1 : (0 : Int) ≤ (cutN s : Int) := by omega
  have q2 : (cutN s : Int) ≤ s.length := by omega
  have q3 : ¬ (cutN s : Int) < 0 := by omega
  by_cases h0 : 0 ≤ wrongZ (s.take (cutN s))
  ·have eR : figR s = (0, 1, wrongZ (s.take (cutN s)) + minus (s.take (cutN s))) := by simp only [figR, if_pos h0]
   rw [eR]
   rw [if_pos h0] at hr
   clear eR
   simp only
   generalize fz 0 = Z at *
   generalize wrongZ (s.take (cutN s)) + minus (s.take (cutN s)) = W at *
   simp -implicitDefEqProofs [hi, hr, c0, q1, q2, q3, hle]
  ·rw [if_neg h0] at hr
   have hrl := read_len h0
   obtain ⟨c, hg, hcc⟩ := cutN_get s hc
   obtain ⟨_, hgE⟩ := List.getElem?_eq_some_iff.1 hg
   have hd : s.getD (cutN s) 0 = c := by rw [List.getD_eq_getElem?_getD, hg]; rfl
   have eR : figR s = figB (readZ (s.take (cutN s))) (decide (s.head? = some 45)) s c (cutN s + 1) := by simp only [figR, if_neg h0, if_pos hc, hd]
   rw [eR]
   have w1 : IntKind.wrap .i64 ((cutN s : Int) + 1) = ((cutN s + 1 : Nat) : Int) := wrap_i64 _ (by omega)
   have q4 : (cutN s : Int) < s.length := by omega
   have px := str_prefix (T := T) s
   rcases hcc with rfl | rfl
   ·have ho := fig_over (T := T) (decide (readZ (s.take (cutN s)) < 0)) (ofN (readZ (s.take (cutN s))).natAbs) s (cutN s + 1) (by omega) (by omega) (by omega)
    rw [wv_ez] at ho
    have ho2 : callF T 254 [ez (readZ (s.take (cutN s))), .s s, .i .i64 ((cutN s + 1 : Nat) : Int)] = some (.tup [efz (fz (figB (readZ (s.take (cutN s))) (decide (s.head? = some 45)) s 47 (cutN s + 1)).1),
      flt (figB (readZ (s.take (cutN s))) (decide (s.head? = some 45)) s 47 (cutN s + 1)).2.1 (figB (readZ (s.take (cutN s))) (decide (s.head? = some 45)) s 47 (cutN s + 1)).2.2]) := by
     rw [ho]
     simp only [figB, if_true]
     split
     ·rfl
     ·split <;> rfl
    clear ho eR hd
    generalize figB (readZ (s.take (cutN s))) (decide (s.head? = some 45)) s 47 (cutN s + 1) = R at *
    generalize fz R.1 = Z at *
    have ec : ((cutN s + 1 : Nat) : Int) = (cutN s : Int) + 1 := by omega
    rw [ec] at ho2 w1
    clear hrl h0 c0 ht
    generalize readZ (s.take (cutN s)) = RZ at *
    simp -implicitDefEqProofs [hi, hr, q1, q2, q3, q4, hle, hc, hg, hgE, w1, ho2]
   ·have ho := fig_places (T := T) ht (decide (readZ (s.take (cutN s)) < 0)) (decide (s.head? = some 45)) (ofN (readZ (s.take (cutN s))).natAbs) s (cutN s + 1) (by omega) (by omega) (by omega)
    rw [val_ofN] at ho
    have ho2 : callF T 255 [ez (readZ (s.take (cutN s))), .b (decide (s.head? = some 45)), .s s, .i .i64 ((cutN s + 1 : Nat) : Int)] = some (.tup [efz (fz (figB (readZ (s.take (cutN s))) (decide (s.head? = some 45)) s 46 (cutN s + 1)).1),
      flt (figB (readZ (s.take (cutN s))) (decide (s.head? = some 45)) s 46 (cutN s + 1)).2.1 (figB (readZ (s.take (cutN s))) (decide (s.head? = some 45)) s 46 (cutN s + 1)).2.2]) := by
     rw [ho]
     simp only [figB, show ¬ ((46 : UInt8) = 47) by decide, if_false]
     split <;> rfl
    clear ho eR hd
    generalize figB (readZ (s.take (cutN s))) (decide (s.head? = some 45)) s 46 (cutN s + 1) = R at *
    generalize fz R.1 = Z at *
    have ec : ((cutN s + 1 : Nat) : Int) = (cutN s : Int) + 1 := by omega
    rw [ec] at ho2 w1
    clear hrl h0 c0 ht
    generalize readZ (s.take (cutN s)) = RZ at *
    generalize decide (s.head? = some 45) = hd45 at *
    simp -implicitDefEqProofs [hi, hr, q1, q2, q3, q4, hle, hc, hg, hgE, w1, px, ho2]
 ·rw [if_neg hc] at hi
  have hcl : cutN s = s.length := by omega
  have htk : s.take (cutN s) = s := by rw [hcl]; exact List.take_length
  rw [htk] at hr
  by_cases h0 : 0 ≤ wrongZ s
  ·have eR : figR s = (0, 1, wrongZ s + minus s) := by simp only [figR, htk, if_pos h0]
   rw [eR]
   rw [if_pos h0] at hr
   clear eR
   simp only
   generalize fz 0 = Z at *
   generalize wrongZ s + minus s = W at *
   simp -implicitDefEqProofs [hi, hr, c0]
  ·have eR : figR s = (mkRat (readZ s) 1, 0, 0) := by simp only [figR, htk, if_neg h0, if_neg hc]
   rw [eR]
   rw [if_neg h0] at hr
   have hrl := read_len h0
   have h1 := nat_of (T := T) 1 (by decide)
   have h2 := frac_new (T := T) (decide (readZ s < 0)) (ofN (readZ s).natAbs) (ofN 1) (by omega) (by rw [ofN_one]; decide)
   rw [val_ofN, if_neg (by decide), wv_ez] at h2
   clear hrl h0 c0 ht eR
   simp only
   generalize fz (mkRat (readZ s) 1) = Z at *
   generalize readZ s = RZ at *
   generalize ofN 1 = O at *
   simp -implicitDefEqProofs [hi, hr, h1, h2]
end
end Go.Ab
end

section
namespace Go.Ab
section
variable {T : Tbl} [CRef02 T] [CRef04 T] [CRef05 T] [CRef07 T] [CRef06 T] [CRef08 T] [CRef09 T] [CRef10 T]
theorem ref10_tens (n : Nat) (hn : n ≤ 60) : callF T 260 [.i .i64 n] = some (.sl (u32s (ofN (10 ^ n))) .an) := by
 have hl : ∀ i : Nat, i ≤ n → loopN T 0 0 (.norm false [3]) l260_0 ⟨[(0, .i .i64 n), (3, .sl (u32s (ofN (10 ^ i))) .an), (4, .i .i64 i)], [], 2⟩ = some (.n, ⟨[(3, .sl (u32s (ofN (10 ^ n))) .an)], [], 2⟩) := by
  refine loopN_eq (fun i : Nat => ⟨[(0, .i .i64 n), (3, .sl (u32s (ofN (10 ^ i))) .an), (4, .i .i64 i)], [], 2⟩) _ (fun i => n - i) _ ?_
  intro i hi
  by_cases h0 : i < n
  ·left
   have hw : IntKind.wrap .i64 ((i : Int) + 1) = ((i + 1 : Nat) : Int) := wrap_i64 _ (by omega)
   have hil : (i : Int) < n := by omega
   have hol := ten_len (n := i) (by omega)
   have hml := ref04_mul (T := T) (ofN (10 ^ i)) [w32 10] (by omega) (by simp)
   have hv10 : val [w32 10] = 10 := by decide
   rw [val_ofN, hv10, ← Nat.pow_succ] at hml
   have e10 : u32s [w32 10] = [[u32 10]] := rfl
   rw [e10] at hml
   refine ⟨i + 1, h0, by show n - (i + 1) < n - i; omega, ?_, rfl⟩
   clear hol hv10
   generalize ofN (10 ^ (i + 1)) = R at *
   generalize ofN (10 ^ i) = S at *
   simp -implicitDefEqProofs [l260_0, h0, hil, hml, hw]
  ·right
   have : i = n := by omega
   subst this
   generalize ofN (10 ^ i) = S at *
   constructor <;> simp -implicitDefEqProofs [l260_0]
 have h := hl 0 (Nat.zero_le _)
 have e1 : u32s (ofN (10 ^ 0)) = [[u32 1]] := by rw [Nat.pow_zero, ofN_one]; rfl
 rw [e1] at h
 simp only [Int.natCast_zero] at h
 rw [f260 _ rfl, b260]
 generalize ofN (10 ^ n) = R at *
 simp -implicitDefEqProofs [h]
end
end Go.Ab
end

section
namespace Go.Ab
class CLaw11c (T : Tbl) : Prop where
end Go.Ab
end

section
namespace Go.Ab
class CRow5 (T : Tbl) : Prop where
end Go.Ab
end

section
namespace Go.Ab
class CFrac5 (T : Tbl) : Prop where
end Go.Ab
end

section
namespace Go.Ab
class CRef5 (T : Tbl) : Prop where
end Go.Ab
end

section
namespace Go.Ab
end Go.Ab
end

section
namespace Go.Ab
section
variable {T : Tbl} [CRef02 T] [CRef04 T] [CRef05 T] [CRef07 T] [CRef06 T] [CRef08 T] [CRef09 T] [CRef11 T]
def stZ1 (n i : Nat) : St := ⟨[(0, .i .i64 n), (3, .bs (.loc 3) 1 3 0 i), (4, .i .i64 i)], [(.loc 3, ⟨1, .own, 3, rowF (List.replicate i (fz 0))⟩)], 3⟩
def stN1 (l : List Fz) (i : Nat) : St := ⟨[(0, .sl (rowF l) .an), (3, .bs (.loc 3) 1 3 0 i), (4, .i .i64 i)], [(.loc 3, ⟨1, .own, 3, rowF (nrm (l.take i))⟩)], 3⟩
def stS1 (a b : List Fz) (i : Nat) : St := ⟨[(0, .sl (rowF a) .an), (1, .sl (rowF b) .an), (5, .i .i64 i)], [], 2⟩
def stA1 (p q : List Rat) (i : Nat) : St := ⟨[(0, .sl (rowF (fzs p)) .an), (1, .sl (rowF (fzs q)) .an), (5, .bs (.loc 5) 1 3 0 i), (6, .i .i64 i)], [(.loc 5, ⟨1, .own, 3, rowF (fzs ((addP p (fzs q)).take i))⟩)], 3⟩
def stD1 (p q : List Rat) (i : Nat) : St := ⟨[(0, .sl (rowF (fzs p)) .an), (1, .sl (rowF (fzs q)) .an), (4, .ptr (.loc 4) 1 3 0 0), (5, .ptr (.loc 5) 2 3 0 0), (6, .i .i64 i)],
 [(.loc 4, ⟨1, .str, 3, [nocell]⟩), (.loc 5, ⟨2, .str, 3, [celF (fz (dotK (fzs p) (fzs q) i))]⟩)], 4⟩
def longB (l : List Fz) (many words : Nat) : Bool := decide (many < l.length) || l.any fun x => decide (words < fsz x)
def stL1 (l : List Fz) (many words : Nat) (i : Nat) : St := ⟨[(0, .sl (rowF l) .an), (1, .i .i64 many), (2, .i .i64 words), (7, .i .i64 i)], [], 2⟩
end
end Go.Ab
end

section
namespace Go.Ab
def cap300 (n : Int) : Nat := (min (max n 0) 300).toNat
section
variable {T : Tbl} [CNat T] [CProd T] [CTwos T] [CQuot T] [CQuotD T] [CText T] [CWhole T] [CCommon T] [CFrac T] [CJoin T] [CRow T]
def unitR (n i : Int) : List Rat := if 0 ≤ i ∧ i < cap300 n then (List.replicate (cap300 n) 0).set i.toNat 1 else List.replicate (cap300 n) 0
end
section
variable {T : Tbl} [CRef02 T] [CRef04 T] [CRef05 T] [CRef07 T] [CRef06 T] [CRef08 T] [CRef09 T] [CRef11 T]
def stZ1x (n : Int) (i : Nat) : St := ⟨[(0, .i .i64 n), (3, .bs (.loc 3) 1 3 0 i), (4, .i .i64 i)], [(.loc 3, ⟨1, .own, 3, rowF (List.replicate i (fz 0))⟩)], 3⟩
end
end Go.Ab
end

section
namespace Go.Ab
class CGrid (T : Tbl) : Prop where
end Go.Ab
end

section
namespace Go.Ab
section
variable {T : Tbl} [CRef02 T] [CRef04 T] [CRef05 T] [CRef07 T] [CRef06 T] [CRef08 T] [CRef09 T] [CRef11 T] [CLaw09 T] [CLaw11 T]
theorem law09_to (x : Fz) : callF T 248 [efz x] = some (efz x) := by
 rw [f248 _ rfl, b248]
 simp -implicitDefEqProofs
def stTo11 (l : List Fz) (i : Nat) : St := ⟨[(0, .sl (rowF l) .an), (3, .bs (.loc 3) 1 3 0 i), (4, .i .i64 i)], [((.loc 3), ⟨1, .own, 3, rowF (l.take i)⟩)], 3⟩
def stOf11 (l : List Fz) (i : Nat) : St := ⟨[(0, .sl (rowF l) .an), (3, .bs (.loc 3) 1 3 0 i), (4, .i .i64 i)], [((.loc 3), ⟨1, .own, 3, rowF (l.take i)⟩)], 3⟩
end
end Go.Ab
end

section
namespace Go.Ab
def widthM : List (List Fz) → Nat
 | [] => 0
 | r :: _ => r.length
def rightM (m : List (List Fz)) : Bool := m.all fun r => decide (r.length = widthM m)
def colM (m : List (List Fz)) (j : Nat) : List Fz := m.map fun r => r.getD j (false, [], [])
def turnM (m : List (List Fz)) (k : Nat) : List (List Fz) := (List.range k).map fun j => nrm (colM m j)
def scM (r : List Fz) (m : List (List Fz)) : List (List Fz) := List.zipWith (fun x row => scl (fv x) row) r m
def sumM : List (List Fz) → List Rat
 | [] => []
 | r :: m => m.foldl addP (r.map fv)
def leftQ (r : List Fz) (m : List (List Fz)) : List Rat := sumM (scM r m)
def applyQ (m : List (List Fz)) (c : List Fz) : List Rat := m.map fun r => dotQ r c
section
variable {T : Tbl} [CNat T] [CProd T] [CTwos T] [CQuot T] [CQuotD T] [CText T] [CWhole T] [CCommon T] [CFrac T] [CJoin T] [CRow T] [CGrid T]
def stGrR (m : List (List Fz)) (i : Nat) : St := ⟨[(0, .sl (matF m) .an), (5, .sl (matF m) .an), (6, .i .i64 m.length), (7, .i .i64 i)], [], 2⟩
def stGrS (a b : List (List Fz)) (i : Nat) : St := ⟨[(1, .sl (matF b) .an), (12, .sl (matF a) .an), (13, .i .i64 a.length), (14, .i .i64 i)], [], 2⟩
def idQ (k : Nat) (i : Nat) : List (List Fz) := (List.range i).map fun j => fzs ((List.replicate k 0).set j 1)
def stGrI (k : Nat) (i : Nat) : St := ⟨[(0, .i .i64 k), (3, .bs (.loc 3) 1 1 0 i), (8, .i .i64 k), (9, .i .i64 i)], [((.loc 3), ⟨1, .own, 1, matF (idQ k i)⟩)], 3⟩
def stGrT (m R : List (List Fz)) (k j : Nat) (i : Nat) : St := ⟨[(0, .sl (matF m) .an), (3, .bs (.loc 3) 1 1 0 j), (4, .i .i64 j), (5, .bs (.loc 5) 2 3 0 i), (12, .i .i64 k), (13, .i .i64 j), (16, .sl (matF m) .an), (17, .i .i64 m.length), (18, .i .i64 i)], [(.loc 3, ⟨1, .own, 1, matF R⟩), ((.loc 5), ⟨2, .own, 3, rowF (nrm (colM (m.take i) j))⟩)], 4⟩
def stTo12t (m : List (List Fz)) (k : Nat) (i : Nat) : St := ⟨[(0, .sl (matF m) .an), (3, .bs (.loc 3) 1 1 0 i), (12, .i .i64 k), (13, .i .i64 i)], [((.loc 3), ⟨1, .own, 1, matF (turnM m i)⟩)], 3⟩
end
end Go.Ab
end

section
namespace Go.Ab
section
variable {T : Tbl} [CNat T] [CProd T] [CTwos T] [CQuot T] [CQuotD T] [CText T] [CWhole T] [CCommon T] [CFrac T] [CJoin T] [CRow T] [CGrid T]
def stGrL (r : List Fz) (m : List (List Fz)) (i : Nat) : St := ⟨[(0, .sl (rowF r) .an), (6, .bs (.loc 6) 1 1 0 i), (19, .sl (matF m) .an), (20, .i .i64 m.length), (21, .i .i64 i)], [((.loc 6), ⟨1, .own, 1, matF (scM (r.take i) (m.take i))⟩)], 3⟩
def stGrA (m : List (List Fz)) (c : List Fz) (i : Nat) : St := ⟨[(1, .sl (rowF c) .an), (6, .bs (.loc 6) 1 3 0 i), (21, .sl (matF m) .an), (22, .i .i64 m.length), (23, .i .i64 i)], [((.loc 6), ⟨1, .own, 3, rowF (fzs (applyQ (m.take i) c))⟩)], 3⟩
def mulM (a b : List (List Fz)) : List (List Fz) := a.map fun r => fzs (leftQ r b)
def stGrM (a m : List (List Fz)) (i : Nat) : St := ⟨[(1, .sl (matF m) .an), (6, .bs (.loc 6) 1 1 0 i), (26, .sl (matF a) .an), (27, .i .i64 a.length), (28, .i .i64 i)], [((.loc 6), ⟨1, .own, 1, matF (mulM (a.take i) m)⟩)], 3⟩
def addM (a b : List (List Fz)) : List (List Fz) := List.zipWith (fun r s => fzs (addP (r.map fv) s)) a b
def stGrP (a m : List (List Fz)) (i : Nat) : St := ⟨[(1, .sl (matF m) .an), (6, .bs (.loc 6) 1 1 0 i), (33, .sl (matF a) .an), (34, .i .i64 a.length), (35, .i .i64 i)], [((.loc 6), ⟨1, .own, 1, matF (addM (a.take i) (m.take i))⟩)], 3⟩
end
end Go.Ab
end

section
namespace Go.Ab
def dotR : List Rat → List Rat → Rat
 | x :: a, y :: b => x * y + dotR a b
 | _, _ => 0
def valM (m : List (List Fz)) : List (List Rat) := m.map fun r => r.map fv
def fzM (L : List (List Rat)) : List (List Fz) := L.map fzs
@[simp] theorem fzM_length (L : List (List Rat)) : (fzM L).length = L.length := by simp [fzM]
@[simp] theorem valM_length (m : List (List Fz)) : (valM m).length = m.length := by simp [valM]
@[simp] theorem valM_fzM (L : List (List Rat)) : valM (fzM L) = L := by
 unfold valM fzM
 rw [List.map_map]
 simp [Function.comp_def]
def widthQ : List (List Rat) → Nat
 | [] => 0
 | r :: _ => r.length
def rightQ (L : List (List Rat)) : Bool := L.all fun r => decide (r.length = widthQ L)
def colQ (L : List (List Rat)) (j : Nat) : List Rat := L.map fun p => p.getD j 0
def turnQ (L : List (List Rat)) : List (List Rat) := (List.range (widthQ L)).map (colQ L)
def applyR (L : List (List Rat)) (c : List Rat) : List Rat := L.map fun p => dotR p c
def leftR (r : List Rat) (L : List (List Rat)) : List Rat := applyR (turnQ L) r
end Go.Ab
end

section
namespace Go.Ab
def absQ (q : Rat) : Rat := if q < 0 then -q else q
theorem fz_abs (q : Rat) : fz (absQ q) = (false, (fz q).2.1, (fz q).2.2) := by
 unfold absQ fz
 split
 ·next h =>
  have h2 : q.num < 0 := by
   rw [Rat.lt_iff] at h
   simpa using h
  rw [Rat.neg_num, Rat.neg_den, Int.natAbs_neg]
  have e : decide (-q.num < 0) = false := by simp; omega
  rw [e]
 ·next h =>
  have h2 : ¬ q.num < 0 := by
   rw [Rat.lt_iff] at h
   simpa using h
  rw [decide_eq_false h2]
theorem absQ_nonneg (q : Rat) : 0 ≤ absQ q := by
 unfold absQ
 split
 ·next h => grind
 ·next h => exact Rat.not_lt.1 h
theorem sz_abs (q : Rat) : sz (absQ q) = sz q := by
 unfold absQ
 split
 ·exact sz_neg q
 ·rfl
section
variable {T : Tbl} [CNat T] [CProd T] [CTwos T] [CQuot T] [CQuotD T] [CWhole T] [CCommon T] [CFrac T] [CFrac2 T]
theorem frac_abs (x : Fz) (hx : fsz x ≤ 10000) : callF T 214 [efz x] = some (efz (fz (absQ (fv x)))) := by
 have c := frac_norm (T := T) x hx
 rw [fz_abs, f214 _ rfl, b214]
 generalize fz (fv x) = X at *
 simp -implicitDefEqProofs [c]
end
end Go.Ab
end

section
namespace Go.Ab
def sclR (c : Rat) (l : List Rat) : List Rat := l.map fun x => c * x
def addR (a b : List Rat) : List Rat := List.zipWith (· + ·) a b
def maxStep (b x : Rat) : Rat := if b < absQ x then absQ x else b
def normR (l : List Rat) : Rat := l.foldl maxStep 0
def mixR : List (Rat × List Rat) → List Rat → List Rat
 | [], acc => acc
 | p :: l, acc => mixR l (addR acc (sclR p.1 p.2))
end Go.Ab
end

section
namespace Go.Ab
def sqC : List UInt32 → Nat
 | [] => 0
 | x :: r => 4294967296 * (x.toNat * val r) + 4294967296 * 4294967296 * sqC r
def sqD : List UInt32 → Nat
 | [] => 0
 | x :: r => x.toNat * x.toNat + 4294967296 * 4294967296 * sqD r
theorem sq_law : ∀ a : List UInt32, 2 * sqC a + sqD a = val a * val a
 | [] => rfl
 | x :: r => by
  have ih := sq_law r
  simp only [sqC, sqD, val_cons]
  generalize 4294967296 = p at *
  grind
theorem pow_two_i (i : Nat) : 4294967296 ^ (2 * i + 2) = 4294967296 ^ (2 * i) * (4294967296 * 4294967296) := by
 rw [Nat.pow_add]
theorem nat_mul_len' {x L : Nat} (h : (ofN x).length ≤ L) : (ofN (x * 2 ^ 1)).length ≤ L + 1 := by
 refine ofN_length_le' ?_
 have h1 := val_lt (ofN x)
 rw [val_ofN] at h1
 have h2 : 4294967296 ^ (ofN x).length ≤ 4294967296 ^ L := Nat.pow_le_pow_right (by decide) h
 rw [Nat.pow_succ]
 omega
section
variable {T : Tbl} [CLimb T] [CNat T] [CProd T] [CTwos T] [CPow T]
theorem twos_len (a : List UInt32) (ha : a.length ≤ 1000000) : callF T 356 [.sl (u32s a) .an] = some (.i .i64 (blen (val a))) := by
 have h1 := nat_norm (T := T) a (by omega)
 have hl := ofN_length_le a
 have hv : val (ofN (val a)) = val a := val_ofN _
 rw [f356 _ rfl, b356]
 by_cases h0 : val a = 0
 ·have e : ofN (val a) = [] := ofN_eq_nil.2 h0
  have eb : blen (val a) = 0 := by rw [h0]; rfl
  rw [e] at h1
  rw [eb]
  simp -implicitDefEqProofs [h1]
 ·have hne : ofN (val a) ≠ [] := fun h => h0 (ofN_eq_nil.1 h)
  obtain ⟨B, x, hB⟩ : ∃ B x, ofN (val a) = B ++ [x] := ⟨_, _, (List.dropLast_concat_getLast hne).symm⟩
  have hx0 : x.toNat ≠ 0 := by
   intro hx
   have e1 : val (ofN (val a)) = val B := by
    rw [hB, val_append]
    simp [hx]
   have e2 : ofN (val B) = ofN (val a) := by rw [← e1, val_ofN]
   have e3 := ofN_length_le B
   rw [e2, hB] at e3
   simp at e3
   omega
  have hlog : blen (val a) = 32 * B.length + blen x.toNat := by
   have hdiv : val a / 2 ^ (32 * B.length) = x.toNat := by
    have e1 : val a = val B + 4294967296 ^ B.length * x.toNat := by
     rw [← hv, hB, val_append]
     simp
    have e2 : 2 ^ (32 * B.length) = 4294967296 ^ B.length := by
     rw [Nat.pow_mul]
    have e3 := val_lt B
    rw [e2, e1, Nat.add_mul_div_left _ _ (by omega), Nat.div_eq_of_lt e3, Nat.zero_add]
   have := blen_shift (n := val a) (s := 32 * B.length) (by rw [hdiv]; exact hx0)
   rw [hdiv] at this
   exact this
  have hbl : B.length + 1 ≤ 1000000 := by
   have := congrArg List.length hB
   simp at this
   omega
  have hL := limb_len (T := T) x
  have hb32 : blen x.toNat ≤ 32 := by
   have hx := u32_lt x
   unfold blen
   split
   ·omega
   ·have := (Nat.log2_lt (n := x.toNat) (k := 32) (by assumption)).2 (by omega)
    omega
  rw [hB] at h1
  rw [hlog]
  have w1 : IntKind.wrap .i64 ((B.length : Int) + 1 - 1) = (B.length : Int) := by
   rw [Int.add_sub_cancel]
   exact wrap_i64 _ (by omega)
  have w2 : IntKind.wrap .i64 (32 * (B.length : Int)) = 32 * (B.length : Int) := wrap_i64 _ (by omega)
  have w3 : IntKind.wrap .i64 (32 * (B.length : Int) + (blen x.toNat : Int)) = 32 * (B.length : Int) + (blen x.toNat : Int) := wrap_i64 _ (by omega)
  have w4 : IntKind.wrap .i64 (B.length : Int) = B.length := wrap_i64 _ (by omega)
  have n1 : ¬ (B.length : Int) + 1 = 0 := by omega
  have n2 : (B.length : Int) < (B.length : Int) + 1 := by omega
  clear hlog hB hne hb32
  simp -implicitDefEqProofs [h1, hL, w1, w2, w3, w4, n1, n2]
def stSqA (a X : List UInt32) (i : Nat) : St :=
 ⟨[(0, .sl (u32s a) .an), (3, .bs (.loc 14) 1 1 0 (2 * a.length + 1)), (15, .sl (u32s a) .an), (16, .i .i64 a.length), (17, .i .i64 i)], [(.loc 14, ⟨1, .own, 1, u32s (X ++ List.replicate (a.length + 1 - i) 0)⟩)], 3⟩
theorem sqa_loop (a : List UInt32) (ha : a.length ≤ 100000) : ∀ y : Nat × List UInt32,
  (y.1 ≤ a.length ∧ y.2.length = a.length + y.1 ∧ val y.2 + 4294967296 ^ (2 * y.1) * sqC (a.drop y.1) = sqC a) →
  ∃ r, (∃ out : List UInt32, r = (Ex.n, (⟨[(0, .sl (u32s a) .an), (3, .bs (.loc 14) 1 1 0 (2 * a.length + 1))], [(.loc 14, ⟨1, .own, 1, u32s out⟩)], 3⟩ : St)) ∧ out.length = 2 * a.length + 1 ∧ val out = sqC a) ∧
   loopN T 0 0 (.norm false [0, 3]) l357_0 (stSqA a y.2 y.1) = some r := by
 refine loopN_ex _ _ (fun y => a.length - y.1) _ ?_
 rintro ⟨i, X⟩ ⟨hi, hX, hv⟩
 simp only at hi hX hv
 by_cases h0 : i < a.length
 ·left
  have hag : a[i]? = some (a[i]'h0) := List.getElem?_eq_getElem h0
  have hw : IntKind.wrap .i64 ((i : Int) + 1) = ((i + 1 : Nat) : Int) := wrap_i64 _ (by omega)
  have hw2 : IntKind.wrap .i64 (2 * (i : Int)) = 2 * (i : Int) := wrap_i64 _ (by omega)
  have hw3 : IntKind.wrap .i64 (2 * (i : Int) + 1) = ((2 * i + 1 : Nat) : Int) := wrap_i64 _ (by omega)
  have hdl : (a.drop (i + 1)).length = a.length - (i + 1) := List.length_drop
  obtain ⟨m, hm1, hm2, hc⟩ := prod_row (T := T) (X.take (2 * i + 1)) (X.drop (2 * i + 1) ++ List.replicate (a.length + 1 - i) 0) (a.drop (i + 1)) (a[i]'h0).toNat 0 (u32_lt _) (by decide) (by simp; omega) (by simp; omega)
  have hi21 : 2 * i + 1 ≤ X.length := by omega
  have e1 : X.take (2 * i + 1) ++ (X.drop (2 * i + 1) ++ List.replicate (a.length + 1 - i) 0) = X ++ List.replicate (a.length + 1 - i) 0 := by rw [← List.append_assoc, List.take_append_drop]
  have e2 : (X.take (2 * i + 1)).length = 2 * i + 1 := by simp; omega
  have e3 : (X.drop (2 * i + 1) ++ List.replicate (a.length + 1 - i) 0).length = 2 * a.length + 1 - (2 * i + 1) := by simp; omega
  have e4 : 2 * i + 1 + (2 * a.length + 1 - (2 * i + 1)) = 2 * a.length + 1 := by omega
  have e5 : (X.drop (2 * i + 1) ++ List.replicate (a.length + 1 - i) 0).drop ((a.drop (i + 1)).length + 1) = List.replicate (a.length + 1 - (i + 1)) 0 := by
   rw [List.drop_append, List.drop_of_length_le (by simp; omega), List.drop_replicate]
   simp only [List.nil_append, List.length_drop]
   congr 1
   omega
  have e6 : (X.drop (2 * i + 1) ++ List.replicate (a.length + 1 - i) 0).take (a.drop (i + 1)).length = X.drop (2 * i + 1) := by
   rw [List.take_append_of_le_length (by simp; omega), List.take_of_length_le (by simp; omega)]
  rw [e1, e2, e3, e4, e5] at hc
  rw [e6] at hm2
  simp only [← List.append_assoc] at hc
  refine ⟨(i + 1, X.take (2 * i + 1) ++ m), ⟨h0, by simp only [List.length_append, e2, hm1]; omega, ?_⟩, by simp only; omega, ?_⟩
  ·simp only
   have e7 := val_append (X.take (2 * i + 1)) (X.drop (2 * i + 1))
   rw [List.take_append_drop, e2] at e7
   rw [List.drop_eq_getElem_cons h0] at hv
   simp only [sqC] at hv
   rw [val_append, e2, hm2]
   have p1 : 4294967296 ^ (2 * i + 1) = 4294967296 ^ (2 * i) * 4294967296 := Nat.pow_succ ..
   have p2 : 4294967296 ^ (2 * (i + 1)) = 4294967296 ^ (2 * i) * (4294967296 * 4294967296) := pow_two_i i
   rw [p1] at e7 ⊢
   rw [p2, ← hv, e7]
   generalize 4294967296 ^ (2 * i) = q
   generalize val (a.drop (i + 1)) = v
   generalize sqC (a.drop (i + 1)) = w
   generalize (4294967296 : Nat) = p
   grind
  ·have hle : (i : Int) + 1 ≤ a.length := by omega
   have hle2 : i + 1 ≤ a.length := by omega
   have hm3 : ((2 * i + 1 : Nat) : Int) = 2 * (i : Int) + 1 := by omega
   rw [hm3] at hc hw3
   clear hv hm2 e1 e5 e6
   simp -implicitDefEqProofs [l357_0, stSqA, h0, hw, hw2, hw3, hc, hag, hle, hle2]
 ·right
  have : i = a.length := by omega
  subst this
  refine ⟨_, ⟨X ++ List.replicate (a.length + 1 - a.length) 0, rfl, by simp; omega, by rw [val_append, val_replicate]; simp [sqC] at hv; simp [hv]⟩, ?_, ?_⟩ <;> simp -implicitDefEqProofs [l357_0, stSqA]
def stSqD (a X : List UInt32) (U : List (List AV)) (i : Nat) : St :=
 ⟨[(6, .sl U .an), (7, .bs (.loc 38) 1 1 0 (2 * a.length)), (39, .sl (u32s a) .an), (40, .i .i64 a.length), (41, .i .i64 i)], [(.loc 38, ⟨1, .own, 1, u32s (X ++ List.replicate (2 * a.length - 2 * i) 0)⟩)], 3⟩
theorem sqd_loop (a : List UInt32) (U : List (List AV)) (hU : wkL U = U) (ha : a.length ≤ 100000) : ∀ y : Nat × List UInt32,
  (y.1 ≤ a.length ∧ y.2.length = 2 * y.1 ∧ val y.2 + 4294967296 ^ (2 * y.1) * sqD (a.drop y.1) = sqD a) →
  ∃ r, (∃ out : List UInt32, r = (Ex.n, (⟨[(6, .sl U .an), (7, .bs (.loc 38) 1 1 0 (2 * a.length))], [(.loc 38, ⟨1, .own, 1, u32s out⟩)], 3⟩ : St)) ∧ out.length = 2 * a.length ∧ val out = sqD a) ∧
   loopN T 0 2 (.norm false [6, 7]) l357_1 (stSqD a y.2 U y.1) = some r := by
 refine loopN_ex _ _ (fun y => a.length - y.1) _ ?_
 rintro ⟨i, X⟩ ⟨hi, hX, hv⟩
 simp only at hi hX hv
 by_cases h0 : i < a.length
 ·left
  have hag : a[i]? = some (a[i]'h0) := List.getElem?_eq_getElem h0
  have hm := limb_mul (T := T) (a[i]'h0) (a[i]'h0) 0 0
  obtain ⟨hi_, hhi⟩ : ∃ h : UInt32, h = w32 (((a[i]'h0).toNat * (a[i]'h0).toNat + (0 : UInt32).toNat + (0 : UInt32).toNat) / 4294967296) := ⟨_, rfl⟩
  obtain ⟨lo_, hlo⟩ : ∃ h : UInt32, h = w32 ((a[i]'h0).toNat * (a[i]'h0).toNat + (0 : UInt32).toNat + (0 : UInt32).toNat) := ⟨_, rfl⟩
  rw [← hhi, ← hlo] at hm
  have hx := u32_lt (a[i]'h0)
  have hval : lo_.toNat + 4294967296 * hi_.toNat = (a[i]'h0).toNat * (a[i]'h0).toNat := by
   have hlt := mul_lt hx hx
   have e0 : (0 : UInt32).toNat = 0 := rfl
   rw [hlo, hhi, w32_toNat, w32_toNat, e0]
   simp only [Nat.add_zero]
   generalize (a[i]'h0).toNat * (a[i]'h0).toNat = q at *
   omega
  have hw : IntKind.wrap .i64 ((i : Int) + 1) = ((i + 1 : Nat) : Int) := wrap_i64 _ (by omega)
  have hw2 : IntKind.wrap .i64 (2 * (i : Int)) = 2 * (i : Int) := wrap_i64 _ (by omega)
  have hw3 : IntKind.wrap .i64 (2 * (i : Int) + 1) = 2 * (i : Int) + 1 := wrap_i64 _ (by omega)
  have e1 : (X ++ List.replicate (2 * a.length - 2 * i) (0 : UInt32)) = X ++ 0 :: 0 :: List.replicate (2 * a.length - 2 * (i + 1)) 0 := by
   rw [show 2 * a.length - 2 * i = (2 * a.length - 2 * (i + 1)) + 1 + 1 by omega, List.replicate_succ, List.replicate_succ]
  have e2 : ((X ++ 0 :: 0 :: List.replicate (2 * a.length - 2 * (i + 1)) (0 : UInt32)).set (2 * i + 1) hi_).set (2 * i) lo_ = X ++ [lo_, hi_] ++ List.replicate (2 * a.length - 2 * (i + 1)) 0 := by
   rw [List.set_append_right _ _ (by omega), List.set_append_right _ _ (by omega), hX, Nat.sub_self, show 2 * i + 1 - 2 * i = 1 by omega]
   simp
  refine ⟨(i + 1, X ++ [lo_, hi_]), ⟨h0, by simp; omega, ?_⟩, by simp only; omega, ?_⟩
  ·simp only
   rw [List.drop_eq_getElem_cons h0] at hv
   simp only [sqD] at hv
   rw [val_append, hX]
   simp only [val_cons, val_nil, Nat.mul_zero, Nat.add_zero]
   have p2 : 4294967296 ^ (2 * (i + 1)) = 4294967296 ^ (2 * i) * (4294967296 * 4294967296) := pow_two_i i
   rw [p2, ← hv, ← hval]
   generalize 4294967296 ^ (2 * i) = q
   generalize sqD (a.drop (i + 1)) = w
   generalize (4294967296 : Nat) = p
   grind
  ·unfold stSqD
   simp only
   rw [e1, ← e2]
   have hl : (X ++ 0 :: 0 :: List.replicate (2 * a.length - 2 * (i + 1)) (0 : UInt32)).length = 2 * a.length := by simp; omega
   clear e1 e2 hv hval hhi hlo
   generalize (X ++ 0 :: 0 :: List.replicate (2 * a.length - 2 * (i + 1)) (0 : UInt32)) = B at *
   have s1 : (u32s B).set (2 * i + 1) [u32 hi_.toNat] = u32s (B.set (2 * i + 1) hi_) := by simp [u32s, List.map_set]
   have s2 : (u32s (B.set (2 * i + 1) hi_)).set (2 * i) [u32 lo_.toNat] = u32s ((B.set (2 * i + 1) hi_).set (2 * i) lo_) := by simp [u32s, List.map_set]
   have b1 : 2 * i + 1 < 2 * a.length := by omega
   have b2 : 2 * i < 2 * a.length := by omega
   have b3 : 2 * (i : Int) + 1 < 2 * (a.length : Int) := by omega
   have b4 : 2 * (i : Int) < 2 * (a.length : Int) := by omega
   have b5 : (0 : Int) ≤ 2 * (i : Int) + 1 := by omega
   have b6 : (0 : Int) ≤ 2 * (i : Int) := by omega
   have b7 : (2 * (i : Int) + 1).toNat = 2 * i + 1 := by omega
   have b8 : (2 * (i : Int)).toNat = 2 * i := by omega
   have g1 : B[2 * i + 1]? = some (B[2 * i + 1]'(by omega)) := List.getElem?_eq_getElem (by omega)
   have z0 : (0 : UInt32).toNat = 0 := rfl
   rw [z0] at hm
   have hl2 : ((B.set (2 * i + 1) hi_)).length = 2 * a.length := by simp [hl]
   simp -implicitDefEqProofs [l357_1, h0, hw, hw2, hw3, hag, hm, hl, s1, s2, b1, b2, b3, b4, b5, b6, b7, b8, hl2, hU]
 ·right
  have : i = a.length := by omega
  subst this
  refine ⟨_, ⟨X ++ List.replicate (2 * a.length - 2 * a.length) 0, rfl, by simp; omega, by rw [val_append, val_replicate]; simp [sqD] at hv; simp [hv]⟩, ?_, ?_⟩ <;> simp -implicitDefEqProofs [l357_1, stSqD, hU]
theorem prod_square (a : List UInt32) (ha : a.length ≤ 4000) : callF T 357 [.sl (u32s a) .an] = some (.sl (u32s (ofN (val a * val a))) .an) := by
 obtain ⟨_, ⟨out, rfl, ho, hv⟩, hr⟩ := sqa_loop (T := T) a (by omega) (0, List.replicate a.length 0) ⟨Nat.zero_le _, by simp, by simp [val_replicate]⟩
 unfold stSqA at hr
 have hup := twos_up (T := T) out 1 (by decide) (by omega)
 rw [Int.natCast_one] at hup
 have hupl : (ofN (val out * 2 ^ 1)).length ≤ 10000 := by
  have h1 := ofN_length_le out
  have h2 := nat_mul_len' (x := val out) (L := out.length) (by omega)
  omega
 obtain ⟨_, ⟨dg, rfl, hd, hdv⟩, hr2⟩ := sqd_loop (T := T) a (u32s (ofN (val out * 2 ^ 1))) (by simp) (by omega) (0, []) ⟨Nat.zero_le _, rfl, by simp⟩
 unfold stSqD at hr2
 have hn := nat_add (T := T) [ofN (val out * 2 ^ 1), dg] (by simp) (by
  intro x hx
  simp only [List.mem_cons, List.not_mem_nil, or_false] at hx
  rcases hx with rfl | rfl <;> omega)
 have e1 : lls [ofN (val out * 2 ^ 1), dg] = [[.sl (u32s (ofN (val out * 2 ^ 1))) .an], [.sl (u32s dg) .an]] := rfl
 have e2 : sumL [ofN (val out * 2 ^ 1), dg] = val a * val a := by
  simp only [sumL, List.map_cons, List.map_nil, val_ofN, List.sum_cons, List.sum_nil, hv, hdv]
  have := sq_law a
  omega
 rw [e1, e2] at hn
 simp only [Int.natCast_zero, List.nil_append, Nat.sub_zero, Nat.mul_zero] at hr hr2
 have e3 : List.replicate a.length (0 : UInt32) ++ List.replicate (a.length + 1) 0 = List.replicate (2 * a.length + 1) 0 := by
  rw [List.replicate_append_replicate]
  congr 1
  omega
 rw [e3] at hr
 have w1 : IntKind.wrap .i64 (2 * (a.length : Int)) = 2 * (a.length : Int) := wrap_i64 _ (by omega)
 have w2 : IntKind.wrap .i64 (2 * (a.length : Int) + 1) = 2 * (a.length : Int) + 1 := wrap_i64 _ (by omega)
 have n1 : (0 : Int) ≤ 2 * (a.length : Int) + 1 := by omega
 have n2 : 2 * (a.length : Int) + 1 ≤ 4294967296 := by omega
 have n3 : (0 : Int) ≤ 2 * (a.length : Int) := by omega
 have n4 : 2 * (a.length : Int) ≤ 4294967296 := by omega
 have n5 : (2 * (a.length : Int) + 1).toNat = 2 * a.length + 1 := by omega
 have n6 : (2 * (a.length : Int)).toNat = 2 * a.length := by omega
 have t1 : List.take (2 * a.length + 1) out = out := List.take_of_length_le (by omega)
 have t2 : List.take (2 * a.length) dg = dg := List.take_of_length_le (by omega)
 have o1 : out.length = 2 * a.length + 1 := ho
 rw [f357 _ rfl, b357]
 clear e1 e2 e3 hv hdv hupl
 simp -implicitDefEqProofs [w1, w2, n1, n2, n3, n4, n5, n6, hr, ho, t1, hup, hr2, hd, t2, hn]
end
theorem shr_i64 (e m : Nat) (hm : m ≤ 63) : binV .shr (.i .i64 (e : Int)) (.i .i64 (m : Int)) = some (.i .i64 ((e / 2 ^ m : Nat) : Int)) := by
 have h1 : ¬ (m : Int) < 0 := by omega
 have h2 : min m 64 = m := by omega
 simp only [binV, IntKind.bits, h1, if_false, Int.toNat_natCast, h2]
 congr 2
 rw [Int.fdiv_eq_ediv_of_nonneg _ (Int.le_of_lt (Int.pow_pos (by decide)))]
 norm_cast
theorem and_one (k : Nat) (hk : k < 9223372036854775808) : binV .and (.i .i64 (k : Int)) (.i .i64 1) = some (.i .i64 ((k % 2 : Nat) : Int)) := by
 show some (AV.i .i64 (IntKind.wrap .i64 ((BitVec.ofInt 64 (k : Int) &&& BitVec.ofInt 64 1).toNat : Int))) = _
 have h1 : (BitVec.ofInt 64 (k : Int)).toNat = k := by
  rw [BitVec.ofInt_natCast, BitVec.toNat_ofNat]
  omega
 have h2 : (BitVec.ofInt 64 1).toNat = 1 := rfl
 rw [BitVec.toNat_and, h1, h2, Nat.and_one_is_mod, wrap_i64 _ (by omega)]
theorem half_step (e m : Nat) : e / 2 ^ m = 2 * (e / 2 ^ (m + 1)) + e / 2 ^ m % 2 := by
 rw [Nat.pow_succ, ← Nat.div_div_eq_div_mul]
 omega
theorem blen_pow (x e : Nat) (h : e * blen x ≤ 65536) : (ofN (x ^ e)).length ≤ 2048 := by
 by_cases h1 : x ^ e = 0
 ·rw [h1]
  have : ofN 0 = [] := ofN_eq_nil.2 rfl
  rw [this]
  decide
 by_cases hx : x = 0
 ·subst hx
  cases e with
  | zero => exact Nat.le_trans (ofN_length_le' (k := 1) (by decide)) (by decide)
  | succ e => simp at h1
 ·refine ofN_length_le' ?_
  generalize hk : (2048 : Nat) = k
  have h2 : x < 2 ^ blen x := by
   unfold blen
   rw [if_neg hx]
   exact Nat.lt_log2_self
  have h5 : ∀ m, (2 : Nat) ^ (32 * m) = 4294967296 ^ m := fun m => by rw [Nat.pow_mul]
  cases e with
  | zero => exact Nat.one_lt_pow (by omega) (by decide)
  | succ e =>
   have h3 : x ^ (e + 1) < (2 ^ blen x) ^ (e + 1) := Nat.pow_lt_pow_left h2 (by omega)
   rw [← Nat.pow_mul, Nat.mul_comm] at h3
   refine Nat.lt_of_lt_of_le h3 ?_
   rw [← h5]
   exact Nat.pow_le_pow_right (by decide) (by omega)
theorem blen_lt {e : Nat} (h : e < 9223372036854775808) : blen e ≤ 63 := by
 unfold blen
 split
 ·omega
 ·next h0 =>
  have := (Nat.log2_lt (n := e) (k := 63) h0).2 h
  omega
theorem div_blen (e : Nat) : e / 2 ^ blen e = 0 := by
 unfold blen
 split
 ·next h => simp [h]
 ·exact Nat.div_eq_of_lt Nat.lt_log2_self
section
variable {T : Tbl} [CLimb T] [CNat T] [CProd T] [CTwos T] [CPow T]
theorem pow_loop (a : List UInt32) (e : Nat) (ha : a.length ≤ 3000) (he : e < 9223372036854775808) (hb : e * blen (val a) ≤ 65536) : ∀ b : Nat, b ≤ 63 →
  loopN T 0 0 (.norm false [7]) l258_0 ⟨[(0, .sl (u32s a) .an), (1, .i .i64 e), (7, .sl (u32s (ofN (val a ^ (e / 2 ^ b)))) .an), (8, .i .i64 ((b : Int) - 1))], [], 2⟩ =
   some (.n, ⟨[(7, .sl (u32s (ofN (val a ^ e))) .an)], [], 2⟩) := by
 refine loopN_eq (fun b : Nat => ⟨[(0, .sl (u32s a) .an), (1, .i .i64 e), (7, .sl (u32s (ofN (val a ^ (e / 2 ^ b)))) .an), (8, .i .i64 ((b : Int) - 1))], [], 2⟩) (fun b => b ≤ 63) (fun b => b) (fun _ => _) ?_
 intro b hb63
 cases b with
 | zero =>
  right
  rw [Nat.pow_zero, Nat.div_one]
  generalize ofN (val a ^ e) = R at *
  constructor <;> simp -implicitDefEqProofs [l258_0]
 | succ m =>
  left
  have hs := half_step e m
  have hmul : ∀ k, k ≤ e → k * blen (val a) ≤ 65536 := fun k hk => Nat.le_trans (Nat.mul_le_mul_right _ hk) hb
  have hd0 : e / 2 ^ m ≤ e := Nat.div_le_self _ _
  have l1 := blen_pow (val a) (e / 2 ^ (m + 1)) (hmul _ (Nat.div_le_self _ _))
  have l2 := blen_pow (val a) (2 * (e / 2 ^ (m + 1))) (hmul _ (by omega))
  have c1 := prod_square (T := T) (ofN (val a ^ (e / 2 ^ (m + 1)))) (by omega)
  rw [val_ofN, ← Nat.pow_add, ← Nat.two_mul] at c1
  have c2 := prod_mul (T := T) (ofN (val a ^ (2 * (e / 2 ^ (m + 1))))) a (by omega) (by omega)
  rw [val_ofN, ← Nat.pow_add_one] at c2
  have hsh := shr_i64 e m (by omega)
  have han := and_one (e / 2 ^ m) (by omega)
  have w1 : IntKind.wrap .i64 ((m : Int) - 1) = (m : Int) - 1 := wrap_i64 _ (by omega)
  have p1 : (0 : Int) ≤ m := by omega
  have e1 : ((m + 1 : Nat) : Int) - 1 = m := by omega
  refine ⟨m, by omega, by simp, ?_, rfl⟩
  rw [e1]
  rcases Nat.mod_two_eq_zero_or_one (e / 2 ^ m) with h0 | h0
  ·rw [h0] at han hs
   rw [Nat.add_zero] at hs
   rw [← hs] at c1
   clear l1 l2 c2 hs
   generalize ofN (val a ^ (e / 2 ^ (m + 1))) = X at *
   generalize ofN (val a ^ (e / 2 ^ m)) = Y at *
   generalize e / 2 ^ m = q at *
   simp -implicitDefEqProofs [l258_0, p1, c1, hsh, han, w1]
  ·rw [h0] at han hs
   rw [← hs] at c2
   clear l1 l2 hs
   generalize ofN (val a ^ (e / 2 ^ (m + 1))) = X at *
   generalize ofN (val a ^ (2 * (e / 2 ^ (m + 1)))) = Z at *
   generalize ofN (val a ^ (e / 2 ^ m)) = Y at *
   generalize e / 2 ^ m = q at *
   simp -implicitDefEqProofs [l258_0, p1, c1, c2, hsh, han, w1]
theorem prod_pow (a : List UInt32) (e : Nat) (ha : a.length ≤ 3000) (h2 : 2 ≤ blen (val a)) (hb : e ≤ 65536 / blen (val a)) :
  callF T 258 [.sl (u32s a) .an, .i .i64 e] = some (.tup [.sl (u32s (ofN (val a ^ e))) .an, .b true]) := by
 have hmul : e * blen (val a) ≤ 65536 := Nat.le_trans (Nat.mul_le_mul_right _ hb) (Nat.div_mul_le_self _ _)
 have he : e ≤ 65536 := Nat.le_trans hb (Nat.div_le_self _ _)
 have c1 := twos_len (T := T) a (by omega)
 have c2 := nat_of (T := T) 1 (by decide)
 have c3 := nat_of (T := T) e (by omega)
 have c4 := twos_len (T := T) (ofN e) (by
  have := ofN_length_le' (n := e) (k := 1) (by omega)
  omega)
 rw [val_ofN] at c4
 have hl := pow_loop (T := T) a e ha (by omega) hmul (blen e) (blen_lt (by omega))
 rw [div_blen, Nat.pow_zero] at hl
 have hbe := blen_lt (e := e) (by omega)
 have hq : ((65536 : Int)).tdiv (blen (val a) : Int) = ((65536 / blen (val a) : Nat) : Int) := by
  rw [Int.tdiv_eq_ediv_of_nonneg (by decide)]
  rfl
 have hbl : 65536 / blen (val a) ≤ 65536 := Nat.div_le_self _ _
 have w0 : IntKind.wrap .i64 ((65536 / blen (val a) : Nat) : Int) = ((65536 / blen (val a) : Nat) : Int) := wrap_i64 _ (by omega)
 have w1 : IntKind.wrap .i64 ((blen e : Int) - 1) = (blen e : Int) - 1 := wrap_i64 _ (by omega)
 have q1 : ¬ (e : Int) < 0 := by omega
 have q2 : (1 : Int) < (blen (val a) : Int) := by omega
 have q2' : 1 < blen (val a) := by omega
 have q3 : ¬ ((65536 / blen (val a) : Nat) : Int) < (e : Int) := by omega
 have q3' : ¬ (65536 / blen (val a)) < e := by omega
 have q4 : ¬ (blen (val a) : Int) < 2 := by omega
 have q4' : ¬ blen (val a) < 2 := by omega
 have q5 : ¬ (blen (val a) : Int) = 0 := by omega
 have q5' : ¬ blen (val a) = 0 := by omega
 have qm : ((e : Int) % 18446744073709551616).toNat = e := by omega
 rw [f258 _ rfl, b258]
 generalize 65536 / blen (val a) = Q at *
 clear hmul
 generalize ofN (val a ^ e) = R at *
 generalize ofN 1 = O at *
 generalize blen (val a) = B at *
 generalize ofN e = E at *
 simp -implicitDefEqProofs [c1, c2, c3, c4, hl, hq, w0, w1, q1, q2, q2', q3, q3', q4, q4', q5, q5', qm]
end
end Go.Ab
end

section
namespace Go.Ab
class CLaw12 (T : Tbl) : Prop where
end Go.Ab
end

section
namespace Go.Ab
class CRef12 (T : Tbl) : Prop where
end Go.Ab
end

section
namespace Go.Ab
section
variable {T : Tbl} [CRef02 T] [CRef04 T] [CRef05 T] [CRef07 T] [CRef06 T] [CRef08 T] [CRef09 T] [CRef11 T] [CRef12 T]
def stR12 (m : List (List Fz)) (i : Nat) : St := ⟨[(0, .sl (matF m) .an), (3, .i .i64 i)], [], 2⟩
def stN12 (m : List (List Fz)) (i : Nat) : St := ⟨[(0, .sl (matF m) .an), (3, .bs (.loc 3) 1 1 0 i), (4, .i .i64 i)], [((.loc 3), ⟨1, .own, 1, matF (fzM (valM (m.take i)))⟩)], 3⟩
def stS12 (a b : List (List Fz)) (i : Nat) : St := ⟨[(0, .sl (matF a) .an), (1, .sl (matF b) .an), (5, .i .i64 i)], [], 2⟩
def stI12 (n : Int) (k : Nat) (i : Nat) : St := ⟨[(0, .i .i64 n), (3, .bs (.loc 3) 1 1 0 i), (4, .i .i64 i)], [((.loc 3), ⟨1, .own, 1, matF (idQ k i)⟩)], 3⟩
def stT12i (L : List (List Rat)) (R : List (List Fz)) (j : Nat) (i : Nat) : St := ⟨[(0, .sl (matF (fzM L)) .an), (3, .bs (.loc 3) 1 1 0 j), (4, .i .i64 j), (5, .bs (.loc 5) 2 3 0 i), (6, .i .i64 i)], [(.loc 3, ⟨1, .own, 1, matF R⟩), ((.loc 5), ⟨2, .own, 3, rowF (fzs (colQ (L.take i) j))⟩)], 4⟩
def stT12o (L : List (List Rat)) (i : Nat) : St := ⟨[(0, .sl (matF (fzM L)) .an), (3, .bs (.loc 3) 1 1 0 i), (4, .i .i64 i)], [((.loc 3), ⟨1, .own, 1, matF (fzM ((List.range i).map (colQ L)))⟩)], 3⟩
def stA12 (L : List (List Rat)) (c : List Rat) (i : Nat) : St := ⟨[(0, .sl (matF (fzM L)) .an), (1, .sl (rowF (fzs c)) .an), (5, .bs (.loc 5) 1 3 0 i), (6, .i .i64 i)], [((.loc 5), ⟨1, .own, 3, rowF (fzs (applyR (L.take i) c))⟩)], 3⟩
def longM (m : List (List Fz)) (many words : Nat) : Bool := decide (many < m.length) || m.any fun r => longB r many words
def stL12 (m : List (List Fz)) (many words : Nat) (i : Nat) : St := ⟨[(0, .sl (matF m) .an), (1, .i .i64 many), (2, .i .i64 words), (7, .i .i64 i)], [], 2⟩
end
end Go.Ab
end

section
namespace Go.Ab
section
variable {T : Tbl} [CNat T] [CProd T] [CTwos T] [CQuot T] [CQuotD T] [CText T] [CWhole T] [CCommon T] [CFrac T] [CJoin T] [CRow T] [CGrid T] [CRef02 T] [CRef04 T] [CRef05 T] [CRef07 T] [CRef06 T] [CRef08 T] [CRef09 T] [CRef11 T] [CRef12 T] [CLaw09 T] [CLaw11 T] [CLaw12 T]
def stTo12 (m : List (List Fz)) (i : Nat) : St := ⟨[(0, .sl (matF m) .an), (3, .bs (.loc 3) 1 1 0 i), (4, .i .i64 i)], [((.loc 3), ⟨1, .own, 1, matF (m.take i)⟩)], 3⟩
def stI12s (a b : List (List Fz)) (i : Nat) : St := ⟨[(0, .sl (matF a) .an), (1, .sl (matF b) .an), (5, .i .i64 i)], [], 2⟩
theorem szle1 {q : Rat} (h1 : q.num.natAbs < 4294967296) (h2 : q.den < 4294967296) : sz q ≤ 1 := Nat.max_le.2 ⟨ofN_length_le' (by simpa using h1), ofN_length_le' (by simpa using h2)⟩
end
end Go.Ab
end

section
namespace Go.Ab
class CPoly (T : Tbl) : Prop where
end Go.Ab
end

section
namespace Go.Ab
def tlen (l : List Rat) : Nat → Nat
 | 0 => 0
 | n + 1 => if l.getD n 0 = 0 then tlen l n else n + 1
def trimR (l : List Rat) : List Rat := l.take (tlen l l.length)
section
variable {T : Tbl} [CNat T] [CProd T] [CTwos T] [CQuot T] [CQuotD T] [CText T] [CWhole T] [CCommon T] [CFrac T] [CJoin T] [CRow T] [CPoly T]
def evlR : List Rat → Rat → Rat
 | [], _ => 0
 | a :: l, x => evlR l x * x + a
def dif (l : List Rat) : List Rat := (List.range (l.length - 1)).map fun (i : Nat) => (((i : Int) + 1 : Int) : Rat) * l.getD (i + 1) 0
def stDf (l : List Fz) (i : Nat) : St := ⟨[(0, .sl (rowF l) .an), (3, .bs (.loc 3) 1 3 0 i), (4, .i .i64 ((i : Int) + 1))], [((.loc 3), ⟨1, .own, 3, rowF (fzs ((dif (l.map fv)).take i))⟩)], 3⟩
end
end Go.Ab
end

section
namespace Go.Ab
def sizF (x : Fz) : Nat := blen (val x.2.1) + blen (val x.2.2)
def sizL (l : List Fz) : Nat := l.foldl (fun n x => max n (sizF x)) 0
section
variable {T : Tbl} [CLimb T] [CNat T] [CProd T] [CTwos T] [CQuot T] [CQuotD T] [CText T] [CWhole T] [CCommon T] [CFrac T] [CFrac2 T] [CFrac5 T] [CPow T] [CJoin T] [CRow T] [CRow5 T]
def bestI (b c : Rat) (i : Nat) : Rat := if i = 0 then 0 else if i = 1 then b else (if b < c then c else b)
def stMx (b c : Rat) (i : Nat) : St := ⟨[(2, .ptr (.loc 2) 1 3 0 0), (3, .ptr (.loc 3) 2 3 0 0), (7, .sl [celF (fz b), celF (fz c)] .an), (8, .i .i64 2), (9, .i .i64 i)],
 [(.loc 2, ⟨1, .str, 3, [nocell]⟩), (.loc 3, ⟨2, .str, 3, [celF (fz (bestI b c i))]⟩)], 4⟩
def stRn (l : List Fz) (i : Nat) : St := ⟨[(2, .ptr (.loc 2) 1 3 0 0), (3, .ptr (.loc 3) 2 3 0 0), (7, .sl (rowF l) .an), (8, .i .i64 l.length), (9, .i .i64 i)],
 [(.loc 2, ⟨1, .str, 3, [nocell]⟩), (.loc 3, ⟨2, .str, 3, [celF (fz (normR ((l.map fv).take i)))]⟩)], 4⟩
def stRs (l : List Fz) (i : Nat) : St := ⟨[(3, .i .i64 (sizL (l.take i))), (6, .sl (rowF l) .an), (7, .i .i64 l.length), (8, .i .i64 i)], [], 2⟩
end
section
variable {T : Tbl} [CRef02 T] [CRef04 T] [CRef05 T] [CRef07 T] [CRef06 T] [CRef08 T] [CRef09 T] [CRef11 T] [CRef5 T]
def stSc (c : Rat) (p : List Rat) (i : Nat) : St := ⟨[(1, .sl (rowF (fzs p)) .an), (2, .ptr (.loc 2) 1 3 0 0), (5, .bs (.loc 5) 2 3 0 i), (6, .i .i64 i)],
 [(.loc 2, ⟨1, .str, 3, [celF (fz c)]⟩), (.loc 5, ⟨2, .own, 3, rowF (fzs ((sclR c p).take i))⟩)], 4⟩
def stRx (p : List Rat) (i : Nat) : St := ⟨[(0, .sl (rowF (fzs p)) .an), (2, .ptr (.loc 2) 1 3 0 0), (3, .ptr (.loc 3) 2 3 0 0), (4, .i .i64 i)],
 [(.loc 2, ⟨1, .str, 3, [nocell]⟩), (.loc 3, ⟨2, .str, 3, [celF (fz (normR (p.take i)))]⟩)], 4⟩
end
end Go.Ab
end

section
namespace Go.Ab
class CLaw11b (T : Tbl) : Prop where
end Go.Ab
end

section
namespace Go.Ab
def readL : List (List UInt8) → Nat → List Rat → List Rat × Int × Int
 | [], _, acc => (acc, 0, 0)
 | w :: ws, k, acc => if (figR w).2.1 = 0 then readL ws (k + w.length + 1) (acc ++ [(figR w).1]) else ([], (figR w).2.1, (figR w).2.2 + k)
def rowR (s : List UInt8) : List Rat × Int × Int := if s = [] then ([], 0, 0) else readL (splitC 44 s) 0 []
section
variable {T : Tbl} [CLimb T] [CNat T] [CProd T] [CTwos T] [CQuot T] [CQuotD T] [CDigits T] [CText T] [CWhole T] [CCommon T] [CFrac T] [CFrac2 T] [CStr T] [CSplit T] [CPow T] [CFig T] [CJoin T] [CRow T] [CRow2 T]
theorem fig_tens (n : Nat) (hn : n ≤ 60) : callF T 252 [.i .i64 n] = some (.sl (u32s (ofN (10 ^ n))) .an) := by
 have c1 := nat_of (T := T) 10 (by decide)
 have hb : blen 10 = 4 := by decide +kernel
 have c2 := prod_pow (T := T) (ofN 10) n (by
  have := ofN_length_le' (n := 10) (k := 1) (by decide)
  omega) (by rw [val_ofN, hb]; decide) (by rw [val_ofN, hb]; omega)
 rw [val_ofN] at c2
 rw [f252 _ rfl, b252]
 generalize ofN (10 ^ n) = R at *
 generalize ofN 10 = N at *
 simp -implicitDefEqProofs [c1, c2]
theorem fig_readT (s : List UInt8) (hs : s.length ≤ 100000) : callF T 256 [.s s] = some (.tup [efz (fz (figR s).1), flt (figR s).2.1 (figR s).2.2]) :=
 fig_read (T := T) fig_tens s hs
def stRR (ws : List (List UInt8)) (y : Nat × Nat × List Rat) : St :=
 ⟨[(3, .ptr (.loc 3) 1 4 0 0), (4, .bs (.loc 4) 2 3 0 y.2.2.length), (5, .i .i64 y.2.1), (14, .sl (rowsT ws) .an), (15, .i .i64 ws.length), (16, .i .i64 y.1)],
  [(.loc 3, ⟨1, .str, 4, [[.i .i64 0, .i .i64 0, .i .i64 0, .i .i64 0]]⟩), (.loc 4, ⟨2, .own, 3, rowF (fzs y.2.2)⟩)], 4⟩
def resRR (r : List Rat × Int × Int) : Option (Ex × St) :=
 if r.2.1 = 0 then some (.n, ⟨[(3, .ptr (.loc 3) 1 4 0 0), (4, .bs (.loc 4) 2 3 0 r.1.length)], [(.loc 3, ⟨1, .str, 4, [[.i .i64 0, .i .i64 0, .i .i64 0, .i .i64 0]]⟩), (.loc 4, ⟨2, .own, 3, rowF (fzs r.1)⟩)], 4⟩)
 else some (.r, ⟨[(2, .sl [] .an), (3, .ptr (.loc 3) 1 4 0 0)], [(.loc 3, ⟨1, .str, 4, [[.i .i64 r.2.1, .i .i64 0, .i .i64 0, .i .i64 r.2.2]]⟩)], 3⟩)
end
end Go.Ab
end

section
namespace Go.Ab
end Go.Ab
end

section
namespace Go.Ab
def Dig (l : List UInt8) : Prop := ∀ c ∈ l, 48 ≤ c.toNat ∧ c.toNat ≤ 57
theorem textN_ne (n : Nat) : textN n ≠ [] := by
 by_cases h : n < 10
 ·rw [textN_small h]; simp
 ·rw [textN_big h]; simp
def NoCut (l : List UInt8) : Prop := ∀ c ∈ l, isCut c = false
theorem textN_short {n k d : Nat} (h : (ofN n).length ≤ k) (hk : 4294967296 ^ k < 10 ^ (d + 1)) : (textN n).length ≤ d + 1 := by
 refine textN_len ?_
 have h1 := val_lt (ofN n)
 rw [val_ofN] at h1
 have h2 : 4294967296 ^ (ofN n).length ≤ 4294967296 ^ k := Nat.pow_le_pow_right (by decide) h
 omega
end Go.Ab
end

section
namespace Go.Ab
section
variable {T : Tbl} [CLimb T] [CNat T] [CProd T] [CTwos T] [CQuot T] [CQuotD T] [CDigits T] [CText T] [CWhole T] [CCommon T] [CFrac T] [CFrac2 T] [CFrac5 T] [CStr T] [CSplit T] [CPow T] [CFig T] [CJoin T] [CRow T] [CRow2 T] [CRow5 T] [CRef02 T] [CRef04 T] [CRef05 T] [CRef07 T] [CRef06 T] [CRef08 T] [CRef09 T] [CRef11 T] [CRef5 T] [CLaw09 T] [CLaw11 T] [CLaw11b T] [CLaw11c T]
def stSz (l : List Fz) (i : Nat) : St := ⟨[(0, .sl (rowF l) .an), (3, .i .i64 (sizL (l.take i))), (4, .i .i64 i)], [], 2⟩
end
end Go.Ab
end

section
namespace Go.Ab
theorem textQ_long {q : Rat} (h : sz q ≤ 20) : (textN q.num.natAbs).length ≤ 193 ∧ (textN q.den).length ≤ 193 ∧ (textZ q.num).length ≤ 194 ∧ (textQ q).length ≤ 400 := by
 have h1 := textN_short (n := q.num.natAbs) (k := 20) (d := 192) (Nat.le_trans (sz_num q) h) (by decide +kernel)
 have h2 := textN_short (n := q.den) (k := 20) (d := 192) (Nat.le_trans (sz_den q) h) (by decide +kernel)
 have h3 : (textZ q.num).length ≤ 194 := by
  unfold textZ
  split
  ·simp; omega
  ·omega
 refine ⟨h1, h2, h3, ?_⟩
 unfold textQ
 split
 ·omega
 ·simp; omega
section
variable {T : Tbl} [CRef02 T] [CRef04 T] [CRef05 T] [CRef07 T] [CRef06 T] [CRef08 T] [CRef09 T] [CRef10 T] [CRef11 T] [CRef11b T]
theorem ref09_up (n : Bool) (a d : List UInt32) : callF T 234 [efz (n, a, d)] = some (wh n a) := by
 rw [f234 _ rfl, b234]
 simp -implicitDefEqProofs
theorem ref10_text (q : Rat) (hq : sz q ≤ 20) : callF T 259 [efz (fz q)] = some (.s (textQ q)) := by
 obtain ⟨t1, t2, t3, t4⟩ := textQ_long hq
 have l1 := sz_num q
 have l2 := sz_den q
 have h1 := ref09_up (T := T) (decide (q.num < 0)) (ofN q.num.natAbs) (ofN q.den)
 have h2 := ref08_text (T := T) (decide (q.num < 0)) (ofN q.num.natAbs) (by omega)
 rw [wv_ez] at h2
 have h3 := ref06_one (T := T) (ofN q.den)
 rw [val_ofN] at h3
 have h4 := ref07_text (T := T) (ofN q.den) (by omega)
 rw [val_ofN] at h4
 have e' : fz q = (decide (q.num < 0), ofN q.num.natAbs, ofN q.den) := rfl
 rw [e', f259 _ rfl, b259]
 unfold textQ
 have c1 : 1 + (textN q.den).length ≤ 9223372036854775807 := by omega
 have c2 : (textZ q.num).length + ((textN q.den).length + 1) ≤ 9223372036854775807 := by omega
 clear e' l1 l2 t4
 generalize ofN q.den = D at *
 generalize ofN q.num.natAbs = A at *
 by_cases hd : q.den = 1
 ·rw [decide_eq_true hd] at h3
  simp -implicitDefEqProofs [h1, h2, h3, h4, hd]
 ·rw [decide_eq_false hd] at h3
  generalize textN q.den = TD at *
  generalize textZ q.num = TZ at *
  generalize decide (q.num < 0) = B at *
  simp -implicitDefEqProofs [h1, h2, h3, h4, hd, c1, c2]
def stR11 (s : List UInt8) (y : Nat × Nat × List Rat) : St :=
 ⟨[(0, .s s), (5, .bs (.loc 5) 1 3 0 y.2.2.length), (6, .i .i64 y.2.1), (7, .i .i64 y.1)], [(.loc 5, ⟨1, .own, 3, rowF (fzs y.2.2)⟩)], 3⟩
def resR11 (r : List Rat × Int × Int) : Option (Ex × St) :=
 if r.2.1 = 0 then some (.n, ⟨[(5, .bs (.loc 5) 1 3 0 r.1.length)], [(.loc 5, ⟨1, .own, 3, rowF (fzs r.1)⟩)], 3⟩)
 else some (.r, ⟨[(2, .sl [] .an), (3, .i .i64 r.2.1), (4, .i .i64 r.2.2)], [], 2⟩)
def restR11 (s : List UInt8) (y : Nat × Nat × List Rat) : List Rat × Int × Int :=
 if y.1 ≤ s.length then readL (splitC 44 (s.drop y.2.1)) y.2.1 y.2.2 else (y.2.2, 0, 0)
def piece (s : List UInt8) (i from_ : Nat) : List UInt8 := (s.drop from_).take (i - from_)
end
end Go.Ab
end

section
namespace Go.Ab
theorem floor_mk (z : Int) {d : Nat} (hd : d ≠ 0) : (mkRat z d).floor = z.fdiv (d : Int) := by
 have hx : mkRat z d * (d : Rat) = (z : Rat) := by
  rw [Rat.mkRat_eq_div]
  have : ((d : Nat) : Rat) ≠ 0 := by
   intro h
   exact hd (by exact_mod_cast h)
  grind
 have hdp : (0 : Rat) < (d : Rat) := by
  have : (0 : Int) < d := by omega
  exact_mod_cast this
 rw [Int.fdiv_eq_ediv_of_nonneg _ (by omega)]
 refine Int.le_antisymm ?_ ?_
 ·rw [Int.le_ediv_iff_mul_le (by omega)]
  have h1 := Rat.floor_le (mkRat z d)
  have h2 : (((mkRat z d).floor : Int) : Rat) * (d : Rat) ≤ mkRat z d * (d : Rat) := Rat.mul_le_mul_of_nonneg_right h1 (Rat.le_of_lt hdp)
  rw [hx] at h2
  exact_mod_cast h2
 ·rw [Rat.le_floor_iff]
  have h1 : z / (d : Int) * d ≤ z := Int.ediv_mul_le _ (by omega)
  have h2 : ((z / (d : Int) : Int) : Rat) * (d : Rat) ≤ mkRat z d * (d : Rat) := by
   rw [hx]
   exact_mod_cast h1
  exact Rat.le_of_mul_le_mul_right h2 hdp
def padZ (p : Nat) (s : List UInt8) : List UInt8 := List.replicate (p - s.length) 48 ++ s
def rndN (q : Rat) (p : Nat) : Nat := (absQ q * mkRat (10 ^ p : Nat) 1 + 1 / 2).floor.toNat
def roundQ (q : Rat) (p : Nat) : List UInt8 :=
 (if q < 0 ∧ rndN q p ≠ 0 then [45] else []) ++ (textN (rndN q p / 10 ^ p) ++ (if 0 < p then 46 :: padZ p (textN (rndN q p % 10 ^ p)) else []))
def cap60 (n : Int) : Nat := (min (max n 0) 60).toNat
theorem cap60_le (n : Int) : cap60 n ≤ 60 := by unfold cap60; omega
theorem rnd_nonneg (q : Rat) (p : Nat) : 0 ≤ (absQ q * mkRat (10 ^ p : Nat) 1 + 1 / 2).floor := by
 rw [Rat.le_floor_iff]
 have h1 := absQ_nonneg q
 have h2 : (0 : Rat) ≤ mkRat (10 ^ p : Nat) 1 := by
  rw [Rat.mkRat_eq_div]
  have : (0 : Int) ≤ ((10 ^ p : Nat) : Int) := Int.natCast_nonneg _
  have h3 : (0 : Rat) ≤ (((10 ^ p : Nat) : Int) : Rat) := by exact_mod_cast this
  grind
 have h3 := Rat.mul_nonneg h1 h2
 have h4 : (0 : Rat) ≤ 1 / 2 := by decide +kernel
 show ((0 : Int) : Rat) ≤ _
 have : ((0 : Int) : Rat) = 0 := rfl
 grind
section
variable {T : Tbl} [CLimb T] [CNat T] [CProd T] [CTwos T] [CQuot T] [CQuotD T] [CDigits T] [CText T] [CWhole T] [CCommon T] [CFrac T] [CFrac2 T] [CStr T] [CSplit T] [CPow T] [CFig T] [CJoin T] [CRow T] [CRow2 T]
theorem frac_floor (x : Fz) (hx : fsz x ≤ 900) : callF T 222 [efz x] = some (ez (fv x).floor) := by
 obtain ⟨y, h0, hv, hs, hp⟩ := frac_parts (T := T) x (by omega)
 have h1 := fsz_a y
 have h2 := fsz_d y
 have hf := whole_floor (T := T) y.1 false y.2.1 y.2.2 (by omega) (by omega)
 rw [if_neg h0] at hf
 have e : (wv y.1 y.2.1).fdiv (wv false y.2.2) = (fv x).floor := by
  rw [← hv]
  unfold fv
  rw [floor_mk _ h0]
  rfl
 rw [e] at hf
 rw [f222 _ rfl, b222]
 generalize (wv y.1 y.2.1).fmod (wv false y.2.2) = R at *
 generalize (fv x).floor = F at *
 simp -implicitDefEqProofs [hp, hf]
theorem frac_half : callF T 206 [.i .i64 1, .i .i64 2] = some (.tup [efz (fz (1 / 2)), .b true]) := by
 have c1 := frac_of (T := T) 1 (by decide) (by decide)
 have c2 := frac_of (T := T) 2 (by decide) (by decide)
 have q1 : ((1 : Int) : Rat) = 1 := rfl
 have q2 : ((2 : Int) : Rat) = 2 := rfl
 rw [q1] at c1
 rw [q2] at c2
 have s2 : sz 2 ≤ 1 := Nat.max_le.2 ⟨ofN_length_le' (by decide), ofN_length_le' (by decide)⟩
 have c3 := frac_quo (T := T) (fz 1) (fz 2) (by rw [fsz_fz, sz_one]; decide) (by rw [fsz_fz]; omega)
 rw [fv_fz, fv_fz, decide_eq_true (show (2 : Rat) ≠ 0 by decide +kernel)] at c3
 rw [f206 _ rfl, b206]
 clear s2 q1 q2
 generalize fz (1 / 2) = H at *
 generalize fz 1 = O at *
 generalize fz 2 = W at *
 simp -implicitDefEqProofs [c1, c2, c3]
theorem p343_eq (n : Nat) (hn : n ≤ 64) : callF T 343 [.s [48], .i .i64 n] = some (.s (List.replicate n 48)) := by
 rw [p343]
 simp only [prim343]
 rw [if_pos ⟨by omega, by omega⟩, Int.toNat_natCast]
theorem fig_round (x : Fz) (hx : fsz x ≤ 100) (n : Int) : callF T 257 [efz x, .i .i64 n] = some (.s (roundQ (fv x) (cap60 n))) := by
 have hp60 := cap60_le n
 have m2 : (if (60 : Int) < (if n < 0 then 0 else n) then (60 : Int) else (if n < 0 then 0 else n)) = (cap60 n : Int) := by unfold cap60; split <;> split at * <;> omega
 generalize cap60 n = p at *
 have c1 := fig_tens (T := T) p hp60
 have ht60 := ten_len hp60
 have c2 := nat_of (T := T) 1 (by decide)
 have c3 := frac_new (T := T) false (ofN (10 ^ p)) (ofN 1) (by omega) (by rw [ofN_one]; decide)
 have w1 : wv false (ofN (10 ^ p)) = ((10 ^ p : Nat) : Int) := by unfold wv sg; simp [val_ofN]
 rw [val_ofN, if_neg (by decide), w1] at c3
 have c4 := frac_half (T := T)
 have c5 := frac_abs (T := T) x (by omega)
 have zq := sz_fv (x := x) (L := 100) hx (by decide)
 have za : sz (absQ (fv x)) ≤ 100 := by rw [sz_abs]; exact zq
 have zm : sz (mkRat ((10 ^ p : Nat) : Int) 1) ≤ 60 := sz_mk (by rw [Int.natAbs_natCast]; exact ht60) (by rw [ofN_one]; decide) (by decide)
 have zh : sz (1 / 2) ≤ 1 := Nat.max_le.2 ⟨ofN_length_le' (by decide +kernel), ofN_length_le' (by decide +kernel)⟩
 have c6 := frac_mul (T := T) (fz (absQ (fv x))) (fz (mkRat ((10 ^ p : Nat) : Int) 1)) (by rw [fsz_fz]; omega) (by rw [fsz_fz]; omega)
 rw [fv_fz, fv_fz] at c6
 have z6 := sz_mul (absQ (fv x)) (mkRat ((10 ^ p : Nat) : Int) 1)
 have c7 := frac_add (T := T) (fz (absQ (fv x) * mkRat ((10 ^ p : Nat) : Int) 1)) (fz (1 / 2)) (by rw [fsz_fz]; omega) (by rw [fsz_fz]; omega)
 rw [fv_fz, fv_fz] at c7
 have z7 := sz_add (absQ (fv x) * mkRat ((10 ^ p : Nat) : Int) 1) (1 / 2)
 have c8 := frac_floor (T := T) (fz (absQ (fv x) * mkRat ((10 ^ p : Nat) : Int) 1 + 1 / 2)) (by rw [fsz_fz]; omega)
 rw [fv_fz] at c8
 obtain ⟨N, hN⟩ : ∃ N, N = rndN (fv x) p := ⟨_, rfl⟩
 have hF : (absQ (fv x) * mkRat ((10 ^ p : Nat) : Int) 1 + 1 / 2).floor = (N : Int) := by
  have := rnd_nonneg (fv x) p
  rw [hN]
  unfold rndN
  omega
 have hNl : (ofN N).length ≤ 200 := by
  have h1 : (N : Int) = (absQ (fv x) * mkRat ((10 ^ p : Nat) : Int) 1 + 1 / 2).num / ((absQ (fv x) * mkRat ((10 ^ p : Nat) : Int) 1 + 1 / 2).den : Int) := by rw [← hF, Rat.floor_def]
  have h2 := sz_num (absQ (fv x) * mkRat ((10 ^ p : Nat) : Int) 1 + 1 / 2)
  have h3 : N ≤ (absQ (fv x) * mkRat ((10 ^ p : Nat) : Int) 1 + 1 / 2).num.natAbs := by
   have h4 := Int.natAbs_ediv_le_natAbs (absQ (fv x) * mkRat ((10 ^ p : Nat) : Int) 1 + 1 / 2).num (absQ (fv x) * mkRat ((10 ^ p : Nat) : Int) 1 + 1 / 2).den
   rw [← h1, Int.natAbs_natCast] at h4
   exact h4
  have := ofN_len_le h3
  omega
 rw [hF] at c8
 have ezN : ez (N : Int) = wh false (ofN N) := by
  unfold ez
  rw [decide_eq_false (by omega), Int.natAbs_natCast]
 rw [ezN] at c8
 have c9 := whole_floor (T := T) false false (ofN N) (ofN (10 ^ p)) (by omega) (by omega)
 have hne : ¬ 10 ^ p = 0 := Nat.ne_of_gt (Nat.pow_pos (by decide))
 have wN : wv false (ofN N) = (N : Int) := by unfold wv sg; simp [val_ofN]
 rw [val_ofN, if_neg hne, wN, w1] at c9
 have hdv : (N : Int).fdiv ((10 ^ p : Nat) : Int) = ((N / 10 ^ p : Nat) : Int) := by
  rw [Int.fdiv_eq_ediv_of_nonneg _ (Int.natCast_nonneg _)]
  rfl
 have hmd : (N : Int).fmod ((10 ^ p : Nat) : Int) = ((N % 10 ^ p : Nat) : Int) := by
  rw [Int.fmod_eq_emod_of_nonneg _ (Int.natCast_nonneg _)]
  rfl
 have ez1 : ∀ k : Nat, ez (k : Int) = wh false (ofN k) := fun k => by
  unfold ez
  rw [decide_eq_false (by omega), Int.natAbs_natCast]
 rw [hdv, hmd, ez1, ez1] at c9
 have lq : (ofN (N / 10 ^ p)).length ≤ 200 := Nat.le_trans (ofN_len_le (Nat.div_le_self _ _)) hNl
 have lr : (ofN (N % 10 ^ p)).length ≤ 200 := Nat.le_trans (ofN_len_le (Nat.mod_le _ _)) hNl
 have c10 := whole_text (T := T) false (ofN (N / 10 ^ p)) (by omega)
 have c11 := whole_text (T := T) false (ofN (N % 10 ^ p)) (by omega)
 have tz : ∀ k : Nat, textZ (wv false (ofN k)) = textN k := fun k => by
  have : wv false (ofN k) = (k : Int) := by unfold wv sg; simp [val_ofN]
  rw [this]
  unfold textZ
  rw [if_neg (by omega), Int.natAbs_natCast]
 rw [tz] at c10 c11
 have tq : (textN (N / 10 ^ p)).length ≤ 10000 := by
  have := textN_words (a := ofN (N / 10 ^ p)) (by omega)
  rwa [val_ofN] at this
 have c12 := frac_sign (T := T) x (by omega)
 have c13 := whole_sign (T := T) false (ofN N) (by omega)
 rw [wN] at c13
 have hsg : sgI (N : Int) = if N = 0 then 0 else 1 := by
  unfold sgI
  split <;> split <;> (try split) <;> omega
 unfold roundQ
 rw [← hN]
 rw [f257 _ rfl, b257]
 clear hF hN hNl ezN zq za zm zh z6 z7 ht60 w1 wN lq lr hdv hmd ez1 tz hne
 generalize fz (absQ (fv x) * mkRat ((10 ^ p : Nat) : Int) 1 + 1 / 2) = X1 at *
 generalize fz (absQ (fv x) * mkRat ((10 ^ p : Nat) : Int) 1) = X2 at *
 generalize fz (mkRat ((10 ^ p : Nat) : Int) 1) = X3 at *
 generalize fz (absQ (fv x)) = X4 at *
 generalize fz (1 / 2) = X5 at *
 have hs1 : (fv x < 0 ∧ N ≠ 0) = (sgQ (fv x) < 0 ∧ sgI (N : Int) ≠ 0) := by
  rw [sgQ_neg, hsg]
  split <;> simp [*]
 simp only [hs1]
 clear hs1 hsg
 by_cases hp0 : 0 < p
 ·have tr : (textN (N % 10 ^ p)).length ≤ p := by
   obtain ⟨k, rfl⟩ : ∃ k, p = k + 1 := ⟨p - 1, by omega⟩
   exact textN_len (Nat.mod_lt _ (Nat.pow_pos (by decide)))
  have c14 := p343_eq (T := T) (p - (textN (N % 10 ^ p)).length) (by omega)
  have w2 : IntKind.wrap .i64 ((p : Int) - ((textN (N % 10 ^ p)).length : Int)) = ((p - (textN (N % 10 ^ p)).length : Nat) : Int) := by
   have : ((p - (textN (N % 10 ^ p)).length : Nat) : Int) = (p : Int) - ((textN (N % 10 ^ p)).length : Int) := by omega
   rw [this]
   exact wrap_i64 _ (by omega)
  have hp0' : (0 : Int) < p := by omega
  rw [if_pos hp0]
  unfold padZ
  generalize ofN (N / 10 ^ p) = A1 at *
  generalize ofN (N % 10 ^ p) = A2 at *
  generalize textN (N / 10 ^ p) = TQ at *
  generalize textN (N % 10 ^ p) = TR at *
  generalize ofN (10 ^ p) = A3 at *
  generalize ofN N = A4 at *
  generalize sgI (N : Int) = SN at *
  generalize sgQ (fv x) = SQ at *
  obtain ⟨K, hK⟩ : ∃ K, K = p - TR.length := ⟨_, rfl⟩
  rw [← hK] at c14 w2 ⊢
  have l0 : K + TR.length = p := by omega
  have l1 : 1 + K ≤ 9223372036854775807 := by omega
  have l2 : K + 1 + TR.length ≤ 9223372036854775807 := by omega
  have l3 : TQ.length + (K + TR.length + 1) ≤ 9223372036854775807 := by omega
  have l4 : 1 + (TQ.length + (K + TR.length + 1)) ≤ 9223372036854775807 := by omega
  have l5 : K + 1 + TR.length = K + TR.length + 1 := by omega
  clear hK
  by_cases hA : SQ < 0
  ·by_cases hB : SN = 0
   ·simp -implicitDefEqProofs [mm2, m2, c1, c2, c3, c4, c5, c6, c7, c8, c9, c10, c11, c12, c13, c14, w2, l1, l2, l3, l4, hp0, hp0', hA, hB]
   ·simp -implicitDefEqProofs [mm2, m2, c1, c2, c3, c4, c5, c6, c7, c8, c9, c10, c11, c12, c13, c14, w2, l1, l2, l3, l4, hp0, hp0', hA, hB]
  ·simp -implicitDefEqProofs [mm2, m2, c1, c2, c3, c4, c5, c6, c7, c8, c9, c10, c11, c12, c13, c14, w2, l1, l2, l3, l4, hp0, hp0', hA]
 ·have hp0' : ¬ (0 : Int) < p := by omega
  rw [if_neg hp0]
  generalize ofN (N / 10 ^ p) = A1 at *
  generalize ofN (N % 10 ^ p) = A2 at *
  generalize textN (N / 10 ^ p) = TQ at *
  generalize textN (N % 10 ^ p) = TR at *
  generalize ofN (10 ^ p) = A3 at *
  generalize ofN N = A4 at *
  generalize sgI (N : Int) = SN at *
  generalize sgQ (fv x) = SQ at *
  have l6 : 1 + TQ.length ≤ 9223372036854775807 := by omega
  by_cases hA : SQ < 0
  ·by_cases hB : SN = 0
   ·simp -implicitDefEqProofs [mm2, m2, c1, c2, c3, c4, c5, c6, c7, c8, c9, c10, c12, c13, l6, hp0, hp0', hA, hB]
   ·simp -implicitDefEqProofs [mm2, m2, c1, c2, c3, c4, c5, c6, c7, c8, c9, c10, c12, c13, l6, hp0, hp0', hA, hB]
  ·simp -implicitDefEqProofs [mm2, m2, c1, c2, c3, c4, c5, c6, c7, c8, c9, c10, c12, c13, l6, hp0, hp0', hA]
end
end Go.Ab
end

section
namespace Go.Ab
end Go.Ab
end

section
namespace Go.Ab
def digP : Nat → Nat → List UInt8
 | 0, _ => []
 | p + 1, n => digP p (n / 10) ++ [UInt8.ofNat (48 + n % 10)]
theorem digP_len : ∀ p n, (digP p n).length = p
 | 0, _ => rfl
 | p + 1, n => by simp [digP, digP_len p]
theorem textN_zero : textN 0 = [48] := by rw [textN_small (by decide)]; rfl
theorem pad_step (p n : Nat) (hp : 1 ≤ p) : padZ (p + 1) (textN n) = padZ p (textN (n / 10)) ++ [UInt8.ofNat (48 + n % 10)] := by
 by_cases h : n < 10
 ·have e : n / 10 = 0 := by omega
  have e2 : n % 10 = n := by omega
  rw [e, e2, textN_small h, textN_zero]
  unfold padZ
  simp only [List.length_cons, List.length_nil]
  obtain ⟨k, rfl⟩ : ∃ k, p = k + 1 := ⟨p - 1, by omega⟩
  simp only [Nat.zero_add, Nat.add_sub_cancel]
  rw [List.replicate_succ']
 ·rw [textN_big h]
  unfold padZ
  rw [List.length_append, List.length_singleton, Nat.add_sub_add_right, List.append_assoc]
theorem pad_digP : ∀ p m, m < 10 ^ (p + 1) → padZ (p + 1) (textN m) = digP (p + 1) m
 | 0, m, h => by
  have hm : m < 10 := by simpa using h
  rw [textN_small hm]
  have e : m % 10 = m := by omega
  simp [padZ, digP, e]
 | p + 1, m, h => by
  rw [pad_step (p + 1) m (by omega), pad_digP p (m / 10) (by rw [Nat.pow_succ] at h; omega)]
  rfl
theorem pad_cut : ∀ p n, padZ (p + 1) (textN n) = textN (n / 10 ^ p) ++ digP p (n % 10 ^ p)
 | 0, n => by
  have h : 1 ≤ (textN n).length := by
   have := textN_ne n
   cases hl : textN n with
   | nil => exact absurd hl this
   | cons a l => simp
  unfold padZ
  rw [Nat.zero_add, show 1 - (textN n).length = 0 by omega]
  simp [digP]
 | p + 1, n => by
  rw [pad_step (p + 1) n (by omega), pad_cut p (n / 10), List.append_assoc]
  have e1 : n / 10 / 10 ^ p = n / 10 ^ (p + 1) := by rw [Nat.div_div_eq_div_mul, Nat.pow_succ, Nat.mul_comm]
  have e2 : n / 10 % 10 ^ p = n % 10 ^ (p + 1) / 10 := by
   rw [Nat.pow_succ, Nat.mul_comm (10 ^ p), Nat.mod_mul_right_div_self]
  have e3 : n % 10 = n % 10 ^ (p + 1) % 10 := by
   rw [Nat.pow_succ, Nat.mul_comm (10 ^ p), Nat.mod_mul_right_mod]
  rw [e1, e2, e3]
  rfl
theorem pad_split (p n : Nat) : (padZ (p + 1) (textN n)).take ((padZ (p + 1) (textN n)).length - p) = textN (n / 10 ^ p) ∧ (0 < p → (padZ (p + 1) (textN n)).drop ((padZ (p + 1) (textN n)).length - p) = padZ p (textN (n % 10 ^ p))) ∧ p + 1 ≤ (padZ (p + 1) (textN n)).length := by
 have h := pad_cut p n
 have hl : (padZ (p + 1) (textN n)).length = (textN (n / 10 ^ p)).length + p := by rw [h, List.length_append, digP_len]
 have hne : 1 ≤ (textN (n / 10 ^ p)).length := by
  have := textN_ne (n / 10 ^ p)
  cases hl : textN (n / 10 ^ p) with
  | nil => exact absurd hl this
  | cons a l => simp
 rw [hl, Nat.add_sub_cancel, h]
 refine ⟨by rw [List.take_append_of_le_length (Nat.le_refl _), List.take_length], fun hp => ?_, by omega⟩
 rw [List.drop_append_of_le_length (Nat.le_refl _), List.drop_length, List.nil_append]
 obtain ⟨k, rfl⟩ : ∃ k, p = k + 1 := ⟨p - 1, by omega⟩
 exact (pad_digP k _ (Nat.mod_lt _ (Nat.pow_pos (by decide)))).symm
end Go.Ab
end

section
namespace Go.Ab
theorem half_mk (N T D : Nat) (hD : D ≠ 0) : mkRat ((N * T * 2 + D : Nat) : Int) (D * 2) = mkRat (N : Int) D * mkRat (T : Int) 1 + 1 / 2 := by
 rw [Rat.mkRat_eq_div, Rat.mkRat_eq_div, Rat.mkRat_eq_div]
 have h1 : (((N * T * 2 + D : Nat) : Int) : Rat) = (N : Rat) * (T : Rat) * 2 + (D : Rat) := by
  have : (((N * T * 2 + D : Nat) : Int) : Rat) = ((N * T * 2 + D : Nat) : Rat) := rfl
  rw [this, Rat.natCast_add, Rat.natCast_mul, Rat.natCast_mul]
  rfl
 have h2 : ((D * 2 : Nat) : Rat) = (D : Rat) * 2 := by
  rw [Rat.natCast_mul]
  rfl
 have h3 : ((D : Nat) : Rat) ≠ 0 := fun h => hD (by exact_mod_cast h)
 have h4 : (((N : Nat) : Int) : Rat) = (N : Rat) := rfl
 have h5 : (((T : Nat) : Int) : Rat) = (T : Rat) := rfl
 rw [h1, h2, h4, h5]
 have h6 : ((1 : Nat) : Rat) = 1 := rfl
 rw [h6]
 grind
section
variable {T : Tbl} [CRef02 T] [CRef04 T] [CRef05 T] [CRef07 T] [CRef06 T] [CRef08 T] [CRef09 T] [CRef10 T]
def stRo (q : Rat) (N p : Nat) (k : Nat) : St :=
 ⟨[(1, .i .i64 p), (2, .ptr (.loc 2) 1 3 0 0), (6, .ptr (.loc 6) 2 2 0 0), (7, .s (List.replicate k 48 ++ textN N))],
  [(.loc 2, ⟨1, .str, 3, [celF (fz q)]⟩), (.loc 6, ⟨2, .str, 2, [[.b false, .sl (u32s (ofN N)) .an]]⟩)], 4⟩
theorem rnd_loop (q : Rat) (N p : Nat) (hp : p ≤ 60) (hN : (textN N).length ≤ 100000) : ∀ k : Nat, k ≤ p + 1 - (textN N).length →
  loopN T 0 0 (.norm false [1, 2, 6, 7]) l262_0 (stRo q N p k) = some (.n, stRo q N p (p + 1 - (textN N).length)) := by
 refine loopN_eq (stRo q N p) _ (fun k => p + 1 - (textN N).length - k) _ ?_
 intro k hk
 have hl : (List.replicate k (48 : UInt8) ++ textN N).length = k + (textN N).length := by simp
 by_cases h0 : k + (textN N).length ≤ p
 ·left
  have h0' : (k : Int) + (textN N).length ≤ p := by omega
  have e : (48 : UInt8) :: (List.replicate k 48 ++ textN N) = List.replicate (k + 1) 48 ++ textN N := by rw [List.replicate_succ]; rfl
  have hb : 1 + (k + (textN N).length) ≤ 9223372036854775807 := by omega
  have hb2 : k + (textN N).length + 1 ≤ 9223372036854775807 := by omega
  refine ⟨k + 1, by omega, by omega, ?_, rfl⟩
  unfold stRo
  rw [← e]
  clear e
  generalize List.replicate k (48 : UInt8) ++ textN N = S at *
  generalize (textN N).length = tl at *
  generalize fz q = Q at *
  generalize ofN N = A at *
  simp -implicitDefEqProofs [l262_0, hl, h0, h0', hb, hb2]
 ·right
  have hk2 : k = p + 1 - (textN N).length := by omega
  have h0' : ¬ (k : Int) + (textN N).length ≤ p := by omega
  rw [← hk2]
  unfold stRo
  clear hk2 hk
  generalize List.replicate k (48 : UInt8) ++ textN N = S at *
  generalize (textN N).length = tl at *
  generalize fz q = Q at *
  generalize ofN N = A at *
  constructor <;> simp -implicitDefEqProofs [l262_0, hl, h0, h0']
theorem ref10_round (hF : ∀ r : Rat, sz r ≤ 200 → 0 ≤ r.floor → callF T 246 [efz (fz r)] = some (ez r.floor)) (q : Rat) (hq : sz q ≤ 20) (n : Int) :
  callF T 262 [efz (fz q), .i .i64 n] = some (.s (roundQ q (cap60 n))) := by
 have hp60 := cap60_le n
 have m2 : (if (60 : Int) < (if n < 0 then 0 else n) then (60 : Int) else (if n < 0 then 0 else n)) = (cap60 n : Int) := by unfold cap60; split <;> split at * <;> omega
 generalize cap60 n = p at *
 have zn := sz_num q
 have zd := sz_den q
 have ht60 := ten_len hp60
 have c1 := ref10_tens (T := T) p hp60
 have c2 := ref04_mul (T := T) (ofN q.num.natAbs) (ofN (10 ^ p)) (by omega) (by omega)
 rw [val_ofN, val_ofN] at c2
 have z2 := nat_mul_len (x := q.num.natAbs) (y := 10 ^ p) (L := 20) (M := 60) (by omega) ht60
 have v2 : val [w32 2] = 2 := by decide
 have e2 : u32s [w32 2] = [[u32 2]] := rfl
 have c3 := ref04_mul (T := T) (ofN (q.num.natAbs * 10 ^ p)) [w32 2] (by omega) (by simp)
 rw [val_ofN, v2, e2] at c3
 have z3 := nat_mul_len (x := q.num.natAbs * 10 ^ p) (y := 2) (L := 80) (M := 1) (by omega) (ofN_length_le' (by decide))
 have c4 := ref02_add (T := T) (ofN (q.num.natAbs * 10 ^ p * 2)) (ofN q.den) (by omega) (by omega)
 rw [val_ofN, val_ofN] at c4
 have z4 := abs_add_len (x := ((q.num.natAbs * 10 ^ p * 2 : Nat) : Int)) (y := ((q.den : Nat) : Int)) (L := 81) (by rw [Int.natAbs_natCast]; omega) (by rw [Int.natAbs_natCast]; omega)
 rw [← Int.natCast_add, Int.natAbs_natCast] at z4
 have c5 := ref04_mul (T := T) (ofN q.den) [w32 2] (by omega) (by simp)
 rw [val_ofN, v2, e2] at c5
 have z5 := nat_mul_len (x := q.den) (y := 2) (L := 20) (M := 1) (by omega) (ofN_length_le' (by decide))
 have c6 := ref09_norm (T := T) (false, ofN (q.num.natAbs * 10 ^ p * 2 + q.den), ofN (q.den * 2)) (by
  refine Nat.max_le.2 ⟨?_, ?_⟩ <;> simp only <;> omega)
 have ev : fv (false, ofN (q.num.natAbs * 10 ^ p * 2 + q.den), ofN (q.den * 2)) = absQ q * mkRat ((10 ^ p : Nat) : Int) 1 + 1 / 2 := by
  show mkRat (wv false (ofN (q.num.natAbs * 10 ^ p * 2 + q.den))) (val (ofN (q.den * 2))) = _
  have w1 : wv false (ofN (q.num.natAbs * 10 ^ p * 2 + q.den)) = ((q.num.natAbs * 10 ^ p * 2 + q.den : Nat) : Int) := by unfold wv sg; simp only [val_ofN, Bool.false_eq_true, if_false]
  rw [w1, val_ofN, half_mk _ _ _ q.den_nz]
  congr 2
  have ha := fz_abs q
  have h1 := congrArg fv ha
  rw [fv_fz] at h1
  rw [h1]
  show _ = mkRat (wv false (ofN q.num.natAbs)) (val (ofN q.den))
  have w2 : wv false (ofN q.num.natAbs) = ((q.num.natAbs : Nat) : Int) := by unfold wv sg; simp only [val_ofN, Bool.false_eq_true, if_false]
  rw [w2, val_ofN]
 rw [ev] at c6
 have z6 : sz (absQ q * mkRat ((10 ^ p : Nat) : Int) 1 + 1 / 2) ≤ 200 := by
  rw [← ev]
  refine sz_fv (L := 200) ?_ (by decide)
  refine Nat.max_le.2 ⟨?_, ?_⟩ <;> simp only <;> omega
 have hnn := rnd_nonneg q p
 have c7 := hF _ z6 hnn
 obtain ⟨N, hN⟩ : ∃ N, N = rndN q p := ⟨_, rfl⟩
 have hFl : (absQ q * mkRat ((10 ^ p : Nat) : Int) 1 + 1 / 2).floor = (N : Int) := by
  rw [hN]
  unfold rndN
  omega
 have hNl : (ofN N).length ≤ 200 := by
  have h1 : (N : Int) = (absQ q * mkRat ((10 ^ p : Nat) : Int) 1 + 1 / 2).num / ((absQ q * mkRat ((10 ^ p : Nat) : Int) 1 + 1 / 2).den : Int) := by rw [← hFl, Rat.floor_def]
  have h2 := sz_num (absQ q * mkRat ((10 ^ p : Nat) : Int) 1 + 1 / 2)
  have h3 : N ≤ (absQ q * mkRat ((10 ^ p : Nat) : Int) 1 + 1 / 2).num.natAbs := by
   have h4 := Int.natAbs_ediv_le_natAbs (absQ q * mkRat ((10 ^ p : Nat) : Int) 1 + 1 / 2).num (absQ q * mkRat ((10 ^ p : Nat) : Int) 1 + 1 / 2).den
   rw [← h1, Int.natAbs_natCast] at h4
   exact h4
  have := ofN_len_le h3
  omega
 rw [hFl] at c7
 have ezN : ez (N : Int) = .agg [.b false, .sl (u32s (ofN N)) .an] := by
  show wh _ _ = _
  rw [decide_eq_false (by omega), Int.natAbs_natCast]
 rw [ezN] at c7
 have c8 := ref07_text (T := T) (ofN N) (by omega)
 rw [val_ofN] at c8
 have tN : (textN N).length ≤ 10000 := by
  have := textN_words (a := ofN N) (by omega)
  rwa [val_ofN] at this
 have lp := rnd_loop (T := T) q N p hp60 (by omega) 0 (Nat.zero_le _)
 obtain ⟨s1, s2, s3⟩ := pad_split p N
 have hpad : List.replicate (p + 1 - (textN N).length) (48 : UInt8) ++ textN N = padZ (p + 1) (textN N) := rfl
 have hsl : (padZ (p + 1) (textN N)).length ≤ 10100 := by
  rw [← hpad]
  simp
  omega
 unfold stRo at lp
 rw [hpad] at lp
 simp only [List.replicate_zero, List.nil_append] at lp
 unfold roundQ
 rw [← hN]
 have e' : fz q = (decide (q.num < 0), ofN q.num.natAbs, ofN q.den) := rfl
 rw [e'] at lp ⊢
 have hneg : (q < 0) ↔ q.num < 0 := ⟨fun h => sgI_neg.1 (sgQ_neg.2 h), fun h => sgQ_neg.1 (sgI_neg.2 h)⟩
 have hlen0 : ((ofN N).length = 0) ↔ N = 0 := by
  constructor
  ·intro h
   have := congrArg val (List.eq_nil_of_length_eq_zero h)
   rw [val_ofN] at this
   exact this
  ·intro h
   rw [h, ofN_zero]
   rfl
 rw [f262 _ rfl, b262]
 generalize padZ (p + 1) (textN N) = S at *
 obtain ⟨K, hK⟩ : ∃ K, K = S.length - p := ⟨_, rfl⟩
 have q2 : IntKind.wrap .i64 ((S.length : Int) - (p : Int)) = (K : Int) := by
  have : (K : Int) = (S.length : Int) - p := by omega
  rw [this]
  exact wrap_i64 _ (by omega)
 have q3 : (K : Int) ≤ S.length := by omega
 have q4 : K ≤ S.length := by omega
 rw [← hK] at s1 s2
 have tq : (textN (N / 10 ^ p)).length ≤ 10100 := by
  rw [← s1, List.length_take]
  omega
 have hTS : List.take S.length S = S := List.take_length
 clear hF ev hFl hN hNl ezN tN zn zd ht60 z2 z3 z4 z5 z6 hnn hp60 hpad e' hq v2 e2
 generalize fz (absQ q * mkRat ((10 ^ p : Nat) : Int) 1 + 1 / 2) = X1 at *
 generalize ofN (q.num.natAbs * 10 ^ p * 2 + q.den) = A1 at *
 generalize ofN (q.num.natAbs * 10 ^ p * 2) = A2 at *
 generalize ofN (q.num.natAbs * 10 ^ p) = A3 at *
 generalize ofN (q.den * 2) = A4 at *
 generalize ofN q.num.natAbs = A5 at *
 generalize ofN q.den = A6 at *
 generalize ofN (10 ^ p) = A7 at *
 have l0 : ¬ N = 0 → (0 : Int) < (ofN N).length ∧ 0 < (ofN N).length := fun h => by
  have : ¬ (ofN N).length = 0 := fun h2 => h (hlen0.1 h2)
  omega
 have l1 : N = 0 → (ofN N).length = 0 := hlen0.2
 generalize textN (N / 10 ^ p) = TQ at *
 generalize textN N = TN at *
 by_cases hp0 : 0 < p
 ·have hp0' : (0 : Int) < p := by omega
  have s2' := s2 hp0
  have tr : (padZ p (textN (N % 10 ^ p))).length ≤ 10100 := by
   rw [← s2', List.length_drop]
   omega
  rw [if_pos hp0]
  generalize padZ p (textN (N % 10 ^ p)) = TR at *
  have b1 : TQ.length + 1 ≤ 9223372036854775807 := by omega
  have b2 : TQ.length + (TR.length + 1) ≤ 9223372036854775807 := by omega
  have b3 : TQ.length + 1 + TR.length ≤ 9223372036854775807 := by omega
  have b4 : 1 + (TQ.length + (TR.length + 1)) ≤ 9223372036854775807 := by omega
  have b5 : TQ.length + (TR.length + 1) + 1 ≤ 9223372036854775807 := by omega
  by_cases hz : N = 0
  ·have l1' := l1 hz
   have hno : ¬ (q < 0 ∧ N ≠ 0) := fun h => h.2 hz
   rw [if_neg hno]
   clear hno hneg l0 l1 hz hlen0
   generalize ofN N = A8 at *
   generalize decide (q.num < 0) = B at *
   cases B <;> simp -implicitDefEqProofs [c1, c2, c3, c4, c5, c6, c7, c8, m2, lp, q2, q3, q4, s1, s2', hTS, hp0, hp0', b1, b2, b3, b4, b5, l1']
  ·obtain ⟨l2, l3⟩ := l0 hz
   by_cases hq0 : q.num < 0
   ·have hyes : q < 0 ∧ N ≠ 0 := ⟨hneg.2 hq0, hz⟩
    rw [if_pos hyes]
    rw [decide_eq_true hq0] at lp ⊢
    clear hyes hneg l0 l1 hlen0
    generalize ofN N = A8 at *
    simp -implicitDefEqProofs [c1, c2, c3, c4, c5, c6, c7, c8, m2, lp, q2, q3, q4, s1, s2', hTS, hp0, hp0', b1, b2, b3, b4, b5, l2, l3]
   ·have hno : ¬ (q < 0 ∧ N ≠ 0) := fun h => hq0 (hneg.1 h.1)
    rw [if_neg hno]
    rw [decide_eq_false hq0] at lp ⊢
    clear hno hneg l0 l1 hlen0
    generalize ofN N = A8 at *
    simp -implicitDefEqProofs [c1, c2, c3, c4, c5, c6, c7, c8, m2, lp, q2, q3, q4, s1, s2', hTS, hp0, hp0', b1, b2, b3, b4, b5, l2, l3]
 ·have hp1 : p = 0 := by omega
  have hp0' : ¬ (0 : Int) < p := by omega
  have hK0 : K = S.length := by omega
  rw [hK0, List.take_length] at s1
  subst s1
  rw [if_neg hp0, List.append_nil]
  have b1 : S.length + 1 ≤ 9223372036854775807 := by omega
  have b2 : 1 + S.length ≤ 9223372036854775807 := by omega
  have b3 : S.length ≤ 9223372036854775807 := by omega
  by_cases hz : N = 0
  ·have l1' := l1 hz
   have hno : ¬ (q < 0 ∧ N ≠ 0) := fun h => h.2 hz
   rw [if_neg hno]
   clear hno hneg l0 l1 hz hlen0
   generalize ofN N = A8 at *
   generalize decide (q.num < 0) = B at *
   cases B <;> simp -implicitDefEqProofs [c1, c2, c3, c4, c5, c6, c7, c8, m2, lp, hp0, hp0', b1, b2, b3, l1']
  ·obtain ⟨l2, l3⟩ := l0 hz
   by_cases hq0 : q.num < 0
   ·have hyes : q < 0 ∧ N ≠ 0 := ⟨hneg.2 hq0, hz⟩
    rw [if_pos hyes]
    rw [decide_eq_true hq0] at lp ⊢
    clear hyes hneg l0 l1 hlen0
    generalize ofN N = A8 at *
    simp -implicitDefEqProofs [c1, c2, c3, c4, c5, c6, c7, c8, m2, lp, hp0, hp0', b1, b2, b3, l2, l3]
   ·have hno : ¬ (q < 0 ∧ N ≠ 0) := fun h => hq0 (hneg.1 h.1)
    rw [if_neg hno]
    rw [decide_eq_false hq0] at lp ⊢
    clear hno hneg l0 l1 hlen0
    generalize ofN N = A8 at *
    simp -implicitDefEqProofs [c1, c2, c3, c4, c5, c6, c7, c8, m2, lp, hp0, hp0', b1, b2, b3, l2, l3]
end
end Go.Ab
end

section
namespace Go.Ab
end Go.Ab
end

section
namespace Go.Ab
theorem textN_one {n : Nat} (h : n < 10) : textN n = [UInt8.ofNat (48 + n)] := textN_small h
section
variable {T : Tbl} [CLimb T] [CNat T] [CProd T] [CTwos T] [CQuot T] [CQuotD T] [CDigits T] [CText T] [CWhole T] [CCommon T] [CFrac T] [CFrac2 T] [CStr T] [CSplit T] [CPow T] [CFig T] [CJoin T] [CRow T] [CRow2 T] [CLaw10 T]
theorem law10_works : callF T 333 [] = some (.b true) := by
 have a1 := fig_readT (T := T) [45, 49, 46, 50, 53] (by decide)
 have a2 := fig_readT (T := T) [49, 47, 48] (by decide)
 have e1 : figR [45, 49, 46, 50, 53] = (-5/4, 0, 0) := by decide +kernel
 have e2 : figR [49, 47, 48] = (0, 2, 2) := by decide +kernel
 rw [e1] at a1
 rw [e2] at a2
 have s1 : sz (-5/4) ≤ 1 := szle1 (by decide +kernel) (by decide +kernel)
 have t1 := figure_text (T := T) (fz (-5/4)) (by rw [fsz_fz]; omega)
 have r1 := fig_round (T := T) (fz (-5/4)) (by rw [fsz_fz]; omega) 1
 rw [fv_fz] at t1 r1
 have w1 : textQ (-5/4) = [45, 53, 47, 52] := by
  unfold textQ textZ
  rw [if_neg (by decide +kernel), if_pos (by decide +kernel), show (-5/4 : Rat).num.natAbs = 5 by decide +kernel, show (-5/4 : Rat).den = 4 by decide +kernel, textN_one (by decide), textN_one (by decide)]
  rfl
 have w2 : roundQ (-5/4) (cap60 1) = [45, 49, 46, 51] := by
  have c : cap60 1 = 1 := by decide
  have rn : rndN (-5/4) 1 = 13 := by decide +kernel
  rw [c]
  unfold roundQ
  rw [rn, if_pos (by decide +kernel), if_pos (by decide), show 13 / 10 ^ 1 = 1 by decide, show 13 % 10 ^ 1 = 3 by decide, textN_one (by decide), textN_one (by decide)]
  rfl
 rw [w1] at t1
 rw [w2] at r1
 clear e1 e2 s1 w1 w2
 generalize fz (-5/4) = A at *
 generalize fz 0 = B at *
 rw [f333 _ rfl, b333]
 simp -implicitDefEqProofs [a1, a2, t1, r1]
end
end Go.Ab
end

section
namespace Go.Ab
section
variable {T : Tbl} [CRef02 T] [CRef04 T] [CRef05 T] [CRef08 T] [CRef09 T]
theorem ref09_floor (r : Rat) (hr : sz r ≤ 900) : callF T 246 [efz (fz r)] = some (ez r.floor) := by
 have h1 := sz_num r
 have h2 := sz_den r
 have f := ref08_floor (T := T) (decide (r.num < 0)) false (ofN r.num.natAbs) (ofN r.den) (by omega) (by omega) (by rw [val_ofN]; exact r.den_nz)
 have ew : wv false (ofN r.den) = (r.den : Int) := by
  unfold wv sg
  simp [val_ofN]
 rw [wv_ez, ew, Int.fdiv_eq_ediv_of_nonneg _ (Int.natCast_nonneg _), ← Rat.floor_def] at f
 have up : callF T 234 [efz (fz r)] = some (wh (decide (r.num < 0)) (ofN r.num.natAbs)) := by
  show callF T 234 [.agg [.b (decide (r.num < 0)), .sl (u32s (ofN r.num.natAbs)) .an, .sl (u32s (ofN r.den)) .an]] = _
  generalize ofN r.num.natAbs = A at *
  generalize ofN r.den = D at *
  generalize decide (r.num < 0) = N at *
  clear f
  rw [f234 _ rfl, b234]
  simp -implicitDefEqProofs
 change callF T 234 [.agg [.b (decide (r.num < 0)), .sl (u32s (ofN r.num.natAbs)) .an, .sl (u32s (ofN r.den)) .an]] = _ at up
 show callF T 246 [.agg [.b (decide (r.num < 0)), .sl (u32s (ofN r.num.natAbs)) .an, .sl (u32s (ofN r.den)) .an]] = _
 generalize ofN r.num.natAbs = A at *
 generalize ofN r.den = D at *
 generalize decide (r.num < 0) = N at *
 generalize ofN r.floor.natAbs = Q at *
 generalize decide (r.floor < 0) = QN at *
 generalize (r.num).fmod r.den = L at *
 rw [f246 _ rfl, b246]
 simp -implicitDefEqProofs [up, f]
end
section
variable {T : Tbl} [CLimb T] [CNat T] [CProd T] [CTwos T] [CQuot T] [CQuotD T] [CDigits T] [CText T] [CWhole T] [CCommon T] [CFrac T] [CFrac2 T] [CStr T] [CSplit T] [CPow T] [CFig T] [CJoin T] [CRow T] [CRow2 T] [CRef02 T] [CRef04 T] [CRef05 T] [CRef07 T] [CRef06 T] [CRef08 T] [CRef09 T] [CRef10 T] [CRef11 T] [CRef11b T] [CLaw09 T] [CLaw11 T] [CLaw10 T]
theorem law10_writes (a : Fz) (n : Int) : callF T 317 [efz a, .i .i64 n] = some (.b true) := by
 have hw := law10_works (T := T)
 have cl := ref09_long (T := T) a 20
 simp only [Int.cast_ofNat_Int] at cl
 rw [f317 _ rfl, b317]
 by_cases hL : 20 < fsz a
 ·rw [decide_eq_true hL] at cl
  simp -implicitDefEqProofs [hw, cl]
 rw [decide_eq_false hL] at cl
 have t1 := law09_to (T := T) a
 have n1 := ref09_norm (T := T) a (by omega)
 have zq := sz_fv (x := a) (L := 20) (by omega) (by decide)
 have tx := figure_text (T := T) a (by omega)
 have rx := fig_round (T := T) a (by omega) n
 have tr := ref10_text (T := T) (fv a) zq
 have rr := ref10_round (T := T) (fun r hr _ => ref09_floor r (by omega)) (fv a) zq n
 generalize textQ (fv a) = S1 at *
 generalize roundQ (fv a) (cap60 n) = S2 at *
 generalize fz (fv a) = X at *
 simp -implicitDefEqProofs [hw, cl, t1, n1, tx, rx, tr, rr]
end
end Go.Ab
end
