/-
  A calculus of values, boxes and code, and what functions of the program compute, proved in it.
  Conditions: none beyond those that the theorems state. (Part 5: GpQuotD, Nm4, GcDigits, GpDigits, GcText, GcTrim, GpTrim, AxWp, TxHalf, GcRef07, GpRef07, Nm5, GcWhole, GpWhole, GcRef08, GpRef08, GcLaw08.)
-/
import Derived.Test.YtlohcgjleoibpaaDoorPart4

set_option linter.unusedSectionVars false
set_option linter.unusedVariables false
set_option linter.unusedSimpArgs false
set_option linter.unnecessarySimpa false

section
/-
  The quotient and what is left: what layer 5 computes.
-/
namespace Go.Ab

theorem lt_blen (x : Nat) : x < 2 ^ blen x := by
  unfold blen
  split
  · subst x; decide
  · exact Nat.lt_log2_self
theorem blen_le {x : Nat} (h : x < 4294967296) : blen x ≤ 32 := by
  unfold blen
  split
  · omega
  · rename_i h0
    have := (Nat.log2_lt h0 (k := 32)).2 (by simpa using h)
    omega
theorem ofN_ge {n k : Nat} (h : (ofN n).length = k + 1) : 4294967296 ^ k ≤ n := by
  rcases Nat.lt_or_ge n (4294967296 ^ k) with h1 | h1
  · have := ofN_length_le' h1
    omega
  · exact h1

theorem up_len {b : List UInt32} {nb : Nat} (h : b.length = nb + 2) (hb : b = ofN (val b)) :
    (ofN (val b * 2 ^ (32 - blen (b[nb + 1]'(by omega)).toNat))).length = nb + 2 := by
  have hl := blen_le (u32_lt (b[nb + 1]'(by omega)))
  have hs := lt_blen (b[nb + 1]'(by omega)).toNat
  have h1 : val b = val (b.take (nb + 1)) + 4294967296 ^ (nb + 1) * (b[nb + 1]'(by omega)).toNat := by
    have := val_take_succ (List.getElem?_eq_getElem (show nb + 1 < b.length by omega))
    rwa [val_take_all (by omega)] at this
  have h2 := val_lt (b.take (nb + 1))
  rw [show (b.take (nb + 1)).length = nb + 1 by simp; omega] at h2
  generalize (b[nb + 1]'(by omega)).toNat = t at *
  refine Nat.le_antisymm (ofN_length_le' ?_) ?_
  · have h3 : val b < 4294967296 ^ (nb + 1) * 2 ^ blen t := by
      have : 4294967296 ^ (nb + 1) * (t + 1) ≤ 4294967296 ^ (nb + 1) * 2 ^ blen t := Nat.mul_le_mul_left _ hs
      rw [Nat.mul_add, Nat.mul_one] at this
      omega
    have h4 : 2 ^ blen t * 2 ^ (32 - blen t) = 4294967296 := by
      rw [← Nat.pow_add, show blen t + (32 - blen t) = 32 by omega]
    have h5 := Nat.mul_lt_mul_of_pos_right h3 (Nat.pow_pos (n := 32 - blen t) (show 0 < 2 by decide))
    rw [Nat.mul_assoc, h4, ← Nat.pow_succ] at h5
    exact h5
  · have h3 : val b ≤ val b * 2 ^ (32 - blen t) := Nat.le_mul_of_pos_right _ (Nat.pow_pos (by decide))
    have := ofN_len_le h3
    rw [← hb] at this
    omega

theorem top_pos {b : List UInt32} {nb : Nat} (h : b.length = nb + 2) (hb : b = ofN (val b)) : 0 < (b[nb + 1]'(by omega)).toNat := by
  have h1 : val b = val (b.take (nb + 1)) + 4294967296 ^ (nb + 1) * (b[nb + 1]'(by omega)).toNat := by
    have := val_take_succ (List.getElem?_eq_getElem (show nb + 1 < b.length by omega))
    rwa [val_take_all (by omega)] at this
  have h2 := val_lt (b.take (nb + 1))
  rw [show (b.take (nb + 1)).length = nb + 1 by simp; omega] at h2
  have h3 : 4294967296 ^ (nb + 1) ≤ val b := ofN_ge (by rw [← hb]; omega)
  rcases Nat.eq_zero_or_pos (b[nb + 1]'(by omega)).toNat with h0 | h0
  · rw [h0, Nat.mul_zero] at h1
    omega
  · exact h0

theorem val_snoc0 (l : List UInt32) : val (l ++ [0]) = val l := by rw [val_append]; simp

/-- the window at the top of the shifted number -/
theorem top_lt {A b : List UInt32} {nb L : Nat} (hA : (A ++ [0]).length = L + b.length) (hb : b.length = nb + 2) (hbo : b = ofN (val b)) : val ((A ++ [0]).drop L) < val b := by
  have hl : L ≤ A.length := by simp at hA; omega
  rw [List.drop_append_of_le_length hl, val_snoc0]
  have h1 := val_lt (A.drop L)
  have h2 : (A.drop L).length = nb + 1 := by simp at hA ⊢; omega
  rw [h2] at h1
  exact Nat.lt_of_lt_of_le h1 (ofN_ge (by rw [← hbo]; omega))

section
variable {T : Tbl} [CNat T] [CTwos T] [CProd T] [CQuot T] [CQuotD T]

end
section
variable {T : Tbl} [CNat T] [CQuotD T]
theorem nat_norm_own (a : List UInt32) (hl : a.length ≤ 1000000) : callH T 2071 [.sl (u32s a) .an] [] =
    some (.bs (.fld (.loc 5) 10) 1 1 0 (ofN (val a)).length, [(.fld (.loc 5) 10, ⟨1, .own, 1, u32s (ofN (val a))⟩)]) := by
  have h1 := ofN_length_le a
  have h2 := nat_fresh_own (T := T) (ofN (val a)) 0 (by omega)
  simp only [Int.natCast_zero, Nat.add_zero, List.replicate_zero, List.append_nil] at h2
  rw [f2071 _ _ rfl, b2071]
  simp -implicitDefEqProofs [nat_trim a (by omega), h2]

end
section
variable {T : Tbl} [CNat T] [CTwos T] [CProd T] [CQuot T] [CQuotD T]
end
section
variable {T : Tbl} [CNat T] [CTwos T] [CQuotD T]
end
section
variable {T : Tbl} [CNat T] [CQuotD T]
theorem twos_up_own (a : List UInt32) (n : Nat) (hn : n ≤ 4096) (hl : a.length ≤ 100000) : callH T 2092 [.sl (u32s a) .an, .i .i64 n] [] =
    some (.bs (.fld (.fld (.loc 56) 0) 6010) 1 1 0 (ofN (val a * 2 ^ n)).length, [(.fld (.fld (.loc 56) 0) 6010, ⟨1, .own, 1, u32s (ofN (val a * 2 ^ n))⟩)]) := by
  obtain ⟨_, ⟨c, m, rfl, hm, hc, hv⟩, hr⟩ := up_loop (T := T) (List.replicate (n / 32) 0) a (n % 32) (Nat.mod_lt _ (by decide)) (by simp; omega) (0, 0, []) ⟨Nat.zero_le _, Nat.pow_pos (by decide), rfl, by simp⟩
  have hc32 : c < 4294967296 := Nat.lt_of_lt_of_le hc (by
    have : 2 ^ (n % 32) ≤ 2 ^ 32 := Nat.pow_le_pow_right (by decide) (by omega)
    simpa using this)
  have hval : val (List.replicate (n / 32) 0 ++ (m ++ [w32 c])) = val a * 2 ^ n := by
    rw [val_append, val_replicate, List.length_replicate, val_append, hm]
    simp only [val_cons, val_nil, Nat.mul_zero, Nat.add_zero, w32_of_lt hc32, Nat.zero_add]
    rw [hv, pow32, ← Nat.mul_assoc, ← Nat.pow_add, show 32 * (n / 32) + n % 32 = n by omega, Nat.mul_comm]
  have hlen : (List.replicate (n / 32) 0 ++ (m ++ [w32 c])).length = n / 32 + a.length + 1 := by simp [hm]; omega
  have hnm := nat_norm_own (T := T) (List.replicate (n / 32) 0 ++ (m ++ [w32 c])) (by omega)
  rw [hval] at hnm
  rw [show l92_0 = l2092_0 from rfl] at hr
  unfold stUp at hr
  generalize List.replicate (n / 32) 0 ++ (m ++ [w32 c]) = Q at *
  simp at hr
  have hz : List.replicate (n / 32) (0 : UInt32) ++ w32 0 :: List.replicate a.length 0 = List.replicate (n / 32 + a.length + 1) 0 := by
    have : w32 0 = 0 := rfl
    rw [this, ← List.replicate_succ, List.replicate_append_replicate, Nat.add_assoc]
  rw [hz] at hr
  have hn2 : ¬ (4096 : Int) < (n : Int) := by omega
  have hq : (n : Int).tdiv 32 = (n : Int) / 32 := Int.tdiv_eq_ediv_of_nonneg (by omega)
  have hm2 : (n : Int).tmod 32 = (n : Int) % 32 := Int.tmod_eq_emod_of_nonneg (by omega)
  have w1 : IntKind.wrap .i64 ((n : Int) / 32) = (n : Int) / 32 := wrap_i64 (n / 32) (by omega)
  have w2 : IntKind.wrap .i64 ((n : Int) / 32 + a.length) = (n : Int) / 32 + a.length := wrap_i64 _ (by omega)
  have w3 : IntKind.wrap .i64 ((n : Int) / 32 + a.length + 1) = (n : Int) / 32 + a.length + 1 := wrap_i64 _ (by omega)
  have p1 : (0 : Int) ≤ (n : Int) / 32 + a.length + 1 := by omega
  have p2 : (n : Int) / 32 + a.length + 1 ≤ 4294967296 := by omega
  have p3 : ((n : Int) / 32 + a.length + 1).toNat = n / 32 + a.length + 1 := by omega
  have htk : List.take (n / 32 + a.length + 1) Q = Q := List.take_of_length_le (by omega)
  rw [f2092 _ _ rfl, b2092]
  simp -implicitDefEqProofs [hn2, hq, hm2, w1, w2, w3, p1, p2, p3, hr, hnm, htk, hlen]

end
section
variable {T : Tbl} [CNat T] [CTwos T] [CQuotD T]
end
section
variable {T : Tbl} [CNat T] [CTwos T] [CProd T] [CQuot T] [CQuotD T]
theorem quot_div (a b : List UInt32) (ha : a.length ≤ 10000) (hb : b.length ≤ 10000) : callF T 62 [.sl (u32s a) .an, .sl (u32s b) .an] =
    some (if val b = 0 then .tup [.sl [] .an, .sl [] .an, .b false] else .tup [.sl (u32s (ofN (val a / val b))) .an, .sl (u32s (ofN (val a % val b))) .an, .b true]) := by
  have hnb := nat_norm (T := T) b (by omega)
  have hna := nat_norm (T := T) a (by omega)
  have hlb := ofN_length_le b
  have hla := ofN_length_le a
  have hcmp := nat_cmp (T := T) a (ofN (val b)) (by omega) (by omega)
  rw [val_ofN] at hcmp
  rw [f62 _ rfl, b62]
  by_cases h0 : val b = 0
  · rw [h0] at hnb
    simp -implicitDefEqProofs [hnb, h0]
  · have h0' : ofN (val b) ≠ [] := fun h => h0 (ofN_eq_nil.1 h)
    have hl0 : (ofN (val b)).length ≠ 0 := fun h => h0' (List.eq_nil_of_length_eq_zero h)
    by_cases hlt : val a < val b
    · have hd := Nat.div_eq_of_lt hlt
      have hm := Nat.mod_eq_of_lt hlt
      simp -implicitDefEqProofs [hnb, h0, hl0, hcmp, cmpN_lt, hlt, hna, hd, hm]
    · rcases Nat.lt_or_ge 1 (ofN (val b)).length with h1 | h1
      · obtain ⟨b', hb'⟩ : ∃ b', b' = ofN (val b) := ⟨_, rfl⟩
        have hvb : val b' = val b := by rw [hb', val_ofN]
        have hbo : b' = ofN (val b') := by rw [hvb, hb']
        rw [← hb'] at hnb hcmp hl0 h1 hlb
        obtain ⟨nb, hnbl⟩ : ∃ nb, b'.length = nb + 2 := ⟨b'.length - 2, by omega⟩
        have hll := limb_len (T := T) (b'[nb + 1]'(by omega))
        have hbl := blen_le (u32_lt (b'[nb + 1]'(by omega)))
        have hup := up_len hnbl hbo
        obtain ⟨s, hs⟩ : ∃ s, s = 32 - blen (b'[nb + 1]'(by omega)).toNat := ⟨_, rfl⟩
        obtain ⟨l, hll2⟩ : ∃ l, l = blen (b'[nb + 1]'(by omega)).toNat := ⟨_, rfl⟩
        rw [← hs] at hup
        rw [← hll2] at hll hs hbl
        obtain ⟨B, hB⟩ : ∃ B, B = ofN (val b' * 2 ^ s) := ⟨_, rfl⟩
        obtain ⟨A, hA⟩ : ∃ A, A = ofN (val a * 2 ^ s) := ⟨_, rfl⟩
        have hua := twos_up_own (T := T) a s (by omega) (by omega)
        have hub := twos_up_own (T := T) b' s (by omega) (by omega)
        rw [← hA] at hua
        rw [← hB] at hub hup
        have hBo : B = ofN (val B) := by rw [hB, val_ofN]
        have hvA : val A = val a * 2 ^ s := by rw [hA, val_ofN]
        have hvB : val B = val b' * 2 ^ s := by rw [hB, val_ofN]
        have hAB : B.length ≤ A.length := by
          rw [hA, hB]
          exact ofN_len_le (Nat.mul_le_mul_right _ (by omega))
        have hAl : A.length ≤ a.length + 1 := by
          rw [hA]
          refine ofN_length_le' ?_
          have h2 : 2 ^ s ≤ 2 ^ 32 := Nat.pow_le_pow_right (by decide) (by omega)
          rw [Nat.pow_succ]
          exact Nat.lt_of_le_of_lt (Nat.mul_le_mul_left _ h2) (Nat.mul_lt_mul_of_pos_right (val_lt a) (by decide))
        have hpos := top_pos (hup) hBo
        obtain ⟨Q, R, hQ, hR, hvQ, hvR, hlong⟩ := quot_long (T := T) (A ++ [0]) B (A.length + 1 - B.length) nb hup hpos (by simp; omega) (by simp; omega) (top_lt (by simp; omega) hup hBo)
        rw [val_snoc0, hvA, hvB, hvb, Nat.mul_div_mul_right _ _ (Nat.pow_pos (by decide))] at hvQ
        rw [val_snoc0, hvA, hvB, hvb, Nat.mul_mod_mul_right] at hvR
        have hnq := nat_norm (T := T) Q (by omega)
        have hAl1 : (A ++ [(0 : UInt32)]).length = A.length + 1 := by simp
        rw [hAl1] at hlong hR
        have hdn := twos_down (T := T) R s (by omega) (by omega)
        rw [hvR, Nat.mul_div_cancel _ (Nat.pow_pos (by decide))] at hdn
        rw [hvQ] at hnq
        obtain ⟨q1, hq1⟩ : ∃ p, p = nb + 1 := ⟨_, rfl⟩
        have c1 : q1 < b'.length := by omega
        have hwt : b'[nb + 1]'(by omega) = b'[q1]'c1 := get_eq (by omega) _ _
        rw [hwt] at hll
        have w1 : IntKind.wrap .i64 ((b'.length : Int) - 1) = (q1 : Int) := by rw [wrap_i64 _ (by omega)]; omega
        have w2 : IntKind.wrap .i64 (32 - (l : Int)) = (s : Int) := by rw [wrap_i64 _ (by omega)]; omega
        have c3 : A.length ≤ 4294967295 := by omega
        have c4 : w32 0 = 0 := rfl
        have c5 : A.length + 1 ≤ A.length + 1 - B.length + B.length := by omega
        have c2 : ¬ ((b'.length : Int) = 1) := by omega
        have t1 : List.take (A.length + 1) R = R := List.take_of_length_le (by omega)
        have t2 : List.take (A.length + 1 - B.length) Q = Q := List.take_of_length_le (by omega)
        simp -implicitDefEqProofs [hnb, h0, hl0, hcmp, cmpN_lt, hlt, w1, w2, c1, c2, c3, c4, c5, hll, hua, hub, hlong, hnq, hdn, t1, t2, hQ, hR]
      · have hl1 : (ofN (val b)).length = 1 := by omega
        obtain ⟨w, hw⟩ := List.length_eq_one_iff.1 hl1
        have hvb : val b = w.toNat := by
          have := val_ofN (val b)
          rw [hw] at this
          simp at this
          omega
        have hwl := u32_lt w
        have hwd := quot_word (T := T) a (val b) (by omega) (by omega) (by omega)
        have hof := nat_of (T := T) (val a % val b) (by have := Nat.mod_lt (val a) (show 0 < val b by omega); omega)
        have m1 : val a % val b % 18446744073709551616 = val a % val b := Nat.mod_eq_of_lt (by have := Nat.mod_lt (val a) (show 0 < val b by omega); omega)
        rw [hw] at hnb hcmp
        rw [← hvb] at hwl
        simp -implicitDefEqProofs [hnb, h0, hcmp, cmpN_lt, hlt, hwd, ← hvb, hof, m1]
end
end Go.Ab
end

section
/-
  Decimal digits of naturals, and what digits.Text is known to answer.
-/
namespace Go.Ab

/-- the digits of a number, the last one first -/
def digs (n : Nat) : List UInt8 := if h : n < 10 then [UInt8.ofNat (48 + n)] else UInt8.ofNat (48 + n % 10) :: digs (n / 10)
termination_by n
decreasing_by omega

/-- a number as a text -/
def textN (n : Nat) : List UInt8 := (digs n).reverse

def wordOf : List AV → Option UInt32
  | [.i .u32 n] => if 0 ≤ n ∧ n < 4294967296 then some (w32 n.toNat) else none
  | _ => none

def prim68 : List AV → Option AV
  | [.sl els .an] => if els.length ≤ 1000 then (els.mapM wordOf).map fun l => .s (textN (val l)) else none
  | _ => none

theorem wordOf_u32 (l : List UInt32) : (u32s l).mapM wordOf = some l := by
  induction l with
  | nil => rfl
  | cons x l ih =>
    have hx := u32_lt x
    have h1 : wordOf [u32 x.toNat] = some x := by
      unfold wordOf u32
      simp only
      rw [if_pos ⟨by omega, by omega⟩]
      simp
    have e : u32s (x :: l) = [u32 x.toNat] :: u32s l := rfl
    rw [e, List.mapM_cons, h1, ih]
    rfl

theorem prim68_eq (a : List UInt32) (h : a.length ≤ 1000) : prim68 [.sl (u32s a) .an] = some (.s (textN (val a))) := by
  unfold prim68
  simp only [u32s_length, h, if_true, wordOf_u32, Option.map_some]

/-- the place at which a text can't be read as digits; below 0: there is none -/
def wrAt : Nat → List UInt8 → Int
  | _, [] => -1
  | k, c :: r => if c.toNat < 48 ∨ 57 < c.toNat ∨ k = 60 then k else wrAt (k + 1) r
def wrongI (l : List UInt8) : Int := if l = [] then 0 else wrAt 0 l

theorem wrAt_ge : ∀ (k : Nat) (l : List UInt8), -1 ≤ wrAt k l
  | _, [] => by simp [wrAt]
  | k, c :: r => by
    simp only [wrAt]
    split
    · omega
    · exact wrAt_ge (k + 1) r

theorem wrAt_le : ∀ (k : Nat) (l : List UInt8), k ≤ 60 → wrAt k l ≤ 60
  | _, [], _ => by simp [wrAt]
  | k, c :: r, h => by
    simp only [wrAt]
    split
    · omega
    · exact wrAt_le (k + 1) r (by omega)

theorem wrAt_neg : ∀ (k : Nat) (l : List UInt8), k ≤ 60 → wrAt k l < 0 → k + l.length ≤ 60 ∧ ∀ c ∈ l, 48 ≤ c.toNat ∧ c.toNat ≤ 57
  | k, [], h, _ => ⟨by simpa using h, by simp⟩
  | k, c :: r, h, hw => by
    simp only [wrAt] at hw
    split at hw
    · omega
    · rename_i hc
      obtain ⟨h1, h2⟩ := wrAt_neg (k + 1) r (by omega) hw
      refine ⟨by simp; omega, fun d hd => ?_⟩
      rcases List.mem_cons.1 hd with rfl | hd
      · omega
      · exact h2 d hd

/-- the value of digits -/
def rd (l : List UInt8) : Nat := l.foldl (fun n c => n * 10 + (c.toNat - 48)) 0

theorem rd_from (l : List UInt8) : ∀ n, l.foldl (fun n c => n * 10 + (c.toNat - 48)) n = n * 10 ^ l.length + rd l := by
  induction l with
  | nil => intro n; simp [rd]
  | cons c l ih =>
    intro n
    simp only [List.foldl_cons, List.length_cons, rd]
    rw [ih, ih (0 * 10 + (c.toNat - 48)), Nat.pow_succ]
    grind
theorem rd_append (a b : List UInt8) : rd (a ++ b) = rd a * 10 ^ b.length + rd b := by
  unfold rd
  rw [List.foldl_append, rd_from]
  rfl
theorem rd_snoc (a : List UInt8) (c : UInt8) : rd (a ++ [c]) = rd a * 10 + (c.toNat - 48) := by
  rw [rd_append]; simp [rd]
theorem rd_take_succ {l : List UInt8} {i : Nat} {c : UInt8} (h : l[i]? = some c) : rd (l.take (i + 1)) = rd (l.take i) * 10 + (c.toNat - 48) := by
  rw [List.take_add_one, h]
  exact rd_snoc _ _
theorem rd_lt {l : List UInt8} (h : ∀ c ∈ l, 48 ≤ c.toNat ∧ c.toNat ≤ 57) : rd l < 10 ^ l.length := by
  induction l with
  | nil => simp [rd]
  | cons c l ih =>
    have h1 := ih fun d hd => h d (List.mem_cons_of_mem _ hd)
    have h2 := h c List.mem_cons_self
    have : rd (c :: l) = (c.toNat - 48) * 10 ^ l.length + rd l := by
      have := rd_append [c] l
      simpa [rd] using this
    rw [this, List.length_cons, Nat.pow_succ]
    have h3 : (c.toNat - 48) * 10 ^ l.length ≤ 9 * 10 ^ l.length := Nat.mul_le_mul_right _ (by omega)
    omega

theorem digs_small {n : Nat} (h : n < 10) : digs n = [UInt8.ofNat (48 + n)] := by rw [digs, dif_pos h]
theorem digs_big {n : Nat} (h : ¬ n < 10) : digs n = UInt8.ofNat (48 + n % 10) :: digs (n / 10) := by rw [digs, dif_neg h]
theorem textN_small {n : Nat} (h : n < 10) : textN n = [UInt8.ofNat (48 + n)] := by rw [textN, digs_small h]; rfl
theorem textN_big {n : Nat} (h : ¬ n < 10) : textN n = textN (n / 10) ++ [UInt8.ofNat (48 + n % 10)] := by rw [textN, digs_big h]; simp [textN]

/-- the digits of a number ahead of a text -/
def txN (n : Nat) (s : List UInt8) : List UInt8 := if n = 0 ∧ s ≠ [] then s else textN n ++ s
theorem txN_step (n : Nat) (s : List UInt8) (h : n ≠ 0 ∨ s = []) : txN (n / 10) (UInt8.ofNat (48 + n % 10) :: s) = txN n s := by
  have h1 : ¬ (n = 0 ∧ s ≠ []) := by rintro ⟨rfl, h2⟩; rcases h with h | h; exact h rfl; exact h2 h
  unfold txN
  rw [if_neg h1]
  by_cases hn : n < 10
  · have e1 : n / 10 = 0 := by omega
    have e2 : n % 10 = n := by omega
    rw [if_pos ⟨e1, by simp⟩, textN_small hn, e2]
    rfl
  · have e1 : ¬ (n / 10 = 0 ∧ UInt8.ofNat (48 + n % 10) :: s ≠ []) := by omega
    rw [if_neg e1, textN_big hn]
    simp

theorem digit_at (d : Nat) (h : d < 10) : (([48, 49, 50, 51, 52, 53, 54, 55, 56, 57] : List UInt8).take (d + 1)).drop d = [UInt8.ofNat (48 + d)] := by
  have : ∀ d, d < 10 → (([48, 49, 50, 51, 52, 53, 54, 55, 56, 57] : List UInt8).take (d + 1)).drop d = [UInt8.ofNat (48 + d)] := by decide
  exact this d h

/-- so many digits of a number -/
def digK : Nat → Nat → List UInt8
  | 0, _ => []
  | k + 1, x => digK k (x / 10) ++ [UInt8.ofNat (48 + x % 10)]

def u8c (l : List UInt8) : List AV := l.map fun b => u8 b.toNat
@[simp] theorem u8c_length (l : List UInt8) : (u8c l).length = l.length := by simp [u8c]
@[simp] theorem u8c_rf (l : List UInt8) : (u8c l).flatMap rfC = [] := by induction l with | nil => rfl | cons x l ih => simp [u8c]
@[simp] theorem u8c_rl {σn : BId → BId} {σg : Nat → Nat} (l : List UInt8) : (u8c l).map (rlC σn σg) = u8c l := by induction l with | nil => rfl | cons x l ih => simp [u8c]
@[simp] theorem u8c_rl' {σn : BId → BId} {σg : Nat → Nat} (l : List UInt8) : (u8c l).map (fun c => rlC σn σg c) = u8c l := u8c_rl l
@[simp] theorem u8c_rlw {σn : BId → BId} {σg : Nat → Nat} (l : List UInt8) : (u8c l).map (fun c => rlC σn σg (wkA c)) = u8c l := by induction l with | nil => rfl | cons x l ih => simp [u8c]
@[simp] theorem u8c_pure (l : List UInt8) : (u8c l).all pureC = true := by induction l with | nil => rfl | cons x l ih => simp [u8c]
@[simp] theorem u8c_get (l : List UInt8) (i : Nat) : (u8c l)[i]? = (l[i]?).map fun b => u8 b.toNat := by simp [u8c]
@[simp] theorem u8c_pure' (l : List UInt8) : (∀ x, x ∈ u8c l → pureC x = true) = True := by
  have := u8c_pure l
  rw [List.all_eq_true] at this
  simpa using this
theorem u8c_put {l : List UInt8} {j d : Nat} (h : d < 256) (hj : j < l.length) : (u8c l).take j ++ u8 d :: (u8c l).drop (j + 1) = u8c (l.set j (UInt8.ofNat d)) := by
  rw [List.set_eq_take_append_cons_drop, if_pos hj]
  simp [u8c, List.map_take, List.map_drop, Nat.mod_eq_of_lt h]
theorem digK_length : ∀ k x, (digK k x).length = k
  | 0, _ => rfl
  | k + 1, x => by simp [digK, digK_length k]
theorem digK_zero (x : Nat) : digK 0 x = [] := rfl
theorem digK_succ (k x : Nat) : digK (k + 1) x = digK k (x / 10) ++ [UInt8.ofNat (48 + x % 10)] := rfl
theorem u8c_set (l : List UInt8) (i d : Nat) (h : d < 256) : (u8c l).set i (u8 d) = u8c (l.set i (UInt8.ofNat d)) := by simp [u8c, List.map_set, Nat.mod_eq_of_lt h]
theorem set_mid8 {m : List UInt8} {j : Nat} (w : UInt8) : (List.replicate (j + 1) 0 ++ m).set j w = List.replicate j 0 ++ w :: m := by
  rw [List.set_append_left j w (by simp), List.replicate_succ', List.set_append_right j w (by simp)]
  simp
theorem u8c_rows (m : List UInt8) : ((u8c m).map fun c => [c]).mapM byteOfRow = some m := by
  induction m with
  | nil => rfl
  | cons b m ih =>
    have e : ((u8c (b :: m)).map fun c => [c]) = [u8 b.toNat] :: ((u8c m).map fun c => [c]) := rfl
    rw [e, List.mapM_cons, ih]
    simp [byteOfRow, u8]
end Go.Ab
end

section
/-
  Code with remarks of some functions, by program (AxPrint), and the rules to run them.
-/
namespace Go.Ab

/- internal/stringslite.CutPrefix -/
def b98 : AX :=
 (.seq
  (.reg [⟨(some 4), none, .mov (.c (.s []))⟩,
    ⟨(some 5), none, .mov (.c (.b false))⟩])
  (.seq
   (.seq
    (.reg [⟨(some 6), none, .mov (.t 0)⟩,
      ⟨(some 7), none, .mov (.t 1)⟩,
      ⟨(some 8), none, .call 123 [(.t 6), (.t 7)]⟩,
      ⟨(some 9), none, .un .not (.t 8)⟩])
    (.cond (.t 9)
     (.seq
      (.reg [⟨(some 10), none, .mov (.t 0)⟩,
        ⟨(some 4), none, .mov (.t 10)⟩,
        ⟨(some 5), none, .mov (.c (.b false))⟩])
      (.pre (.norm false [4, 5]) .ret))
     .skip))
   (.seq
    (.reg [⟨(some 11), none, .mov (.t 0)⟩,
      ⟨(some 12), none, .mov (.t 1)⟩,
      ⟨(some 13), none, .lens (.t 12)⟩,
      ⟨(some 14), none, .slstr (.t 11) (some (.t 13)) none⟩,
      ⟨(some 4), none, .mov (.t 14)⟩,
      ⟨(some 5), none, .mov (.c (.b true))⟩])
    (.pre (.norm false [4, 5]) .ret))))

/- internal/stringslite.HasPrefix -/
def b123 : AX :=
 (.seq
  (.reg [⟨(some 4), none, .mov (.c (.b false))⟩])
  (.seq
   (.reg [⟨(some 5), none, .mov (.t 0)⟩,
     ⟨(some 6), none, .lens (.t 5)⟩,
     ⟨(some 7), none, .mov (.t 1)⟩,
     ⟨(some 8), none, .lens (.t 7)⟩,
     ⟨(some 9), none, .bin .geq (.t 6) (.t 8)⟩,
     ⟨(some 10), none, .mov (.t 9)⟩,
     ⟨(some 11), (some (10, true)), .mov (.t 0)⟩,
     ⟨(some 12), (some (10, true)), .mov (.t 1)⟩,
     ⟨(some 13), (some (10, true)), .lens (.t 12)⟩,
     ⟨(some 14), (some (10, true)), .slstr (.t 11) none (some (.t 13))⟩,
     ⟨(some 15), (some (10, true)), .mov (.t 1)⟩,
     ⟨(some 16), (some (10, true)), .bin .eql (.t 14) (.t 15)⟩,
     ⟨(some 17), none, .pick (.t 10) (.t 16) (.c (.b false))⟩,
     ⟨(some 4), none, .mov (.t 17)⟩])
   (.pre (.norm false [4]) .ret)))

/- strings.CutPrefix -/
def b64 : AX :=
 (.seq
  (.reg [⟨(some 4), none, .mov (.c (.s []))⟩,
    ⟨(some 5), none, .mov (.c (.b false))⟩])
  (.seq
   (.reg [⟨(some 6), none, .mov (.t 0)⟩,
     ⟨(some 7), none, .mov (.t 1)⟩,
     ⟨(some 8), none, .call 98 [(.t 6), (.t 7)]⟩,
     ⟨(some 9), none, .ext (.t 8) 0⟩,
     ⟨(some 10), none, .ext (.t 8) 1⟩,
     ⟨(some 4), none, .mov (.t 9)⟩,
     ⟨(some 5), none, .mov (.t 10)⟩])
   (.pre (.norm false [4, 5]) .ret)))

/- retrospect/digits.nine -/
def l101_0 : AX :=
 (.note
 (.seq
  (.seq
   (.reg [⟨(some 5), none, .mov (.t 4)⟩,
     ⟨(some 6), none, .bin .geq (.t 5) (.c (.i .i64 0))⟩])
   (.cond (.t 6)
    .skip
    (.exit 0)))
  (.seq
   (.block 1
    (.seq
     (.reg [⟨(some 9), none, .mov (.t 4)⟩,
       ⟨(some 10), none, .mov (.t 0)⟩,
       ⟨(some 11), none, .bin .rem (.t 10) (.c (u32 10))⟩,
       ⟨(some 12), none, .bin .add (.c (u32 48)) (.t 11)⟩,
       ⟨(some 13), none, .conv .u8 (.t 12)⟩,
       ⟨(some 14), none, .iaa 1 9 (.t 3) (.t 9)⟩,
       ⟨none, none, .store 1 (.t 14) (.t 13)⟩])
     (.reg [⟨(some 15), none, .mov (.t 0)⟩,
       ⟨(some 16), none, .bin .quo (.t 15) (.c (u32 10))⟩,
       ⟨(some 0), none, .mov (.t 16)⟩])))
   (.reg [⟨(some 7), none, .mov (.t 4)⟩,
     ⟨(some 8), none, .bin .sub (.t 7) (.c (.i .i64 1))⟩,
     ⟨(some 4), none, .mov (.t 8)⟩])))
 (.norm false [0, 3, 4]))

def b101 : AX :=
 (.seq
  (.reg [⟨(some 2), none, .mov (.c (.s []))⟩])
  (.seq
   (.reg [⟨(some 3), none, .alloc [(u8 0), (u8 0), (u8 0), (u8 0), (u8 0), (u8 0), (u8 0), (u8 0), (u8 0)]⟩])
   (.seq
    (.seq
     (.reg [⟨(some 4), none, .mov (.c (.i .i64 8))⟩])
     (.lp 0 (.norm false [0, 3, 4]) l101_0 (.norm false [3])))
    (.seq
     (.reg [⟨(some 17), none, .xop (.arsl 9) [(.t 3)]⟩,
       ⟨(some 18), none, .xop .bstr [(.t 17)]⟩,
       ⟨(some 2), none, .mov (.t 18)⟩])
     (.pre (.norm false [2]) .ret)))))

/- retrospect/digits.wrong -/
def l99_0 : AX :=
 (.note
 (.seq
  (.reg [⟨(some 7), none, .bin .lss (.t 6) (.t 5)⟩])
  (.seq
   (.cond (.t 7)
    .skip
    (.exit 0))
   (.seq
    (.block 1
     (.seq
      (.reg [⟨(some 8), none, .mov (.t 6)⟩,
        ⟨(some 3), none, .mov (.t 8)⟩])
      (.seq
       (.reg [⟨(some 9), none, .mov (.t 0)⟩,
         ⟨(some 10), none, .mov (.t 3)⟩,
         ⟨(some 11), none, .ixs (.t 9) (.t 10)⟩,
         ⟨(some 12), none, .bin .lss (.t 11) (.c (u8 48))⟩,
         ⟨(some 13), none, .mov (.t 12)⟩,
         ⟨(some 14), (some (13, false)), .mov (.t 0)⟩,
         ⟨(some 15), (some (13, false)), .mov (.t 3)⟩,
         ⟨(some 16), (some (13, false)), .ixs (.t 14) (.t 15)⟩,
         ⟨(some 17), (some (13, false)), .bin .gtr (.t 16) (.c (u8 57))⟩,
         ⟨(some 18), none, .pick (.t 13) (.c (.b true)) (.t 17)⟩,
         ⟨(some 19), none, .mov (.t 18)⟩,
         ⟨(some 20), (some (19, false)), .mov (.t 3)⟩,
         ⟨(some 21), (some (19, false)), .bin .eql (.t 20) (.c (.i .i64 60))⟩,
         ⟨(some 22), none, .pick (.t 19) (.c (.b true)) (.t 21)⟩])
       (.cond (.t 22)
        (.seq
         (.reg [⟨(some 23), none, .mov (.t 3)⟩,
           ⟨(some 2), none, .mov (.t 23)⟩])
         (.pre (.norm false [2]) .ret))
        .skip))))
    (.reg [⟨(some 24), none, .bin .add (.t 6) (.c (.i .i64 1))⟩,
      ⟨(some 6), none, .mov (.t 24)⟩]))))
 (.norm false [0, 5, 6]))

def b99 : AX :=
 (.seq
  (.reg [⟨(some 2), none, .mov (.c (.i .i64 0))⟩])
  (.seq
   (.seq
    (.reg [⟨(some 4), none, .mov (.t 0)⟩,
      ⟨(some 5), none, .lens (.t 4)⟩,
      ⟨(some 6), none, .mov (.c (.i .i64 0))⟩])
    (.lp 0 (.norm false [0, 5, 6]) l99_0 (.norm false [0])))
   (.seq
    (.seq
     (.reg [⟨(some 25), none, .mov (.t 0)⟩,
       ⟨(some 26), none, .bin .eql (.t 25) (.c (.s []))⟩])
     (.cond (.t 26)
      (.seq
       (.reg [⟨(some 2), none, .mov (.c (.i .i64 0))⟩])
       (.pre (.norm false [2]) .ret))
      .skip))
    (.seq
     (.reg [⟨(some 2), none, .mov (.c (.i .i64 (-1)))⟩])
     (.pre (.norm false [2]) .ret)))))

/- retrospect/digits.Read -/
def l65_0 : AX :=
 (.note
 (.seq
  (.seq
   (.reg [⟨(some 20), none, .mov (.t 9)⟩,
     ⟨(some 21), none, .bin .lss (.t 20) (.c (.i .i64 9))⟩,
     ⟨(some 22), none, .mov (.t 21)⟩,
     ⟨(some 23), (some (22, true)), .mov (.t 6)⟩,
     ⟨(some 24), (some (22, true)), .mov (.t 0)⟩,
     ⟨(some 25), (some (22, true)), .lens (.t 24)⟩,
     ⟨(some 26), (some (22, true)), .bin .lss (.t 23) (.t 25)⟩,
     ⟨(some 27), none, .pick (.t 22) (.t 26) (.c (.b false))⟩])
   (.cond (.t 27)
    .skip
    (.exit 2)))
  (.seq
   (.block 3
    (.seq
     (.reg [⟨(some 30), none, .mov (.t 7)⟩,
       ⟨(some 31), none, .bin .mul (.t 30) (.c (u32 10))⟩,
       ⟨(some 32), none, .mov (.t 0)⟩,
       ⟨(some 33), none, .mov (.t 6)⟩,
       ⟨(some 34), none, .ixs (.t 32) (.t 33)⟩,
       ⟨(some 35), none, .bin .sub (.t 34) (.c (u8 48))⟩,
       ⟨(some 36), none, .conv .u32 (.t 35)⟩,
       ⟨(some 37), none, .bin .add (.t 31) (.t 36)⟩,
       ⟨(some 7), none, .mov (.t 37)⟩])
     (.seq
      (.reg [⟨(some 38), none, .mov (.t 8)⟩,
        ⟨(some 39), none, .bin .mul (.t 38) (.c (u32 10))⟩,
        ⟨(some 8), none, .mov (.t 39)⟩])
      (.reg [⟨(some 40), none, .mov (.t 6)⟩,
        ⟨(some 41), none, .bin .add (.t 40) (.c (.i .i64 1))⟩,
        ⟨(some 6), none, .mov (.t 41)⟩]))))
   (.reg [⟨(some 28), none, .mov (.t 9)⟩,
     ⟨(some 29), none, .bin .add (.t 28) (.c (.i .i64 1))⟩,
     ⟨(some 9), none, .mov (.t 29)⟩])))
 (.norm false [0, 3, 5, 6, 7, 8, 9]))

def l65_1 : AX :=
 (.note
 (.seq
  (.seq
   (.reg [⟨(some 16), none, .mov (.t 6)⟩,
     ⟨(some 17), none, .mov (.t 0)⟩,
     ⟨(some 18), none, .lens (.t 17)⟩,
     ⟨(some 19), none, .bin .lss (.t 16) (.t 18)⟩])
   (.cond (.t 19)
    .skip
    (.exit 0)))
  (.block 1
   (.seq
    (.reg [⟨(some 7), none, .mov (.c (u32 0))⟩,
      ⟨(some 8), none, .mov (.c (u32 1))⟩])
    (.seq
     (.seq
      (.reg [⟨(some 9), none, .mov (.c (.i .i64 0))⟩])
      (.lp 2 (.norm false [0, 3, 5, 6, 7, 8, 9]) l65_0 (.norm false [0, 3, 5, 6, 7, 8])))
     (.reg [⟨(some 42), none, .mov (.t 5)⟩,
       ⟨(some 43), none, .mov (.t 8)⟩,
       ⟨(some 44), none, .mov (.t 7)⟩,
       ⟨(some 45), none, .call 100 [(.t 42), (.t 43), (.t 44)]⟩,
       ⟨(some 5), none, .mov (.t 45)⟩])))))
 (.norm false [0, 3, 5, 6]))

def b65 : AX :=
 (.seq
  (.reg [⟨(some 2), none, .mov (.c (.sl [] .nl))⟩,
    ⟨(some 3), none, .alloc [(.i .i64 0), (.i .i64 0), (.i .i64 0), (.i .i64 0)]⟩])
  (.seq
   (.seq
    (.reg [⟨(some 10), none, .mov (.t 0)⟩,
      ⟨(some 11), none, .call 99 [(.t 10)]⟩,
      ⟨(some 4), none, .mov (.t 11)⟩])
    (.seq
     (.reg [⟨(some 12), none, .mov (.t 4)⟩,
       ⟨(some 13), none, .bin .geq (.t 12) (.c (.i .i64 0))⟩])
     (.cond (.t 13)
      (.seq
       (.reg [⟨(some 14), none, .mov (.t 4)⟩,
         ⟨(some 15), none, .build [(.i .i64 0), (.i .i64 0), (.i .i64 0), (.i .i64 0)] [(0, 1, (.c (.i .i64 1))), (3, 1, (.t 14))]⟩,
         ⟨(some 2), none, .mov (.c (.sl [] .nl))⟩,
         ⟨none, none, .store 4 (.t 3) (.t 15)⟩])
       (.pre (.norm false [2, 3]) .ret))
      .skip)))
   (.seq
    (.reg [⟨(some 5), none, .mov (.c (.sl [] .nl))⟩])
    (.seq
     (.seq
      (.reg [⟨(some 6), none, .mov (.c (.i .i64 0))⟩])
      (.lp 0 (.norm false [0, 3, 5, 6]) l65_1 (.norm false [3, 5])))
     (.seq
      (.reg [⟨(some 46), none, .mov (.t 5)⟩,
        ⟨(some 47), none, .build [(.i .i64 0), (.i .i64 0), (.i .i64 0), (.i .i64 0)] []⟩,
        ⟨(some 2), none, .mov (.t 46)⟩,
        ⟨none, none, .store 4 (.t 3) (.t 47)⟩])
      (.pre (.norm false [2, 3]) .ret))))))

class CDigits (T : Tbl) : Prop where
  h98 : T 98 = some ⟨2, 15, [.t 4, .t 5], b98, none, false⟩
  h123 : T 123 = some ⟨2, 18, [.t 4], b123, none, false⟩
  h64 : T 64 = some ⟨2, 11, [.t 4, .t 5], b64, none, false⟩
  h101 : T 101 = some ⟨1, 19, [.t 2], b101, none, false⟩
  h99 : T 99 = some ⟨1, 27, [.t 2], b99, none, false⟩
  h65 : T 65 = some ⟨1, 48, [.t 2, .cell 3 (some 4)], b65, none, false⟩

section
variable {T : Tbl} [CDigits T] {d : Option Nat} {st : St}
@[simp] theorem x98 (xs : List AV) : callX (orc T) T 98 xs d st = bL (frzL st.heap xs) fun ys => cR (callF T 98 (ys.map (wkIf false))) xs d st := callX_pure CDigits.h98
@[simp] theorem y98 {e : Env} {h : Heap} {older : List Heap} (args : List Opd) : opD (orc T) T (.call 98 args) e h older = dR (callF T 98 ((args.map (ev e.get)).map (wkIf false))) (args.map (ev e.get)) := opD_call CDigits.h98
theorem f98 (xs : List AV) (hn : xs.length = 2) : callF T 98 xs = retF [.t 4, .t 5] false (evX (orc T) T 0 b98 ⟨argEnv xs, [], 1⟩) := callF_eq CDigits.h98 hn
@[simp] theorem x123 (xs : List AV) : callX (orc T) T 123 xs d st = bL (frzL st.heap xs) fun ys => cR (callF T 123 (ys.map (wkIf false))) xs d st := callX_pure CDigits.h123
@[simp] theorem y123 {e : Env} {h : Heap} {older : List Heap} (args : List Opd) : opD (orc T) T (.call 123 args) e h older = dR (callF T 123 ((args.map (ev e.get)).map (wkIf false))) (args.map (ev e.get)) := opD_call CDigits.h123
theorem f123 (xs : List AV) (hn : xs.length = 2) : callF T 123 xs = retF [.t 4] false (evX (orc T) T 0 b123 ⟨argEnv xs, [], 1⟩) := callF_eq CDigits.h123 hn
@[simp] theorem x64 (xs : List AV) : callX (orc T) T 64 xs d st = bL (frzL st.heap xs) fun ys => cR (callF T 64 (ys.map (wkIf false))) xs d st := callX_pure CDigits.h64
@[simp] theorem y64 {e : Env} {h : Heap} {older : List Heap} (args : List Opd) : opD (orc T) T (.call 64 args) e h older = dR (callF T 64 ((args.map (ev e.get)).map (wkIf false))) (args.map (ev e.get)) := opD_call CDigits.h64
theorem f64 (xs : List AV) (hn : xs.length = 2) : callF T 64 xs = retF [.t 4, .t 5] false (evX (orc T) T 0 b64 ⟨argEnv xs, [], 1⟩) := callF_eq CDigits.h64 hn
@[simp] theorem x101 (xs : List AV) : callX (orc T) T 101 xs d st = bL (frzL st.heap xs) fun ys => cR (callF T 101 (ys.map (wkIf false))) xs d st := callX_pure CDigits.h101
@[simp] theorem y101 {e : Env} {h : Heap} {older : List Heap} (args : List Opd) : opD (orc T) T (.call 101 args) e h older = dR (callF T 101 ((args.map (ev e.get)).map (wkIf false))) (args.map (ev e.get)) := opD_call CDigits.h101
theorem f101 (xs : List AV) (hn : xs.length = 1) : callF T 101 xs = retF [.t 2] false (evX (orc T) T 0 b101 ⟨argEnv xs, [], 1⟩) := callF_eq CDigits.h101 hn
@[simp] theorem x99 (xs : List AV) : callX (orc T) T 99 xs d st = bL (frzL st.heap xs) fun ys => cR (callF T 99 (ys.map (wkIf false))) xs d st := callX_pure CDigits.h99
@[simp] theorem y99 {e : Env} {h : Heap} {older : List Heap} (args : List Opd) : opD (orc T) T (.call 99 args) e h older = dR (callF T 99 ((args.map (ev e.get)).map (wkIf false))) (args.map (ev e.get)) := opD_call CDigits.h99
theorem f99 (xs : List AV) (hn : xs.length = 1) : callF T 99 xs = retF [.t 2] false (evX (orc T) T 0 b99 ⟨argEnv xs, [], 1⟩) := callF_eq CDigits.h99 hn
@[simp] theorem x65 (xs : List AV) : callX (orc T) T 65 xs d st = bL (frzL st.heap xs) fun ys => cR (callF T 65 (ys.map (wkIf false))) xs d st := callX_pure CDigits.h65
@[simp] theorem y65 {e : Env} {h : Heap} {older : List Heap} (args : List Opd) : opD (orc T) T (.call 65 args) e h older = dR (callF T 65 ((args.map (ev e.get)).map (wkIf false))) (args.map (ev e.get)) := opD_call CDigits.h65
theorem f65 (xs : List AV) (hn : xs.length = 1) : callF T 65 xs = retF [.t 2, .cell 3 (some 4)] false (evX (orc T) T 0 b65 ⟨argEnv xs, [], 1⟩) := callF_eq CDigits.h65 hn
end
end Go.Ab
end

section
/-
  Texts of naturals: what layer 7 computes.
-/
namespace Go.Ab
section
variable {T : Tbl} [CNat T] [CProd T] [CDigits T]

end
section
variable {T : Tbl} [CDigits T]
theorem cut_minus (l : List UInt8) (hl : l.length ≤ 1000000) : callF T 64 [.s l, .s [45]] = some (.tup [.s (if l.head? = some 45 then l.tail else l), .b (l.head? = some 45)]) := by
  have h1 : callF T 123 [.s l, .s [45]] = some (.b (l.head? = some 45)) := by
    rw [f123 _ rfl, b123]
    cases l with
    | nil => simp -implicitDefEqProofs
    | cons c r =>
      have h2 : (1 : Int) ≤ (r.length : Int) + 1 := by omega
      by_cases hc : c = 45 <;> simp -implicitDefEqProofs [h2, hc]
  have h3 : callF T 98 [.s l, .s [45]] = some (.tup [.s (if l.head? = some 45 then l.tail else l), .b (l.head? = some 45)]) := by
    rw [f98 _ rfl, b98]
    cases l with
    | nil => simp -implicitDefEqProofs [h1]
    | cons c r =>
      have h2 : (1 : Int) ≤ (r.length : Int) + 1 := by omega
      by_cases hc : c = 45
      · subst hc
        simp -implicitDefEqProofs [h1, h2]
      · simp -implicitDefEqProofs [h1, hc]
  rw [f64 _ rfl, b64]
  simp -implicitDefEqProofs [h3]

end
section
variable {T : Tbl} [CNat T] [CProd T] [CDigits T]
end
section
variable {T : Tbl}
theorem wr_loop (l : List UInt8) (hl : l.length ≤ 1000000) : ∀ i : Nat, i ≤ l.length →
    loopN T 0 0 (.norm false [0]) l99_0 ⟨[(0, .s l), (5, .i .i64 l.length), (6, .i .i64 i)], [], 2⟩ =
      if 0 ≤ wrAt i (l.drop i) then some (.r, ⟨[(2, .i .i64 (wrAt i (l.drop i)))], [], 2⟩) else some (.n, ⟨[(0, .s l)], [], 2⟩) := by
  refine loopN_eq (fun i : Nat => ⟨[(0, .s l), (5, .i .i64 l.length), (6, .i .i64 i)], [], 2⟩) _ (fun i => l.length - i) _ ?_
  intro i hi
  by_cases h0 : i < l.length
  · have hg : l[i]? = some (l[i]'h0) := List.getElem?_eq_getElem h0
    have hd := List.drop_eq_getElem_cons h0
    have hw : IntKind.wrap .i64 ((i : Int) + 1) = ((i + 1 : Nat) : Int) := wrap_i64 _ (by omega)
    by_cases hc : (l[i]'h0).toNat < 48 ∨ 57 < (l[i]'h0).toNat ∨ i = 60
    · right
      rw [hd]
      have e : wrAt i (l[i]'h0 :: List.drop (i + 1) l) = i := by simp only [wrAt]; rw [if_pos hc]
      rw [e]
      by_cases c1 : (l[i]'h0).toNat < 48
      · constructor <;> simp -implicitDefEqProofs [l99_0, h0, c1]
      · by_cases c2 : 57 < (l[i]'h0).toNat
        · constructor <;> simp -implicitDefEqProofs [l99_0, h0, c1, c2]
        · have c3 : i = 60 := by omega
          subst c3
          have h0' : (60 : Int) < (l.length : Int) := by omega
          constructor <;> simp -implicitDefEqProofs [l99_0, h0, h0', c1, c2]
    · left
      have e : wrAt i (l.drop i) = wrAt (i + 1) (l.drop (i + 1)) := by rw [hd]; simp only [wrAt]; rw [if_neg hc]
      have c1 : ¬ (l[i]'h0).toNat < 48 := fun h => hc (.inl h)
      have c2 : ¬ 57 < (l[i]'h0).toNat := fun h => hc (.inr (.inl h))
      have c3 : ¬ ((i : Int) = 60) := fun h => hc (.inr (.inr (by omega)))
      refine ⟨i + 1, h0, by show l.length - (i + 1) < l.length - i; omega, ?_, ?_⟩
      · simp -implicitDefEqProofs [l99_0, h0, c1, c2, c3, hw]
      · simp only [e]
  · right
    have : i = l.length := by omega
    subst this
    rw [List.drop_length]
    constructor <;> simp -implicitDefEqProofs [l99_0, wrAt]

end
section
variable {T : Tbl} [CNat T] [CProd T] [CDigits T]
end
section
variable {T : Tbl} [CDigits T]
theorem digits_wrong (l : List UInt8) (hl : l.length ≤ 1000000) : callF T 99 [.s l] = some (.i .i64 (wrongI l)) := by
  have h := wr_loop (T := T) l hl 0 (Nat.zero_le _)
  have hg := wrAt_ge 0 l
  rw [List.drop_zero] at h
  simp at h
  rw [f99 _ rfl, b99]
  unfold wrongI
  by_cases h0 : l = []
  · subst h0
    simp [wrAt] at h
    simp -implicitDefEqProofs [h]
  · by_cases h1 : 0 ≤ wrAt 0 l
    · rw [if_pos h1] at h
      simp -implicitDefEqProofs [h, h0]
    · rw [if_neg h1] at h
      have h2 : wrAt 0 l = -1 := by omega
      simp -implicitDefEqProofs [h, h0, h2]

end
section
variable {T : Tbl} [CNat T] [CProd T] [CDigits T]
end
section
variable {T : Tbl}
theorem nine_loop (x0 : Nat) (_hx0 : x0 < 4294967296) : ∀ y : Nat × Nat × List UInt8, (y.1 ≤ 9 ∧ y.2.1 < 4294967296 ∧ y.2.2.length = 9 - y.1 ∧ digK y.1 y.2.1 ++ y.2.2 = digK 9 x0) →
    loopN T 0 0 (.norm false [3]) l101_0 ⟨[(0, u32 y.2.1), (3, .ptr (.loc 3) 1 9 0 0), (4, .i .i64 ((y.1 : Int) - 1))], [(.loc 3, ⟨1, .str, 9, [u8c (List.replicate y.1 0 ++ y.2.2)]⟩)], 3⟩ =
      some (.n, ⟨[(3, .ptr (.loc 3) 1 9 0 0)], [(.loc 3, ⟨1, .str, 9, [u8c (digK 9 x0)]⟩)], 3⟩) := by
  refine loopN_eq (fun y : Nat × Nat × List UInt8 => ⟨[(0, u32 y.2.1), (3, .ptr (.loc 3) 1 9 0 0), (4, .i .i64 ((y.1 : Int) - 1))], [(.loc 3, ⟨1, .str, 9, [u8c (List.replicate y.1 0 ++ y.2.2)]⟩)], 3⟩) _ (fun y => y.1) _ ?_
  rintro ⟨k, x, m⟩ ⟨hk, hx, hm, hd⟩
  simp only at hk hx hm hd
  cases k with
  | zero =>
    right
    have hd : m = digK 9 x0 := by simpa only [digK_zero, List.nil_append] using hd
    subst hd
    generalize digK 9 x0 = m
    constructor <;> simp -implicitDefEqProofs [l101_0]
  | succ j =>
    left
    have hw : IntKind.wrap .i64 ((j : Int) - 1) = (j : Int) - 1 := wrap_i64 _ (by omega)
    have h1 : (j : Int) < 9 := by omega
    have h2 : j ≤ 8 := by omega
    have hd1 : 48 + x % 10 < 256 := by omega
    have hs := (u8c_put (l := List.replicate (j + 1) 0 ++ m) (j := j) hd1 (by simp; omega)).trans (congrArg u8c (set_mid8 (j := j) (m := m) (UInt8.ofNat (48 + x % 10))))
    have m1 : (48 + x % 10) % 4294967296 = 48 + x % 10 := Nat.mod_eq_of_lt (by omega)
    have m2 : (48 + x % 10) % 256 = 48 + x % 10 := Nat.mod_eq_of_lt (by omega)
    have m3 : x / 10 % 4294967296 = x / 10 := Nat.mod_eq_of_lt (by omega)
    have hlen : j + 1 + m.length = 9 := by omega
    refine ⟨(j, x / 10, UInt8.ofNat (48 + x % 10) :: m), ⟨by simp only; omega, by simp only; omega, by simp; omega, ?_⟩, Nat.lt_succ_self j, ?_, rfl⟩
    · simp only
      rw [← hd, digK_succ, List.append_assoc]
      rfl
    · simp -implicitDefEqProofs [l101_0, hw, h1, h2, hs, m1, m2, m3, hlen]

end
section
variable {T : Tbl} [CNat T] [CProd T] [CDigits T]
end
section
variable {T : Tbl} [CDigits T]
theorem digits_nine (x : Nat) (hx : x < 4294967296) : callF T 101 [u32 x] = some (.s (digK 9 x)) := by
  have h := nine_loop (T := T) x hx (9, x, []) ⟨Nat.le_refl _, hx, rfl, by simp⟩
  have e : u8c (List.replicate 9 0 ++ []) = [u8 0, u8 0, u8 0, u8 0, u8 0, u8 0, u8 0, u8 0, u8 0] := rfl
  simp only [e] at h
  rw [f101 _ rfl, b101]
  have h8 : IntKind.wrap .i64 8 = 8 := by decide
  have hl9 := digK_length 9 x
  generalize hm : digK 9 x = m at *
  have t9 : List.take 9 ((u8c m).map fun c => [c]) = (u8c m).map fun c => [c] := List.take_of_length_le (by simp [hl9])
  have hr := u8c_rows m
  simp at h
  simp -implicitDefEqProofs [h, hr, hl9, t9]

end
section
variable {T : Tbl} [CNat T] [CProd T] [CDigits T]
def stRi (l : List UInt8) (o : List UInt32) (i0 k : Nat) : St :=
  ⟨[(0, .s l), (3, .ptr (.loc 3) 1 4 0 0), (5, .sl (u32s o) .an), (6, .i .i64 (i0 + k : Nat)), (7, u32 (rd ((l.drop i0).take k))), (8, u32 (10 ^ k)), (9, .i .i64 k)], [(.loc 3, ⟨1, .str, 4, [[.i .i64 0, .i .i64 0, .i .i64 0, .i .i64 0]]⟩)], 3⟩

end
section
variable {T : Tbl}
theorem ri_loop (l : List UInt8) (o : List UInt32) (i0 kf : Nat) (hl : l.length ≤ 60) (hd : ∀ c ∈ l, 48 ≤ c.toNat ∧ c.toNat ≤ 57) (hkf : kf = min 9 (l.length - i0)) (hi0 : i0 ≤ l.length) : ∀ k, k ≤ kf →
    loopN T 0 2 (.norm false [0, 3, 5, 6, 7, 8]) l65_0 (stRi l o i0 k) =
      some (.n, ⟨[(0, .s l), (3, .ptr (.loc 3) 1 4 0 0), (5, .sl (u32s o) .an), (6, .i .i64 (i0 + kf : Nat)), (7, u32 (rd ((l.drop i0).take kf))), (8, u32 (10 ^ kf))], [(.loc 3, ⟨1, .str, 4, [[.i .i64 0, .i .i64 0, .i .i64 0, .i .i64 0]]⟩)], 3⟩) := by
  refine loopN_eq (fun k => stRi l o i0 k) _ (fun k => kf - k) _ ?_
  intro k hk
  by_cases h0 : k < kf
  · left
    have hi : i0 + k < l.length := by omega
    have hg : l[i0 + k]? = some (l[i0 + k]'hi) := List.getElem?_eq_getElem hi
    have hgd : (l.drop i0)[k]? = some (l[i0 + k]'hi) := by rw [List.getElem?_drop]; exact hg
    have hc := hd _ (List.getElem_mem hi)
    obtain ⟨p, hp⟩ : ∃ p, p = i0 + k := ⟨_, rfl⟩
    have hx := rd_lt (l := (l.drop i0).take k) fun c hc => hd c (List.mem_of_mem_drop (List.mem_of_mem_take hc))
    have hlen : ((l.drop i0).take k).length = k := by simp; omega
    rw [hlen] at hx
    have hp8 : 10 ^ k ≤ 10 ^ 8 := Nat.pow_le_pow_right (by decide) (by omega)
    have hr := rd_take_succ hgd
    have hw : IntKind.wrap .i64 ((k : Int) + 1) = ((k + 1 : Nat) : Int) := wrap_i64 _ (by omega)
    have hw2 : IntKind.wrap .i64 ((p : Int) + 1) = ((i0 + (k + 1) : Nat) : Int) := by rw [wrap_i64 _ (by omega)]; omega
    have hk9 : (k : Int) < 9 := by omega
    have hpl : (p : Int) < l.length := by omega
    refine ⟨k + 1, h0, by show kf - (k + 1) < kf - k; omega, ?_, rfl⟩
    unfold stRi
    rw [hr, Nat.pow_succ]
    subst hp
    generalize hcd : (l[i0 + k]'hi).toNat = c at *
    generalize rd ((l.drop i0).take k) = x at *
    generalize 10 ^ k = t at *
    have m1 : x * 10 % 4294967296 = x * 10 := Nat.mod_eq_of_lt (by omega)
    have m2 : sub8 c 48 = c - 48 := sub8_le (by omega) (by omega)
    have m3 : (c - 48) % 4294967296 = c - 48 := Nat.mod_eq_of_lt (by omega)
    have m4 : (x * 10 + (c - 48)) % 4294967296 = x * 10 + (c - 48) := Nat.mod_eq_of_lt (by omega)
    have m5 : t * 10 % 4294967296 = t * 10 := Nat.mod_eq_of_lt (by omega)
    have hpl' : (i0 : Int) + k < l.length := by omega
    have hw2' : IntKind.wrap .i64 ((i0 : Int) + k + 1) = (i0 : Int) + (k + 1) := by rw [wrap_i64 _ (by omega)]; omega
    simp -implicitDefEqProofs [l65_0, hk9, hpl', hi, hcd, m1, m2, m3, m4, m5, hw, hw2']
  · right
    have : k = kf := by omega
    subst this
    unfold stRi
    generalize rd ((l.drop i0).take k) = x
    generalize 10 ^ k = t
    by_cases h9 : k = 9
    · subst h9
      constructor <;> simp -implicitDefEqProofs [l65_0]
    · have hk9 : (k : Int) < 9 := by omega
      have hpl' : ¬ ((i0 : Int) + k < l.length) := by omega
      constructor <;> simp -implicitDefEqProofs [l65_0, hk9, hpl']

end
section
variable {T : Tbl} [CNat T] [CProd T] [CDigits T]
end
section
variable {T : Tbl} [CProd T]
theorem ro_loop (l : List UInt8) (hl : l.length ≤ 60) (hd : ∀ c ∈ l, 48 ≤ c.toNat ∧ c.toNat ≤ 57) : ∀ i : Nat, i ≤ l.length →
    loopN T 0 0 (.norm false [3, 5]) l65_1 ⟨[(0, .s l), (3, .ptr (.loc 3) 1 4 0 0), (5, .sl (u32s (ofN (rd (l.take i)))) .an), (6, .i .i64 i)], [(.loc 3, ⟨1, .str, 4, [[.i .i64 0, .i .i64 0, .i .i64 0, .i .i64 0]]⟩)], 3⟩ =
      some (.n, ⟨[(3, .ptr (.loc 3) 1 4 0 0), (5, .sl (u32s (ofN (rd l))) .an)], [(.loc 3, ⟨1, .str, 4, [[.i .i64 0, .i .i64 0, .i .i64 0, .i .i64 0]]⟩)], 3⟩) := by
  refine loopN_eq (fun i : Nat => ⟨[(0, .s l), (3, .ptr (.loc 3) 1 4 0 0), (5, .sl (u32s (ofN (rd (l.take i)))) .an), (6, .i .i64 i)], [(.loc 3, ⟨1, .str, 4, [[.i .i64 0, .i .i64 0, .i .i64 0, .i .i64 0]]⟩)], 3⟩) _ (fun i => l.length - i) _ ?_
  intro i hi
  by_cases h0 : i < l.length
  · left
    obtain ⟨kf, hkf⟩ : ∃ kf, kf = min 9 (l.length - i) := ⟨_, rfl⟩
    have h := ri_loop (T := T) l (ofN (rd (l.take i))) i kf hl hd hkf hi 0 (Nat.zero_le _)
    unfold stRi at h
    simp [show rd [] = 0 from rfl] at h
    have hx := rd_lt (l := (l.drop i).take kf) fun c hc => hd c (List.mem_of_mem_drop (List.mem_of_mem_take hc))
    have hlen : ((l.drop i).take kf).length = kf := by simp; omega
    rw [hlen] at hx
    have hp8 : 10 ^ kf ≤ 10 ^ 9 := Nat.pow_le_pow_right (by decide) (by omega)
    have hol : (ofN (rd (l.take i))).length ≤ 60 := by
      refine ofN_length_le' ?_
      have h1 := rd_lt (l := l.take i) fun c hc => hd c (List.mem_of_mem_take hc)
      have h2 : 10 ^ (l.take i).length ≤ 10 ^ 60 := Nat.pow_le_pow_right (by decide) (by simp; omega)
      exact Nat.lt_of_lt_of_le h1 (Nat.le_trans h2 (by decide))
    have hpw := prod_word (T := T) (ofN (rd (l.take i))) (10 ^ kf) (rd ((l.drop i).take kf)) (by omega) (by omega) (by omega)
    have hr : rd (l.take (i + kf)) = rd (l.take i) * 10 ^ kf + rd ((l.drop i).take kf) := by
      rw [List.take_add, rd_append, hlen]
    rw [val_ofN, ← hr] at hpw
    refine ⟨i + kf, by omega, by show l.length - (i + kf) < l.length - i; omega, ?_, rfl⟩
    simp -implicitDefEqProofs [l65_1, h0, h, hpw]
  · right
    have : i = l.length := by omega
    subst this
    rw [List.take_length]
    constructor <;> simp -implicitDefEqProofs [l65_1]
end
section
variable {T : Tbl} [CNat T] [CProd T] [CDigits T]
end
section
variable {T : Tbl} [CProd T] [CDigits T]
theorem digits_read (l : List UInt8) (hl : l.length ≤ 1000000) : callF T 65 [.s l] = some (.tup (if 0 ≤ wrongI l then [.sl [] .an, .agg [.i .i64 1, .i .i64 0, .i .i64 0, .i .i64 (wrongI l)]]
    else [.sl (u32s (ofN (rd l))) .an, .agg [.i .i64 0, .i .i64 0, .i .i64 0, .i .i64 0]])) := by
  have hw := digits_wrong (T := T) l hl
  rw [f65 _ rfl, b65]
  by_cases h0 : 0 ≤ wrongI l
  · simp -implicitDefEqProofs [hw, h0]
  · have h1 : wrAt 0 l < 0 := by
      unfold wrongI at h0
      split at h0
      · omega
      · omega
    obtain ⟨h2, h3⟩ := wrAt_neg 0 l (Nat.zero_le _) h1
    have h := ro_loop (T := T) l (by omega) h3 0 (Nat.zero_le _)
    simp [show rd [] = 0 from rfl] at h
    simp -implicitDefEqProofs [hw, h0, h]
end
section
variable {T : Tbl} [CNat T] [CProd T] [CDigits T]
end
end Go.Ab
end

section
/-
  Code with remarks of some functions, by program (AxPrint), and the rules to run them.
-/
namespace Go.Ab

class CText (T : Tbl) : Prop where
  h68 : T 68 = some ⟨0, 0, [], .prim prim68, none, false⟩

section
variable {T : Tbl} [CText T] {d : Option Nat} {st : St}
@[simp] theorem x68 (xs : List AV) : callX (orc T) T 68 xs d st = bL (frzL st.heap xs) fun ys => cR (callF T 68 (ys.map (wkIf false))) xs d st := callX_pure CText.h68
@[simp] theorem y68 {e : Env} {h : Heap} {older : List Heap} (args : List Opd) : opD (orc T) T (.call 68 args) e h older = dR (callF T 68 ((args.map (ev e.get)).map (wkIf false))) (args.map (ev e.get)) := opD_call CText.h68
theorem p68 (xs : List AV) : callF T 68 xs = prim68 xs := callF_prim CText.h68
end
end Go.Ab
end

section
/-
  Code with remarks of some functions, by program (AxPrint), and the rules to run them.
-/
namespace Go.Ab

/- strings.TrimLeft -/
def b103 : AX :=
 (.seq
  (.reg [⟨(some 4), none, .mov (.c (.s []))⟩])
  (.seq
   (.seq
    (.reg [⟨(some 7), none, .mov (.t 0)⟩,
      ⟨(some 8), none, .bin .eql (.t 7) (.c (.s []))⟩,
      ⟨(some 9), none, .mov (.t 8)⟩,
      ⟨(some 10), (some (9, false)), .mov (.t 1)⟩,
      ⟨(some 11), (some (9, false)), .bin .eql (.t 10) (.c (.s []))⟩,
      ⟨(some 12), none, .pick (.t 9) (.c (.b true)) (.t 11)⟩])
    (.cond (.t 12)
     (.seq
      (.reg [⟨(some 13), none, .mov (.t 0)⟩,
        ⟨(some 4), none, .mov (.t 13)⟩])
      (.pre (.norm false [4]) .ret))
     .skip))
   (.seq
    (.seq
     (.reg [⟨(some 14), none, .mov (.t 1)⟩,
       ⟨(some 15), none, .lens (.t 14)⟩,
       ⟨(some 16), none, .bin .eql (.t 15) (.c (.i .i64 1))⟩,
       ⟨(some 17), none, .mov (.t 16)⟩,
       ⟨(some 18), (some (17, true)), .mov (.t 1)⟩,
       ⟨(some 19), (some (17, true)), .ixs (.t 18) (.c (.i .i64 0))⟩,
       ⟨(some 20), (some (17, true)), .bin .lss (.t 19) (.c (u8 128))⟩,
       ⟨(some 21), none, .pick (.t 17) (.t 20) (.c (.b false))⟩])
     (.cond (.t 21)
      (.seq
       (.reg [⟨(some 22), none, .mov (.t 0)⟩,
         ⟨(some 23), none, .mov (.t 1)⟩,
         ⟨(some 24), none, .ixs (.t 23) (.c (.i .i64 0))⟩,
         ⟨(some 25), none, .call 125 [(.t 22), (.t 24)]⟩,
         ⟨(some 4), none, .mov (.t 25)⟩])
       (.pre (.norm false [4]) .ret))
      .skip))
    (.seq
     (.seq
      (.reg [⟨(some 27), none, .mov (.t 1)⟩,
        ⟨(some 28), none, .call 126 [(.t 27)]⟩,
        ⟨(some 26), none, .mov (.t 28)⟩,
        ⟨(some 29), none, .ext (.t 26) 0⟩,
        ⟨(some 30), none, .ext (.t 26) 1⟩,
        ⟨(some 5), none, .alloc [(.b false), (.b false), (.b false), (.b false), (.b false), (.b false), (.b false), (.b false), (.b false), (.b false), (.b false), (.b false), (.b false), (.b false), (.b false), (.b false), (.b false), (.b false), (.b false), (.b false), (.b false), (.b false), (.b false), (.b false), (.b false), (.b false), (.b false), (.b false), (.b false), (.b false), (.b false), (.b false), (.b false), (.b false), (.b false), (.b false), (.b false), (.b false), (.b false), (.b false), (.b false), (.b false), (.b false), (.b false), (.b false), (.b false), (.b false), (.b false), (.b false), (.b false), (.b false), (.b false), (.b false), (.b false), (.b false), (.b false), (.b false), (.b false), (.b false), (.b false), (.b false), (.b false), (.b false), (.b false), (.b false), (.b false), (.b false), (.b false), (.b false), (.b false), (.b false), (.b false), (.b false), (.b false), (.b false), (.b false), (.b false), (.b false), (.b false), (.b false), (.b false), (.b false), (.b false), (.b false), (.b false), (.b false), (.b false), (.b false), (.b false), (.b false), (.b false), (.b false), (.b false), (.b false), (.b false), (.b false), (.b false), (.b false), (.b false), (.b false), (.b false), (.b false), (.b false), (.b false), (.b false), (.b false), (.b false), (.b false), (.b false), (.b false), (.b false), (.b false), (.b false), (.b false), (.b false), (.b false), (.b false), (.b false), (.b false), (.b false), (.b false), (.b false), (.b false), (.b false), (.b false), (.b false), (.b false), (.b false), (.b false), (.b false), (.b false), (.b false), (.b false), (.b false), (.b false), (.b false), (.b false), (.b false), (.b false), (.b false), (.b false), (.b false), (.b false), (.b false), (.b false), (.b false), (.b false), (.b false), (.b false), (.b false), (.b false), (.b false), (.b false), (.b false), (.b false), (.b false), (.b false), (.b false), (.b false), (.b false), (.b false), (.b false), (.b false), (.b false), (.b false), (.b false), (.b false), (.b false), (.b false), (.b false), (.b false), (.b false), (.b false), (.b false), (.b false), (.b false), (.b false), (.b false), (.b false), (.b false), (.b false), (.b false), (.b false), (.b false), (.b false), (.b false), (.b false), (.b false), (.b false), (.b false), (.b false), (.b false), (.b false), (.b false), (.b false), (.b false), (.b false), (.b false), (.b false), (.b false), (.b false), (.b false), (.b false), (.b false), (.b false), (.b false), (.b false), (.b false), (.b false), (.b false), (.b false), (.b false), (.b false), (.b false), (.b false), (.b false), (.b false), (.b false), (.b false), (.b false), (.b false), (.b false), (.b false), (.b false), (.b false), (.b false), (.b false), (.b false), (.b false), (.b false), (.b false), (.b false), (.b false), (.b false), (.b false), (.b false), (.b false), (.b false), (.b false), (.b false), (.b false), (.b false), (.b false), (.b false), (.b false), (.b false), (.b false), (.b false), (.b false), (.b false), (.b false), (.b false), (.b false), (.b false), (.b false), (.b false)]⟩,
        ⟨none, none, .store 256 (.t 5) (.t 29)⟩,
        ⟨(some 6), none, .mov (.t 30)⟩])
      (.seq
       (.reg [⟨(some 31), none, .mov (.t 6)⟩])
       (.cond (.t 31)
        (.seq
         (.reg [⟨(some 32), none, .mov (.t 0)⟩,
           ⟨(some 33), none, .call 127 [(.t 32), (.t 5)]⟩,
           ⟨(some 4), none, .mov (.t 33)⟩])
         (.pre (.norm false [4]) .ret))
        .skip)))
     (.seq
      (.reg [⟨(some 34), none, .mov (.t 0)⟩,
        ⟨(some 35), none, .mov (.t 1)⟩,
        ⟨(some 36), none, .call 128 [(.t 34), (.t 35)]⟩,
        ⟨(some 4), none, .mov (.t 36)⟩])
      (.pre (.norm false [4]) .ret))))))

/- strings.trimLeftByte -/
def l125_0 : AX :=
 (.note
 (.seq
  (.seq
   (.reg [⟨(some 5), none, .mov (.t 0)⟩,
     ⟨(some 6), none, .lens (.t 5)⟩,
     ⟨(some 7), none, .bin .gtr (.t 6) (.c (.i .i64 0))⟩,
     ⟨(some 8), none, .mov (.t 7)⟩,
     ⟨(some 9), (some (8, true)), .mov (.t 0)⟩,
     ⟨(some 10), (some (8, true)), .ixs (.t 9) (.c (.i .i64 0))⟩,
     ⟨(some 11), (some (8, true)), .mov (.t 1)⟩,
     ⟨(some 12), (some (8, true)), .bin .eql (.t 10) (.t 11)⟩,
     ⟨(some 13), none, .pick (.t 8) (.t 12) (.c (.b false))⟩])
   (.cond (.t 13)
    .skip
    (.exit 0)))
  (.block 1
   (.reg [⟨(some 14), none, .mov (.t 0)⟩,
     ⟨(some 15), none, .slstr (.t 14) (some (.c (.i .i64 1))) none⟩,
     ⟨(some 0), none, .mov (.t 15)⟩])))
 (.norm false [0, 1]))

def b125 : AX :=
 (.seq
  (.reg [⟨(some 4), none, .mov (.c (.s []))⟩])
  (.seq
   (.lp 0 (.norm false [0, 1]) l125_0 (.norm false [0]))
   (.seq
    (.reg [⟨(some 16), none, .mov (.t 0)⟩,
      ⟨(some 4), none, .mov (.t 16)⟩])
    (.pre (.norm false [4]) .ret))))

class CTrim (T : Tbl) : Prop where
  h103 : T 103 = some ⟨2, 37, [.t 4], b103, none, false⟩
  h125 : T 125 = some ⟨2, 17, [.t 4], b125, none, false⟩

section
variable {T : Tbl} [CTrim T] {d : Option Nat} {st : St}
@[simp] theorem x103 (xs : List AV) : callX (orc T) T 103 xs d st = bL (frzL st.heap xs) fun ys => cR (callF T 103 (ys.map (wkIf false))) xs d st := callX_pure CTrim.h103
@[simp] theorem y103 {e : Env} {h : Heap} {older : List Heap} (args : List Opd) : opD (orc T) T (.call 103 args) e h older = dR (callF T 103 ((args.map (ev e.get)).map (wkIf false))) (args.map (ev e.get)) := opD_call CTrim.h103
theorem f103 (xs : List AV) (hn : xs.length = 2) : callF T 103 xs = retF [.t 4] false (evX (orc T) T 0 b103 ⟨argEnv xs, [], 1⟩) := callF_eq CTrim.h103 hn
@[simp] theorem x125 (xs : List AV) : callX (orc T) T 125 xs d st = bL (frzL st.heap xs) fun ys => cR (callF T 125 (ys.map (wkIf false))) xs d st := callX_pure CTrim.h125
@[simp] theorem y125 {e : Env} {h : Heap} {older : List Heap} (args : List Opd) : opD (orc T) T (.call 125 args) e h older = dR (callF T 125 ((args.map (ev e.get)).map (wkIf false))) (args.map (ev e.get)) := opD_call CTrim.h125
theorem f125 (xs : List AV) (hn : xs.length = 2) : callF T 125 xs = retF [.t 4] false (evX (orc T) T 0 b125 ⟨argEnv xs, [], 1⟩) := callF_eq CTrim.h125 hn
end
end Go.Ab
end

section
/-
  strings.TrimLeft by one byte.
-/
namespace Go.Ab
section
variable {T : Tbl} [CTrim T]

end
section
variable {T : Tbl}
theorem trimL_loop (res : List UInt8) : ∀ l : List UInt8, (l.length ≤ 1000000 ∧ l.dropWhile (· == 48) = res) →
    loopN T 0 0 (.norm false [0]) l125_0 ⟨[(0, .s l), (1, u8 48)], [], 2⟩ = some (.n, ⟨[(0, .s res)], [], 2⟩) := by
  refine loopN_eq (fun l : List UInt8 => ⟨[(0, .s l), (1, u8 48)], [], 2⟩) _ (fun l => l.length) _ ?_
  rintro l ⟨hl, hr⟩
  cases l with
  | nil =>
    right
    simp at hr
    subst hr
    constructor <;> simp -implicitDefEqProofs [l125_0]
  | cons c r =>
    simp only [List.length_cons] at hl
    have h2 : (0 : Int) < (r.length : Int) + 1 := by omega
    have h3 : (1 : Int) ≤ (r.length : Int) + 1 := by omega
    by_cases hc : c = 48
    · left
      subst hc
      rw [List.dropWhile_cons_of_pos (by decide)] at hr
      exact ⟨r, ⟨by omega, hr⟩, Nat.lt_succ_self _, by simp -implicitDefEqProofs [l125_0, h2, h3], rfl⟩
    · right
      rw [List.dropWhile_cons_of_neg (by simpa using hc)] at hr
      subst hr
      have hc' : ¬ c.toNat = 48 := fun h => hc (UInt8.toNat_inj.1 h)
      constructor <;> simp -implicitDefEqProofs [l125_0, h2, hc']

end
section
variable {T : Tbl} [CTrim T]
theorem trim_left (l : List UInt8) (hl : l.length ≤ 1000000) : callF T 103 [.s l, .s [48]] = some (.s (l.dropWhile (· == 48))) := by
  have h := trimL_loop (T := T) _ l ⟨hl, rfl⟩
  have h1 : callF T 125 [.s l, u8 48] = some (.s (l.dropWhile (· == 48))) := by
    rw [f125 _ rfl, b125]
    simp -implicitDefEqProofs [h]
  obtain ⟨Z, hZ⟩ : ∃ Z, b103 = (.seq
  (.reg [⟨(some 4), none, .mov (.c (.s []))⟩])
  (.seq
   (.seq
    (.reg [⟨(some 7), none, .mov (.t 0)⟩,
      ⟨(some 8), none, .bin .eql (.t 7) (.c (.s []))⟩,
      ⟨(some 9), none, .mov (.t 8)⟩,
      ⟨(some 10), (some (9, false)), .mov (.t 1)⟩,
      ⟨(some 11), (some (9, false)), .bin .eql (.t 10) (.c (.s []))⟩,
      ⟨(some 12), none, .pick (.t 9) (.c (.b true)) (.t 11)⟩])
    (.cond (.t 12)
     (.seq
      (.reg [⟨(some 13), none, .mov (.t 0)⟩,
        ⟨(some 4), none, .mov (.t 13)⟩])
      (.pre (.norm false [4]) .ret))
     .skip))
   (.seq
    (.seq
     (.reg [⟨(some 14), none, .mov (.t 1)⟩,
       ⟨(some 15), none, .lens (.t 14)⟩,
       ⟨(some 16), none, .bin .eql (.t 15) (.c (.i .i64 1))⟩,
       ⟨(some 17), none, .mov (.t 16)⟩,
       ⟨(some 18), (some (17, true)), .mov (.t 1)⟩,
       ⟨(some 19), (some (17, true)), .ixs (.t 18) (.c (.i .i64 0))⟩,
       ⟨(some 20), (some (17, true)), .bin .lss (.t 19) (.c (u8 128))⟩,
       ⟨(some 21), none, .pick (.t 17) (.t 20) (.c (.b false))⟩])
     (.cond (.t 21)
      (.seq
       (.reg [⟨(some 22), none, .mov (.t 0)⟩,
         ⟨(some 23), none, .mov (.t 1)⟩,
         ⟨(some 24), none, .ixs (.t 23) (.c (.i .i64 0))⟩,
         ⟨(some 25), none, .call 125 [(.t 22), (.t 24)]⟩,
         ⟨(some 4), none, .mov (.t 25)⟩])
       (.pre (.norm false [4]) .ret))
      .skip)) Z)) : AX) := ⟨_, rfl⟩
  rw [f103 _ rfl, hZ]
  by_cases h0 : l = []
  · subst h0
    simp -implicitDefEqProofs
  · simp -implicitDefEqProofs [h0, h1]
end
end Go.Ab
end

section
/-
  A function of which only the front part is reckoned: its code's wp from what that part comes to.
-/
namespace Go.Ab
variable {P : Program} {ν : Nat → FuncId} {T : Tbl}

theorem ev_wp (hT : TOk P ν T) (hm : P.follows .mixedOrders = true) {cx : Cx} (hP : cx.P = P) (hk : cx.clk0 = 1) (c : AX) {code : Code} {nt : Nat} (hnt : cx.nt = nt) (hres : resCode P nt code = some (er ν c)) {st : St} {e : Ex} {st' : St}
    (h : evX (orc T) T 0 c st = some (e, st')) {a : Act} {w : World} (hr : Rel cx st a w) {K : Exit → Act → World → Prop} (hK : ∀ a' w', Rel cx st' a' w' → K e.out a' w') : code.wp P K a w := by
  obtain ⟨L, h1, h2⟩ := evX_fin T 0 c st _ _ h
  obtain ⟨n, hn⟩ := orc_all T h1
  have hev := evX_sound (GoodO.orcN hT hm n) (k := 0) (cx := cx) hP hk c st e st' (h2 _ hn)
  subst hP hnt
  refine wp_mono (hev code hres hm a w hr) ?_
  rintro ex a' w' ⟨s, ⟨rfl, rfl⟩, hr'⟩
  exact hK a' w' hr'

/-- a function's start -/
theorem start_rel {nt : Nat} {w : World} {S : Nat → Nat → Prop} {cargs : Array Value} {args : List AV} (hl : cargs.size = args.length) (hn : args.length ≤ nt)
    (hC : ∀ (j : Nat) (v : Value) (c : AV), cargs[j]? = some v → args[j]? = some c → CP w S v c) (hS : ∀ k o, S k o → k < w.heap.size) :
    Rel ⟨P, nt, w, S, fun _ => none, 1⟩ ⟨argEnv args, [], 1⟩ { tmps := cargs ++ Array.replicate (nt - cargs.size) undef, defers := [] } w := by
  refine ⟨S, fun _ => none, by simp; omega, rfl, fun t => ?_, ⟨⟨fun b bx hb => (by simp at hb), fun g m hm => (by cases hm), fun b bx b' bx' h1 => (by simp at h1), fun g g' k h1 => (by cases h1)⟩,
    Ext.refl _ _ _ _, ⟨rfl, rfl, rfl, Nat.le_refl _, fun _ _ _ => rfl⟩, fun k o hs => .inl hs, hS, fun g k hm => (by cases hm)⟩⟩
  rw [argEnv_get]
  cases ha : args[t]? with
  | none => exact .p (.dead _)
  | some x =>
    have htl := get_lt ha
    have hv : cargs[t]? = some (cargs[t]'(by omega)) := Array.getElem?_eq_getElem _
    have e1 : (cargs ++ Array.replicate (nt - cargs.size) undef).getD t undef = cargs[t]'(by omega) := by
      simp only [Array.getD_eq_getD_getElem?]
      rw [Array.getElem?_append_left (by omega), hv]
      rfl
    rw [e1]
    exact .p (hC t _ x hv ha)

/-- what it has left alone -/
theorem Rel.below {nt : Nat} {w0 : World} {S : Nat → Nat → Prop} {st : St} {a : Act} {w : World} (h : Rel ⟨P, nt, w0, S, fun _ => none, 1⟩ st a w) : RowKit.Below w0.heap.size w0 w := by
  obtain ⟨S', M', hr⟩ := h
  exact ⟨hr.wr.fr.os, hr.wr.fr.tape, hr.wr.fr.output, hr.wr.fr.size, fun k hk => hr.wr.fr.block k hk fun ⟨g, hg⟩ => (by cases hg)⟩

theorem Rel.strAt {cx : Cx} {st : St} {a : Act} {w : World} (h : Rel cx st a w) {t : Nat} {l : List UInt8} (he : st.env.get t = .s l) : a.tmps.getD t undef = .string ⟨l.toArray⟩ := by
  obtain ⟨S', M', hr⟩ := h
  have := hr.env t
  rw [he] at this
  generalize a.tmps.getD t undef = v at *
  cases this with
  | p h => cases h; rfl

/-- a grown slice of texts -/
theorem Rel.strs {cx : Cx} {st : St} {a : Act} {w : World} (h : Rel cx st a w) {t : Nat} {b : BId} {g n : Nat} {ls : List (List UInt8)} (hne : ls ≠ []) (he : st.env.get t = .bs b g 1 0 n)
    (hb : st.heap.lookup b = some ⟨g, .own, 1, ls.map fun s => [.s s]⟩) : ∃ k arr e cap, a.tmps.getD t undef = .slice (some ⟨k, 0, none⟩) n cap ∧ w.heap[k]? = some (.cells arr e (0, 0)) ∧ n ≤ cap ∧ cap ≤ maxLen ∧ cap ≤ arr.size ∧
      ∀ (i : Nat) (s : List UInt8), ls[i]? = some s → arr[i]? = some (Value.string ⟨s.toArray⟩) := by
  obtain ⟨S', M', hr⟩ := h
  have h1 := hr.env t
  rw [he] at h1
  obtain ⟨_, _, m, hm, h2⟩ := hr.wr.heap.box b _ hb
  simp only at hm h2
  generalize a.tmps.getD t undef = v at *
  cases h1 with
  | p h => cases h
  | bs _ _ _ _ _ _ hg hB h1 =>
    unfold BsOk at hB
    rw [hm] at hB
    cases m with
    | none => exact absurd (by simpa using h2.1) hne
    | some k =>
      obtain ⟨arr, e, cap, hk, hv, c1, c2, c3⟩ := hB
      obtain ⟨arr', e', hk', _, hcells, _⟩ := h2
      rw [hk] at hk'
      cases hk'
      refine ⟨k, arr, e, cap, by rw [hv], hk, c1, c2, by omega, fun i s hi => ?_⟩
      obtain ⟨u, hu, _, _, hc⟩ := hcells i [.s s] 0 (.s s) (by simp [hi]) rfl
      have := hc (by simp)
      rw [Nat.mul_one, Nat.add_zero] at hu
      cases this
      exact hu
end Go.Ab
end

section
/-
  digits.Text: what its first half computes (the pieces of nine digits each, the lowest first).
-/
namespace Go.Ab

/-- the pieces of nine digits, the lowest first -/
def pieces (n : Nat) : List (List UInt8) := if h : n = 0 then [] else digK 9 (n % 1000000000) :: pieces (n / 1000000000)
termination_by n
decreasing_by exact Nat.div_lt_self (Nat.pos_of_ne_zero h) (by decide)

theorem pieces_zero : pieces 0 = [] := by unfold pieces; simp
theorem pieces_pos {n : Nat} (h : n ≠ 0) : pieces n = digK 9 (n % 1000000000) :: pieces (n / 1000000000) := by
  conv => lhs; unfold pieces
  rw [dif_neg h]

def rowsS (l : List (List UInt8)) : List (List AV) := l.map fun s => [.s s]
@[simp] theorem rowsS_length (l : List (List UInt8)) : (rowsS l).length = l.length := by simp [rowsS]

@[simp] theorem rowsS_wk (l : List (List UInt8)) : wkL (rowsS l) = rowsS l := by
  induction l with
  | nil => rfl
  | cons x l ih => simpa [rowsS, wkL, wkR] using ih
@[simp] theorem rowsS_rf (l : List (List UInt8)) : ((rowsS l).flatMap fun r => r.flatMap rfA) = [] := by
  induction l with
  | nil => rfl
  | cons x l ih => simp [rowsS, rfA]
theorem rowsS_app (l : List (List UInt8)) (s : List UInt8) : rowsS l ++ [[.s s]] = rowsS (l ++ [s]) := by simp [rowsS]

def txL : AX :=
 (.note
 (.seq
  (.seq
   (.reg [⟨(some 11), none, .mov (.t 0)⟩,
     ⟨(some 12), none, .call 70 [(.t 11)]⟩,
     ⟨(some 13), none, .un .not (.t 12)⟩])
   (.cond (.t 13)
    .skip
    (.exit 0)))
  (.block 1
   (.seq
    (.reg [⟨(some 15), none, .mov (.t 0)⟩,
      ⟨(some 16), none, .call 90 [(.t 15), (.c (u32 1000000000))]⟩,
      ⟨(some 14), none, .mov (.t 16)⟩,
      ⟨(some 17), none, .ext (.t 14) 0⟩,
      ⟨(some 18), none, .ext (.t 14) 1⟩,
      ⟨(some 19), none, .ext (.t 14) 2⟩,
      ⟨(some 4), none, .mov (.t 17)⟩,
      ⟨(some 5), none, .mov (.t 18)⟩,
      ⟨(some 6), none, .mov (.t 19)⟩])
    (.seq
     (.reg [⟨(some 20), none, .mov (.t 3)⟩,
       ⟨(some 21), none, .mov (.t 5)⟩,
       ⟨(some 22), none, .call 101 [(.t 21)]⟩,
       ⟨(some 23), none, .bsl 1 [(.s [])] 1 [(0, (.t 22))]⟩,
       ⟨(some 24), none, .app 1 (.t 20) (.t 23)⟩,
       ⟨(some 3), none, .mov (.t 24)⟩])
     (.reg [⟨(some 25), none, .mov (.t 4)⟩,
       ⟨(some 0), none, .mov (.t 25)⟩])))))
 (.norm false [0, 3]))
def tx0 : AX := (.reg [⟨(some 2), none, .mov (.c (.s []))⟩])
def txA : AX :=
   (.seq
    (.reg [⟨(some 9), none, .mov (.t 0)⟩,
      ⟨(some 10), none, .call 70 [(.t 9)]⟩])
    (.cond (.t 10)
     (.seq
      (.reg [⟨(some 2), none, .mov (.c (.s [48]))⟩])
      (.pre (.norm false [2]) .ret))
     .skip))
def tx3 : AX := (.note (.reg [⟨(some 3), none, .mov (.c (.sl [] .nl))⟩]) (.nil 3 1))
def txP : AX := (.lp 0 (.norm false [0, 3]) txL (.norm false [3]))

section
variable {T : Tbl} [CNat T] [CProd T] [CTwos T] [CQuot T] [CDigits T]

end
section
variable {T : Tbl}
theorem txt_0 (x : AV) : evX (orc T) T 0 tx0 ⟨argEnv [x], [], 1⟩ = some (.n, ⟨[(2, .s []), (0, x)], [], 1⟩) := by
  simp -implicitDefEqProofs [tx0]



end
section
variable {T : Tbl} [CNat T] [CProd T] [CTwos T] [CQuot T] [CDigits T]
end
section
variable {T : Tbl} [CNat T]
theorem txt_A0 (a : List UInt32) (hl : a.length ≤ 1000) (h0 : val a = 0) : evX (orc T) T 0 txA ⟨[(2, .s []), (0, .sl (u32s a) .an)], [], 1⟩ = some (.r, ⟨[(2, .s [48])], [], 2⟩) := by
  have hz := nat_zero (T := T) a (by omega)
  simp -implicitDefEqProofs [txA, hz, h0]
end
section
variable {T : Tbl} [CNat T] [CProd T] [CTwos T] [CQuot T] [CDigits T]
end
section
variable {T : Tbl} [CNat T]
theorem txt_A1 (a : List UInt32) (hl : a.length ≤ 1000) (h0 : val a ≠ 0) : evX (orc T) T 0 txA ⟨[(2, .s []), (0, .sl (u32s a) .an)], [], 1⟩ =
    some (.n, ⟨[(10, .b false), (9, .sl (u32s a) .an), (2, .s []), (0, .sl (u32s a) .an)], [], 1⟩) := by
  have hz := nat_zero (T := T) a (by omega)
  simp -implicitDefEqProofs [txA, hz, h0]

end
section
variable {T : Tbl} [CNat T] [CProd T] [CTwos T] [CQuot T] [CDigits T]
def stTp (a : List UInt32) (l : List (List UInt8)) : St := ⟨[(0, .sl (u32s a) .an), (3, .bs (.loc 3) 1 1 0 l.length)], [((.loc 3), ⟨1, .own, 1, rowsS l⟩)], 3⟩
theorem rowsS_take (l : List (List UInt8)) (s : List UInt8) : wkL (List.take l.length (rowsS l) ++ [[AV.s s]]) = rowsS (l ++ [s]) := by
  rw [List.take_of_length_le (by simp), rowsS_app, rowsS_wk]

end
section
variable {T : Tbl} [CNat T] [CQuot T] [CDigits T]
theorem txt_loop (N : Nat) (hN : N ≤ 4294967295) (L : List (List UInt8)) : ∀ y : List UInt32 × List (List UInt8), (y.1.length ≤ 1000 ∧ y.2 ++ pieces (val y.1) = L ∧ L.length = N) →
    loopN T 0 0 (Gh.norm false [3]) txL (stTp y.1 y.2) = some (.n, ⟨[(3, .bs (.loc 3) 1 1 0 L.length)], [((.loc 3), ⟨1, .own, 1, rowsS L⟩)], 3⟩) := by
  refine loopN_eq (fun y : List UInt32 × List (List UInt8) => stTp y.1 y.2) _ (fun y => val y.1) _ ?_
  rintro ⟨a, l⟩ ⟨ha, hL, hn⟩
  simp only at ha hL hn
  have hz := nat_zero (T := T) a (by omega)
  by_cases h0 : val a = 0
  · right
    rw [h0, pieces_zero, List.append_nil] at hL
    subst hL
    constructor <;> simp -implicitDefEqProofs [txL, stTp, hz, h0]
  · left
    have hq := quot_word (T := T) a 1000000000 (by omega) (by omega) (by omega)
    have hn9 := digits_nine (T := T) (val a % 1000000000) (by omega)
    have hlen : (ofN (val a / 1000000000)).length ≤ a.length := Nat.le_trans (ofN_len_le (Nat.div_le_self _ _)) (ofN_length_le a)
    rw [pieces_pos h0] at hL
    have hll : l.length ≤ 4294967295 := by have := congrArg List.length hL; simp at this; omega
    refine ⟨(ofN (val a / 1000000000), l ++ [digK 9 (val a % 1000000000)]), ⟨by simp only; omega, by simp only [val_ofN, List.append_assoc, List.singleton_append]; exact hL, hn⟩, ?_, ?_, rfl⟩
    · simp only [val_ofN]
      exact Nat.div_lt_self (Nat.pos_of_ne_zero h0) (by decide)
    · simp -implicitDefEqProofs [txL, stTp, hz, hq, hn9, h0, hll, rowsS_take]

end
section
variable {T : Tbl} [CNat T] [CProd T] [CTwos T] [CQuot T] [CDigits T]
theorem pieces_length : ∀ k n, n < 1000000000 ^ k → (pieces n).length ≤ k
  | 0, n, h => by
    have : n = 0 := by omega
    subst this
    simp [pieces_zero]
  | k + 1, n, h => by
    by_cases h0 : n = 0
    · subst h0; simp [pieces_zero]
    · rw [pieces_pos h0]
      have := pieces_length k (n / 1000000000) (Nat.div_lt_of_lt_mul (by rw [Nat.mul_comm, ← Nat.pow_succ]; exact h))
      simp only [List.length_cons]
      omega

theorem pieces_le (a : List UInt32) : (pieces (val a)).length ≤ 2 * a.length := by
  refine pieces_length _ _ (Nat.lt_of_lt_of_le (val_lt a) ?_)
  rw [Nat.pow_mul]
  exact Nat.pow_le_pow_left (by decide) _

theorem pieces_nine : ∀ n, ∀ s ∈ pieces n, s.length = 9 := by
  intro n
  induction n using Nat.strongRecOn with
  | _ n ih =>
    intro s hs
    by_cases h0 : n = 0
    · subst h0; simp [pieces_zero] at hs
    · rw [pieces_pos h0] at hs
      rcases List.mem_cons.1 hs with rfl | hs
      · exact digK_length 9 _
      · exact ih _ (Nat.div_lt_self (Nat.pos_of_ne_zero h0) (by decide)) s hs

theorem digK_textN : ∀ (k n : Nat), n ≠ 0 → n < 10 ^ k → (digK k n).dropWhile (· == 48) = textN n
  | 0, n, h0, h => by omega
  | k + 1, n, h0, h => by
    rw [digK_succ]
    by_cases h1 : n < 10
    · have e : n / 10 = 0 := by omega
      have e2 : n % 10 = n := by omega
      have hz : ∀ j, (digK j 0).dropWhile (· == 48) = [] := by
        intro j
        induction j with
        | zero => rfl
        | succ j ih => rw [digK_succ, List.dropWhile_append, Nat.zero_div, ih]; rfl
      rw [e, e2, List.dropWhile_append, hz, textN_small h1]
      have : ∀ d, d < 10 → d ≠ 0 → List.dropWhile (fun x => x == 48) [UInt8.ofNat (48 + d)] = [UInt8.ofNat (48 + d)] := by decide
      simpa using this n h1 h0
    · have ih := digK_textN k (n / 10) (by omega) (Nat.div_lt_of_lt_mul (by rw [Nat.mul_comm, ← Nat.pow_succ]; exact h))
      have hne : textN (n / 10) ≠ [] := by
        unfold textN
        by_cases h2 : n / 10 < 10
        · rw [digs_small h2]; simp
        · rw [digs_big h2]; simp
      rw [List.dropWhile_append, ih, textN_big h1]
      rw [if_neg (by simpa using hne)]

theorem digK_add (j : Nat) : ∀ (k n : Nat), digK (j + k) n = digK j (n / 10 ^ k) ++ digK k (n % 10 ^ k)
  | 0, n => by simp [digK_zero]
  | k + 1, n => by
    rw [← Nat.add_assoc, digK_succ, digK_add j k (n / 10), digK_succ, List.append_assoc]
    have e1 : n / 10 / 10 ^ k = n / 10 ^ (k + 1) := by rw [Nat.div_div_eq_div_mul, Nat.pow_succ, Nat.mul_comm]
    have e2 : n / 10 % 10 ^ k = n % 10 ^ (k + 1) / 10 := by rw [Nat.pow_succ, Nat.mul_comm, Nat.mod_mul_right_div_self]
    have e3 : n % 10 ^ (k + 1) % 10 = n % 10 := by rw [Nat.pow_succ, Nat.mod_mul_left_mod]
    rw [e1, e2, e3]

/-- the pieces, joined from the last one on, are the digits with noughts ahead -/
theorem pieces_join : ∀ n, (pieces n).reverse.flatten = digK (9 * (pieces n).length) n := by
  intro n
  induction n using Nat.strongRecOn with
  | _ n ih =>
    by_cases h0 : n = 0
    · subst h0; simp [pieces_zero, digK_zero]
    · rw [pieces_pos h0, List.reverse_cons, List.flatten_append, ih _ (Nat.div_lt_self (Nat.pos_of_ne_zero h0) (by decide))]
      simp only [List.length_cons, List.flatten_cons, List.flatten_nil, List.append_nil]
      rw [show 9 * ((pieces (n / 1000000000)).length + 1) = 9 * (pieces (n / 1000000000)).length + 9 by omega, digK_add]
theorem pieces_lt : ∀ n, n < 10 ^ (9 * (pieces n).length) := by
  intro n
  induction n using Nat.strongRecOn with
  | _ n ih =>
    by_cases h0 : n = 0
    · subst h0; simp [pieces_zero]
    · have h := ih _ (Nat.div_lt_self (Nat.pos_of_ne_zero h0) (by decide : 1 < 1000000000))
      rw [pieces_pos h0, List.length_cons, Nat.mul_add, Nat.pow_add]
      exact (Nat.div_lt_iff_lt_mul (by decide : 0 < 10 ^ (9 * 1))).1 h
theorem pieces_text (n : Nat) (h : n ≠ 0) : ((pieces n).reverse.flatten).dropWhile (· == 48) = textN n := by
  rw [pieces_join]
  exact digK_textN _ n h (pieces_lt n)
theorem flatten_nine : ∀ (l : List (List UInt8)), (∀ s ∈ l, s.length = 9) → l.flatten.length = 9 * l.length
  | [], _ => rfl
  | s :: l, h => by
    rw [List.flatten_cons, List.length_append, h s List.mem_cons_self, flatten_nine l fun s hs => h s (List.mem_cons_of_mem _ hs), List.length_cons]
    omega

def stT3 (a : List UInt32) : St := ⟨[(3, .bs (.loc 3) 1 1 0 0), (3, .sl [] .nl), (10, .b false), (9, .sl (u32s a) .an), (2, .s []), (0, .sl (u32s a) .an)], [(.loc 3, ⟨1, .own, 1, []⟩)], 2⟩
end
section
variable {T : Tbl}
theorem txt_3 (a : List UInt32) : evX (orc T) T 0 tx3 ⟨[(10, .b false), (9, .sl (u32s a) .an), (2, .s []), (0, .sl (u32s a) .an)], [], 1⟩ = some (.n, stT3 a) := by
  simp -implicitDefEqProofs [tx3, stT3]

end
section
variable {T : Tbl} [CNat T] [CProd T] [CTwos T] [CQuot T] [CDigits T]
end
section
variable {T : Tbl} [CNat T] [CQuot T] [CDigits T]
/-- the first half -/
theorem txt_P (a : List UInt32) (hl : a.length ≤ 1000) : evX (orc T) T 0 txP (stT3 a) =
    some (.n, ⟨[(3, .bs (.loc 3) 1 1 0 (pieces (val a)).length)], [((.loc 3), ⟨1, .own, 1, rowsS (pieces (val a))⟩)], 3⟩) := by
  have hp := pieces_le a
  have h := txt_loop (T := T) (pieces (val a)).length (by omega) (pieces (val a)) (a, []) ⟨by simpa using hl, rfl, rfl⟩
  unfold stTp at h
  simp [rowsS] at h
  simp -implicitDefEqProofs [stT3, txP, h, rowsS]
end
section
variable {T : Tbl} [CNat T] [CProd T] [CTwos T] [CQuot T] [CDigits T]
end
end Go.Ab
end

section
/-
  Code with remarks of some functions, by program (AxPrint), and the rules to run them.
-/
namespace Go.Ab

/- retrospect/retrospectref02.Norm -/
def l2043_0 : AX :=
 (.note
 (.seq
  (.seq
   (.reg [⟨(some 6), none, .mov (.t 3)⟩,
     ⟨(some 7), none, .bin .gtr (.t 6) (.c (.i .i64 0))⟩,
     ⟨(some 8), none, .mov (.t 7)⟩,
     ⟨(some 9), (some (8, true)), .mov (.t 0)⟩,
     ⟨(some 10), (some (8, true)), .mov (.t 3)⟩,
     ⟨(some 11), (some (8, true)), .bin .sub (.t 10) (.c (.i .i64 1))⟩,
     ⟨(some 12), (some (8, true)), .iad 1 (.t 9) (.t 11)⟩,
     ⟨(some 13), (some (8, true)), .load none (.t 12)⟩,
     ⟨(some 14), (some (8, true)), .bin .eql (.t 13) (.c (u32 0))⟩,
     ⟨(some 15), none, .pick (.t 8) (.t 14) (.c (.b false))⟩])
   (.cond (.t 15)
    .skip
    (.exit 0)))
  (.block 1
   (.reg [⟨(some 16), none, .mov (.t 3)⟩,
     ⟨(some 17), none, .bin .sub (.t 16) (.c (.i .i64 1))⟩,
     ⟨(some 3), none, .mov (.t 17)⟩])))
 (.norm false [0, 3]))

def b2043 : AX :=
 (.seq
  (.reg [⟨(some 2), none, .mov (.c (.sl [] .nl))⟩])
  (.seq
   (.reg [⟨(some 4), none, .mov (.t 0)⟩,
     ⟨(some 5), none, .len (.t 4)⟩,
     ⟨(some 3), none, .mov (.t 5)⟩])
   (.seq
    (.lp 0 (.norm false [0, 3]) l2043_0 (.norm false [0, 3]))
    (.seq
     (.reg [⟨(some 18), none, .bsl 1 [(u32 0)] 0 []⟩,
       ⟨(some 19), none, .mov (.t 0)⟩,
       ⟨(some 20), none, .mov (.t 3)⟩,
       ⟨(some 21), none, .slc 1 (.t 19) none (some (.t 20)) none⟩,
       ⟨(some 22), none, .app 1 (.t 18) (.t 21)⟩,
       ⟨(some 2), none, .mov (.t 22)⟩])
     (.pre (.norm false [2]) .ret)))))

/- retrospect/retrospectref07.ten -/
def l105_0 : AX :=
 (.note
 (.seq
  (.seq
   (.reg [⟨(some 8), none, .mov (.t 4)⟩,
     ⟨(some 9), none, .bin .geq (.t 8) (.c (.i .i64 0))⟩])
   (.cond (.t 9)
    .skip
    (.exit 0)))
  (.seq
   (.block 1
    (.seq
     (.reg [⟨(some 12), none, .mov (.t 3)⟩,
       ⟨(some 13), none, .bin .mul (.t 12) (.c (u64 4294967296))⟩,
       ⟨(some 14), none, .mov (.t 0)⟩,
       ⟨(some 15), none, .mov (.t 4)⟩,
       ⟨(some 16), none, .iad 1 (.t 14) (.t 15)⟩,
       ⟨(some 17), none, .load none (.t 16)⟩,
       ⟨(some 18), none, .conv .u64 (.t 17)⟩,
       ⟨(some 19), none, .bin .add (.t 13) (.t 18)⟩,
       ⟨(some 3), none, .mov (.t 19)⟩])
     (.seq
      (.reg [⟨(some 20), none, .mov (.t 0)⟩,
        ⟨(some 21), none, .mov (.t 4)⟩,
        ⟨(some 22), none, .mov (.t 3)⟩,
        ⟨(some 23), none, .bin .quo (.t 22) (.c (u64 10))⟩,
        ⟨(some 24), none, .conv .u32 (.t 23)⟩,
        ⟨(some 25), none, .iad 1 (.t 20) (.t 21)⟩,
        ⟨none, none, .store 1 (.t 25) (.t 24)⟩])
      (.reg [⟨(some 26), none, .mov (.t 3)⟩,
        ⟨(some 27), none, .bin .rem (.t 26) (.c (u64 10))⟩,
        ⟨(some 3), none, .mov (.t 27)⟩]))))
   (.reg [⟨(some 10), none, .mov (.t 4)⟩,
     ⟨(some 11), none, .bin .sub (.t 10) (.c (.i .i64 1))⟩,
     ⟨(some 4), none, .mov (.t 11)⟩])))
 (.norm false [0, 3, 4]))

def b105 : AX :=
 (.seq
  (.reg [⟨(some 2), none, .mov (.c (u64 0))⟩])
  (.seq
   (.reg [⟨(some 3), none, .mov (.c (u64 0))⟩])
   (.seq
    (.seq
     (.reg [⟨(some 5), none, .mov (.t 0)⟩,
       ⟨(some 6), none, .len (.t 5)⟩,
       ⟨(some 7), none, .bin .sub (.t 6) (.c (.i .i64 1))⟩,
       ⟨(some 4), none, .mov (.t 7)⟩])
     (.lp 0 (.norm false [0, 3, 4]) l105_0 (.norm false [3])))
    (.seq
     (.reg [⟨(some 28), none, .mov (.t 3)⟩,
       ⟨(some 2), none, .mov (.t 28)⟩])
     (.pre (.norm false [2]) .ret)))))

/- retrospect/retrospectref07.Text -/
def l69_0 : AX :=
 (.note
 (.seq
  (.seq
   (.reg [⟨(some 8), none, .mov (.t 3)⟩,
     ⟨(some 9), none, .len (.t 8)⟩,
     ⟨(some 10), none, .bin .gtr (.t 9) (.c (.i .i64 0))⟩,
     ⟨(some 11), none, .mov (.t 10)⟩,
     ⟨(some 12), (some (11, false)), .mov (.t 4)⟩,
     ⟨(some 13), (some (11, false)), .bin .eql (.t 12) (.c (.s []))⟩,
     ⟨(some 14), none, .pick (.t 11) (.c (.b true)) (.t 13)⟩])
   (.cond (.t 14)
    .skip
    (.exit 0)))
  (.block 1
   (.seq
    (.reg [⟨(some 15), none, .mov (.t 3)⟩,
      ⟨(some 16), none, .call 105 [(.t 15)]⟩,
      ⟨(some 5), none, .mov (.t 16)⟩])
    (.seq
     (.reg [⟨(some 17), none, .mov (.t 5)⟩,
       ⟨(some 18), none, .mov (.t 5)⟩,
       ⟨(some 19), none, .bin .add (.t 18) (.c (u64 1))⟩,
       ⟨(some 20), none, .slstr (.c (.s [48, 49, 50, 51, 52, 53, 54, 55, 56, 57])) (some (.t 17)) (some (.t 19))⟩,
       ⟨(some 21), none, .mov (.t 4)⟩,
       ⟨(some 22), none, .bin .add (.t 20) (.t 21)⟩,
       ⟨(some 4), none, .mov (.t 22)⟩])
     (.reg [⟨(some 23), none, .mov (.t 3)⟩,
       ⟨(some 24), none, .call 2043 [(.t 23)]⟩,
       ⟨(some 3), none, .mov (.t 24)⟩])))))
 (.norm false [3, 4]))

def b69 : AX :=
 (.seq
  (.reg [⟨(some 2), none, .mov (.c (.s []))⟩])
  (.seq
   (.reg [⟨(some 6), none, .mov (.t 0)⟩,
     ⟨(some 7), none, .call 2043 [(.t 6)]⟩,
     ⟨(some 3), none, .mov (.t 7)⟩])
   (.seq
    (.reg [⟨(some 4), none, .mov (.c (.s []))⟩])
    (.seq
     (.lp 0 (.norm false [3, 4]) l69_0 (.norm false [4]))
     (.seq
      (.reg [⟨(some 25), none, .mov (.t 4)⟩,
        ⟨(some 2), none, .mov (.t 25)⟩])
      (.pre (.norm false [2]) .ret))))))

/- retrospect/retrospectref07.Wrong -/
def l66_0 : AX :=
 (.note
 (.seq
  (.seq
   (.reg [⟨(some 6), none, .mov (.t 3)⟩,
     ⟨(some 7), none, .mov (.t 0)⟩,
     ⟨(some 8), none, .lens (.t 7)⟩,
     ⟨(some 9), none, .bin .lss (.t 6) (.t 8)⟩])
   (.cond (.t 9)
    .skip
    (.exit 0)))
  (.seq
   (.block 1
    (.seq
     (.reg [⟨(some 12), none, .mov (.t 0)⟩,
       ⟨(some 13), none, .mov (.t 3)⟩,
       ⟨(some 14), none, .ixs (.t 12) (.t 13)⟩,
       ⟨(some 15), none, .bin .lss (.t 14) (.c (u8 48))⟩,
       ⟨(some 16), none, .mov (.t 15)⟩,
       ⟨(some 17), (some (16, false)), .mov (.t 0)⟩,
       ⟨(some 18), (some (16, false)), .mov (.t 3)⟩,
       ⟨(some 19), (some (16, false)), .ixs (.t 17) (.t 18)⟩,
       ⟨(some 20), (some (16, false)), .bin .gtr (.t 19) (.c (u8 57))⟩,
       ⟨(some 21), none, .pick (.t 16) (.c (.b true)) (.t 20)⟩,
       ⟨(some 22), none, .mov (.t 21)⟩,
       ⟨(some 23), (some (22, false)), .mov (.t 3)⟩,
       ⟨(some 24), (some (22, false)), .bin .geq (.t 23) (.c (.i .i64 60))⟩,
       ⟨(some 25), none, .pick (.t 22) (.c (.b true)) (.t 24)⟩])
     (.cond (.t 25)
      (.seq
       (.reg [⟨(some 26), none, .mov (.t 3)⟩,
         ⟨(some 2), none, .mov (.t 26)⟩])
       (.pre (.norm false [2]) .ret))
      .skip)))
   (.reg [⟨(some 10), none, .mov (.t 3)⟩,
     ⟨(some 11), none, .bin .add (.t 10) (.c (.i .i64 1))⟩,
     ⟨(some 3), none, .mov (.t 11)⟩])))
 (.norm false [0, 3]))

def b66 : AX :=
 (.seq
  (.reg [⟨(some 2), none, .mov (.c (.i .i64 0))⟩])
  (.seq
   (.seq
    (.reg [⟨(some 4), none, .mov (.t 0)⟩,
      ⟨(some 5), none, .bin .eql (.t 4) (.c (.s []))⟩])
    (.cond (.t 5)
     (.seq
      (.reg [⟨(some 2), none, .mov (.c (.i .i64 0))⟩])
      (.pre (.norm false [2]) .ret))
     .skip))
   (.seq
    (.seq
     (.reg [⟨(some 3), none, .mov (.c (.i .i64 0))⟩])
     (.lp 0 (.norm false [0, 3]) l66_0 (.norm false [])))
    (.seq
     (.reg [⟨(some 2), none, .mov (.c (.i .i64 (-1)))⟩])
     (.pre (.norm false [2]) .ret)))))

/- retrospect/retrospectref07.Read -/
def l67_0 : AX :=
 (.note
 (.seq
  (.seq
   (.reg [⟨(some 6), none, .mov (.t 4)⟩,
     ⟨(some 7), none, .mov (.t 0)⟩,
     ⟨(some 8), none, .lens (.t 7)⟩,
     ⟨(some 9), none, .bin .lss (.t 6) (.t 8)⟩])
   (.cond (.t 9)
    .skip
    (.exit 0)))
  (.seq
   (.block 1
    (.drawT [⟨(some 12), none, .mov (.t 3)⟩,
      ⟨(some 13), none, .bsl 1 [(u32 0)] 1 [(0, (.c (u32 10)))]⟩,
      ⟨(some 14), none, .call 61 [(.t 12), (.t 13)]⟩,
      ⟨(some 15), none, .mov (.t 0)⟩,
      ⟨(some 16), none, .mov (.t 4)⟩,
      ⟨(some 17), none, .ixs (.t 15) (.t 16)⟩,
      ⟨(some 18), none, .conv .u32 (.t 17)⟩,
      ⟨(some 19), none, .bin .sub (.t 18) (.c (u32 48))⟩,
      ⟨(some 20), none, .bsl 1 [(u32 0)] 1 [(0, (.t 19))]⟩]
     [⟨(some 21), none, .call 58 [(.t 14), (.t 20)]⟩,
      ⟨(some 3), none, .mov (.t 21)⟩]))
   (.reg [⟨(some 10), none, .mov (.t 4)⟩,
     ⟨(some 11), none, .bin .add (.t 10) (.c (.i .i64 1))⟩,
     ⟨(some 4), none, .mov (.t 11)⟩])))
 (.norm false [0, 3, 4]))

def b67 : AX :=
 (.seq
  (.reg [⟨(some 2), none, .mov (.c (.sl [] .nl))⟩])
  (.seq
   (.reg [⟨(some 5), none, .bsl 1 [(u32 0)] 0 []⟩,
     ⟨(some 3), none, .mov (.t 5)⟩])
   (.seq
    (.seq
     (.reg [⟨(some 4), none, .mov (.c (.i .i64 0))⟩])
     (.lp 0 (.norm false [0, 3, 4]) l67_0 (.norm false [3])))
    (.seq
     (.reg [⟨(some 22), none, .mov (.t 3)⟩,
       ⟨(some 2), none, .mov (.t 22)⟩])
     (.pre (.norm false [2]) .ret)))))

class CRef07 (T : Tbl) : Prop extends CRef05 T where
  h2043 : T 2043 = some ⟨1, 23, [.t 2], b2043, (some [false]), false⟩
  h105 : T 105 = some ⟨1, 29, [.t 2], b105, (some [true]), false⟩
  h69 : T 69 = some ⟨1, 26, [.t 2], b69, none, false⟩
  h66 : T 66 = some ⟨1, 27, [.t 2], b66, none, false⟩
  h67 : T 67 = some ⟨1, 23, [.t 2], b67, none, false⟩

section
variable {T : Tbl} [CRef07 T] {d : Option Nat} {st : St}
@[simp] theorem x2043 (xs : List AV) : callX (orc T) T 2043 xs d st = bL (frzM st.heap [false] xs) fun ys => lentX ys (shareIds (refsM [false] xs) st.heap) (reach (shareIds (refsM [false] xs) st.heap) 40 (rootsM [false] xs) []) T 2043 false d st := callX_lent CRef07.h2043
theorem f2043 (xs : List AV) (hb : Heap) (hn : xs.length = 1) : callH T 2043 xs hb = retH [.t 2] false hb.length (evX (orc T) T hb.length b2043 ⟨argEnv xs, hb, hb.length + 1⟩) := callH_eq CRef07.h2043 hn
@[simp] theorem x105 (xs : List AV) : callX (orc T) T 105 xs d st = bL (frzM st.heap [true] xs) fun ys => lentX ys (shareIds (refsM [true] xs) st.heap) (reach (shareIds (refsM [true] xs) st.heap) 40 (rootsM [true] xs) []) T 105 false d st := callX_lent CRef07.h105
theorem f105 (xs : List AV) (hb : Heap) (hn : xs.length = 1) : callH T 105 xs hb = retH [.t 2] false hb.length (evX (orc T) T hb.length b105 ⟨argEnv xs, hb, hb.length + 1⟩) := callH_eq CRef07.h105 hn
@[simp] theorem x69 (xs : List AV) : callX (orc T) T 69 xs d st = bL (frzL st.heap xs) fun ys => cR (callF T 69 (ys.map (wkIf false))) xs d st := callX_pure CRef07.h69
@[simp] theorem y69 {e : Env} {h : Heap} {older : List Heap} (args : List Opd) : opD (orc T) T (.call 69 args) e h older = dR (callF T 69 ((args.map (ev e.get)).map (wkIf false))) (args.map (ev e.get)) := opD_call CRef07.h69
theorem f69 (xs : List AV) (hn : xs.length = 1) : callF T 69 xs = retF [.t 2] false (evX (orc T) T 0 b69 ⟨argEnv xs, [], 1⟩) := callF_eq CRef07.h69 hn
@[simp] theorem x66 (xs : List AV) : callX (orc T) T 66 xs d st = bL (frzL st.heap xs) fun ys => cR (callF T 66 (ys.map (wkIf false))) xs d st := callX_pure CRef07.h66
@[simp] theorem y66 {e : Env} {h : Heap} {older : List Heap} (args : List Opd) : opD (orc T) T (.call 66 args) e h older = dR (callF T 66 ((args.map (ev e.get)).map (wkIf false))) (args.map (ev e.get)) := opD_call CRef07.h66
theorem f66 (xs : List AV) (hn : xs.length = 1) : callF T 66 xs = retF [.t 2] false (evX (orc T) T 0 b66 ⟨argEnv xs, [], 1⟩) := callF_eq CRef07.h66 hn
@[simp] theorem x67 (xs : List AV) : callX (orc T) T 67 xs d st = bL (frzL st.heap xs) fun ys => cR (callF T 67 (ys.map (wkIf false))) xs d st := callX_pure CRef07.h67
@[simp] theorem y67 {e : Env} {h : Heap} {older : List Heap} (args : List Opd) : opD (orc T) T (.call 67 args) e h older = dR (callF T 67 ((args.map (ev e.get)).map (wkIf false))) (args.map (ev e.get)) := opD_call CRef07.h67
theorem f67 (xs : List AV) (hn : xs.length = 1) : callF T 67 xs = retF [.t 2] false (evX (orc T) T 0 b67 ⟨argEnv xs, [], 1⟩) := callF_eq CRef07.h67 hn
end
end Go.Ab
end

section
/-
  Texts of naturals, digit by digit: what the document's layer 7 computes.
-/
namespace Go.Ab

theorem ten_step {left w : Nat} (h : left < 10) (hw : w < 4294967296) : (left * 4294967296 + w) / 10 < 4294967296 ∧ (left * 4294967296 + w) % 10 < 10 := by omega

section
variable {T : Tbl} [CRef07 T]

theorem ref02_norm_own (a : List UInt32) (hl : a.length ≤ 1000000) : callH T 2043 [.sl (u32s a) .an] [] =
    some (.bs (.loc 22) 1 1 0 (ofN (val a)).length, [(.loc 22, ⟨1, .own, 1, u32s (ofN (val a))⟩)]) := by
  obtain ⟨n, h1, h2, h3, h4⟩ := ofN_take a
  have hr := ref02_norm_loop (T := T) a (by omega) h1 h3 h4 a.length ⟨h1, Nat.le_refl _⟩
  rw [show l43_0 = l2043_0 from rfl] at hr
  have hlen : (ofN (val a)).length = n := by rw [← h2]; simp; omega
  have hb : n ≤ 4294967296 := by omega
  rw [f2043 _ _ rfl, b2043]
  simp -implicitDefEqProofs [hr, h1, h2, hb, hlen]

def stTen (N : Nat) (y : Nat × Nat × List UInt32) (P : List UInt32) : St :=
  ⟨[(0, .bs (.bor 0) 0 1 0 N), (3, u64 y.2.1), (4, .i .i64 ((y.1 : Int) - 1))], [(.bor 0, ⟨0, .own, 1, u32s (P.take y.1 ++ y.2.2)⟩)], 4⟩

end
section
variable {T : Tbl}
theorem ten_loop (a : List UInt32) (hl : a.length ≤ 1000000) : ∀ y : Nat × Nat × List UInt32,
    (y.1 ≤ a.length ∧ y.2.1 < 10 ∧ y.2.2.length = a.length - y.1 ∧ val (a.drop y.1) = 10 * val y.2.2 + y.2.1) →
    ∃ r, (∃ (c : Nat) (m : List UInt32), r = (Ex.n, (⟨[(3, u64 c)], [(.bor 0, ⟨0, .own, 1, u32s m⟩)], 4⟩ : St)) ∧ c < 10 ∧ m.length = a.length ∧ val a = 10 * val m + c) ∧
      loopN T 1 0 (.norm false [3]) l105_0 (stTen a.length y a) = some r := by
  refine loopN_ex _ _ (fun y => y.1) _ ?_
  rintro ⟨k, c, m⟩ ⟨hk, hc, hm, hv⟩
  simp only at hk hc hm hv
  cases k with
  | zero =>
    right
    rw [List.drop_zero] at hv
    refine ⟨_, ⟨c, m, rfl, hc, by omega, hv⟩, ?_, ?_⟩ <;> simp -implicitDefEqProofs [l105_0, stTen]
  | succ j =>
    left
    have hja : j < a.length := by omega
    have hy := u32_lt (a[j]'hja)
    have hd := List.drop_eq_getElem_cons hja
    have hw : IntKind.wrap .i64 ((j : Int) - 1) = (j : Int) - 1 := wrap_i64 _ (by omega)
    have ht : a.take (j + 1) = a.take j ++ [a[j]'hja] := List.take_succ_eq_append_getElem hja
    have hg : (a.take (j + 1) ++ m)[j]? = some (a[j]'hja) := by
      rw [ht, List.append_assoc, List.getElem?_append_right (by simp; omega)]
      simp [Nat.min_eq_left (Nat.le_of_lt hja)]
    have hset : ∀ w, (a.take (j + 1) ++ m).set j w = a.take j ++ w :: m := by
      intro w
      rw [ht, List.append_assoc, List.set_append_right _ _ (by simp; omega)]
      simp [Nat.min_eq_left (Nat.le_of_lt hja)]
    have hlen : (a.take (j + 1) ++ m).length = a.length := by simp; omega
    obtain ⟨s1, s2⟩ := ten_step hc hy
    refine ⟨(j, (c * 4294967296 + (a[j]'hja).toNat) % 10, w32 ((c * 4294967296 + (a[j]'hja).toNat) / 10) :: m), ⟨by simp only; omega, s2, by simp [hm]; omega, ?_⟩, Nat.lt_succ_self j, ?_⟩
    · simp only
      rw [hd, val_cons, hv, val_cons, w32_of_lt s1]
      generalize (a[j]'hja).toNat = w at *
      omega
    · have m1 : c * 4294967296 % 18446744073709551616 = c * 4294967296 := Nat.mod_eq_of_lt (by omega)
      have m2 : (a[j]'hja).toNat % 18446744073709551616 = (a[j]'hja).toNat := Nat.mod_eq_of_lt (by omega)
      have m3 : (c * 4294967296 + (a[j]'hja).toNat) % 18446744073709551616 = c * 4294967296 + (a[j]'hja).toNat := Nat.mod_eq_of_lt (by omega)
      have m4 : (c * 4294967296 + (a[j]'hja).toNat) / 10 % 18446744073709551616 = (c * 4294967296 + (a[j]'hja).toNat) / 10 := Nat.mod_eq_of_lt (by omega)
      have m5 : (c * 4294967296 + (a[j]'hja).toNat) / 10 % 4294967296 = (c * 4294967296 + (a[j]'hja).toNat) / 10 := Nat.mod_eq_of_lt (by omega)
      simp -implicitDefEqProofs [l105_0, stTen, hja, hw, hg, hset, m1, m2, m3, m4, m5, u32s_set _ _ _ s1]

end
section
variable {T : Tbl} [CRef07 T]
theorem ref07_ten (a : List UInt32) (hl : a.length ≤ 1000000) : ∃ m : List UInt32, m.length = a.length ∧ val m = val a / 10 ∧
    callH T 105 [.bs (.bor 0) 0 1 0 a.length] [(.bor 0, ⟨0, .own, 1, u32s a⟩)] = some (u64 (val a % 10), [(.bor 0, ⟨0, .own, 1, u32s m⟩)]) := by
  obtain ⟨_, ⟨c, m, rfl, hc, hm, hv⟩, hr⟩ := ten_loop (T := T) a hl (a.length, 0, []) ⟨Nat.le_refl _, (by decide : 0 < 10), by simp, by simp⟩
  have e1 : val a % 10 = c := by omega
  have hw : IntKind.wrap .i64 ((a.length : Int) - 1) = (a.length : Int) - 1 := wrap_i64 _ (by omega)
  refine ⟨m, hm, by omega, ?_⟩
  unfold stTen at hr
  simp at hr
  rw [e1, f105 _ _ rfl, b105]
  simp -implicitDefEqProofs [hw, hr]

def stTx (b : BId) (x : List UInt32) (s : List UInt8) : St := ⟨[(3, .bs b 1 1 0 x.length), (4, .s s)], [(b, ⟨1, .own, 1, u32s x⟩)], 3⟩

theorem tx_loop (K : Nat) (hK : 1 ≤ K ∧ K ≤ 100000) (res : List UInt8) : ∀ y : BId × Nat × List UInt8, ((y.1 = .fld (.loc 7) 22 ∨ y.1 = .fld (.loc 24) 22) ∧ (ofN y.2.1).length ≤ 1000 ∧ y.2.2.length ≤ K ∧ y.2.1 < 10 ^ (K - y.2.2.length) ∧ txN y.2.1 y.2.2 = res) →
    loopN T 0 0 (.norm false [4]) l69_0 (stTx y.1 (ofN y.2.1) y.2.2) = some (.n, ⟨[(4, .s res)], [], 2⟩) := by
  refine loopN_eq (fun y : BId × Nat × List UInt8 => stTx y.1 (ofN y.2.1) y.2.2) _ (fun y => y.2.1 + if y.2.2 = [] then 1 else 0) _ ?_
  rintro ⟨b, n, s⟩ ⟨hb, hl, hs, hn, hres⟩
  simp only at hb hl hs hn hres
  by_cases h0 : n = 0 ∧ s ≠ []
  · right
    obtain ⟨rfl, hs0⟩ := h0
    have hr : res = s := by rw [← hres]; unfold txN; rw [if_pos ⟨rfl, hs0⟩]
    subst hr
    constructor <;> simp -implicitDefEqProofs [l69_0, stTx, hs0]
  · left
    have hor : n = 0 → s = [] := fun h => Classical.byContradiction fun h2 => h0 ⟨h, h2⟩
    obtain ⟨m, hm, hvm, hten⟩ := ref07_ten (T := T) (ofN n) (by omega)
    rw [val_ofN] at hvm hten
    have hno := ref02_norm_own (T := T) m (by omega)
    rw [hvm] at hno
    have hd10 : n % 10 < 10 := Nat.mod_lt _ (by decide)
    have hdig := digit_at (n % 10) hd10
    have hstep := txN_step n s ((Nat.eq_zero_or_pos n).elim (fun h => .inr (hor h)) (fun h => .inl (by omega)))
    have hol : (ofN (n / 10)).length ≤ (ofN n).length := ofN_len_le (Nat.div_le_self _ _)
    have hk1 : s.length < K := by
      rcases Nat.lt_or_ge s.length K with h | h
      · exact h
      · rw [show K - s.length = 0 by omega, Nat.pow_zero] at hn
        rw [hor (by omega)] at h
        simp at h
        omega
    have hk2 : n / 10 < 10 ^ (K - (s.length + 1)) := by
      refine Nat.div_lt_of_lt_mul ?_
      rw [Nat.mul_comm, ← Nat.pow_succ, show (K - (s.length + 1)).succ = K - s.length by omega]
      exact hn
    have hgo : ¬ 0 < (ofN n).length → s = [] := by
      intro h
      exact hor (ofN_eq_nil.1 (List.eq_nil_of_length_eq_zero (by omega)))
    obtain ⟨d, hd⟩ : ∃ d, d = n % 10 := ⟨_, rfl⟩
    obtain ⟨q, hq⟩ : ∃ q, q = n / 10 := ⟨_, rfl⟩
    rw [← hd] at hten hd10 hdig hstep
    rw [← hq] at hno hstep hol hk2
    refine ⟨(.fld (.loc 24) 22, q, UInt8.ofNat (48 + d) :: s), ⟨.inr rfl, by simp only; omega, by simp only [List.length_cons]; omega, hk2, hstep.trans hres⟩, ?_, ?_, rfl⟩
    · simp only [reduceCtorEq, if_false]
      rcases Nat.eq_zero_or_pos n with h1 | h1
      · rw [if_pos (hor h1)]; omega
      · split <;> omega
    · have m1 : (d + 1) % 18446744073709551616 = d + 1 := Nat.mod_eq_of_lt (by omega)
      have m2 : (d : Int) + 1 ≤ 10 := by omega
      have m3 : 1 + s.length ≤ 9223372036854775807 := by omega
      have m4 : List.take (ofN n).length m = m := List.take_of_length_le (by omega)
      simp at hdig
      clear hd hq hn hk2 hvm
      rcases hb with rfl | rfl <;> by_cases hl0 : 0 < (ofN n).length
      · simp -implicitDefEqProofs [l69_0, stTx, hten, hno, hdig, m1, m2, m3, m4, hm, hl0]
      · have := hgo hl0
        subst this
        simp -implicitDefEqProofs [l69_0, stTx, hten, hno, hdig, m1, m2, m4, hm, hl0]
      · simp -implicitDefEqProofs [l69_0, stTx, hten, hno, hdig, m1, m2, m3, m4, hm, hl0]
      · have := hgo hl0
        subst this
        simp -implicitDefEqProofs [l69_0, stTx, hten, hno, hdig, m1, m2, m4, hm, hl0]
theorem ref07_text (a : List UInt32) (hl : a.length ≤ 1000) : callF T 69 [.sl (u32s a) .an] = some (.s (textN (val a))) := by
  have hno := ref02_norm_own (T := T) a (by omega)
  have hla := ofN_length_le a
  obtain ⟨K, hK⟩ : ∃ K, K = 10000 := ⟨_, rfl⟩
  have hv : val a < 10 ^ (K - 0) := by
    have h1 := val_lt a
    have h2 : 4294967296 ^ a.length ≤ (10 ^ 10) ^ a.length := Nat.pow_le_pow_left (by decide) _
    rw [← Nat.pow_mul] at h2
    have h3 : 10 ^ (10 * a.length) ≤ 10 ^ (K - 0) := Nat.pow_le_pow_right (by decide) (by omega)
    exact Nat.lt_of_lt_of_le h1 (Nat.le_trans h2 h3)
  have h := tx_loop (T := T) K ⟨by omega, by omega⟩ (textN (val a)) (.fld (.loc 7) 22, val a, []) ⟨.inl rfl, by simp only; omega, Nat.zero_le _, hv, by unfold txN; simp⟩
  unfold stTx at h
  simp at h
  rw [f69 _ rfl, b69]
  simp -implicitDefEqProofs [hno, h]

end
section
variable {T : Tbl}
theorem wr7_loop (l : List UInt8) (hl : l.length ≤ 1000000) : ∀ i : Nat, (i ≤ l.length ∧ i ≤ 60) →
    loopN T 0 0 (.norm false []) l66_0 ⟨[(0, .s l), (3, .i .i64 i)], [], 2⟩ =
      if 0 ≤ wrAt i (l.drop i) then some (.r, ⟨[(2, .i .i64 (wrAt i (l.drop i)))], [], 2⟩) else some (.n, ⟨[], [], 2⟩) := by
  refine loopN_eq (fun i : Nat => ⟨[(0, .s l), (3, .i .i64 i)], [], 2⟩) _ (fun i => l.length - i) _ ?_
  rintro i ⟨hi, hi6⟩
  by_cases h0 : i < l.length
  · have hg : l[i]? = some (l[i]'h0) := List.getElem?_eq_getElem h0
    have hd := List.drop_eq_getElem_cons h0
    have hw : IntKind.wrap .i64 ((i : Int) + 1) = ((i + 1 : Nat) : Int) := wrap_i64 _ (by omega)
    by_cases hc : (l[i]'h0).toNat < 48 ∨ 57 < (l[i]'h0).toNat ∨ i = 60
    · right
      rw [hd]
      have e : wrAt i (l[i]'h0 :: List.drop (i + 1) l) = i := by simp only [wrAt]; rw [if_pos hc]
      rw [e]
      by_cases c1 : (l[i]'h0).toNat < 48
      · constructor <;> simp -implicitDefEqProofs [l66_0, h0, c1]
      · by_cases c2 : 57 < (l[i]'h0).toNat
        · constructor <;> simp -implicitDefEqProofs [l66_0, h0, c1, c2]
        · have c3 : i = 60 := by omega
          subst c3
          have h0' : (60 : Int) < (l.length : Int) := by omega
          constructor <;> simp -implicitDefEqProofs [l66_0, h0, h0', c1, c2]
    · left
      have e : wrAt i (l.drop i) = wrAt (i + 1) (l.drop (i + 1)) := by rw [hd]; simp only [wrAt]; rw [if_neg hc]
      have c1 : ¬ (l[i]'h0).toNat < 48 := fun h => hc (.inl h)
      have c2 : ¬ 57 < (l[i]'h0).toNat := fun h => hc (.inr (.inl h))
      have c4 : ¬ i = 60 := fun h => hc (.inr (.inr h))
      have c3 : ¬ (60 ≤ (i : Int)) := by omega
      refine ⟨i + 1, ⟨h0, by omega⟩, by show l.length - (i + 1) < l.length - i; omega, ?_, ?_⟩
      · simp -implicitDefEqProofs [l66_0, h0, c1, c2, c3, hw]
      · simp only [e]
  · right
    have : i = l.length := by omega
    subst this
    rw [List.drop_length]
    constructor <;> simp -implicitDefEqProofs [l66_0, wrAt]

end
section
variable {T : Tbl} [CRef07 T]
theorem ref07_wrong (l : List UInt8) (hl : l.length ≤ 1000000) : callF T 66 [.s l] = some (.i .i64 (wrongI l)) := by
  have h := wr7_loop (T := T) l hl 0 ⟨Nat.zero_le _, Nat.zero_le _⟩
  have hg := wrAt_ge 0 l
  rw [List.drop_zero] at h
  simp at h
  rw [f66 _ rfl, b66]
  unfold wrongI
  by_cases h0 : l = []
  · subst h0
    simp -implicitDefEqProofs
  · by_cases h1 : 0 ≤ wrAt 0 l
    · rw [if_pos h1] at h
      simp -implicitDefEqProofs [h, h0]
    · rw [if_neg h1] at h
      have h2 : wrAt 0 l = -1 := by omega
      simp -implicitDefEqProofs [h, h0, h2]

theorem rd7_loop (l : List UInt8) (hl : l.length ≤ 60) (hd : ∀ c ∈ l, 48 ≤ c.toNat ∧ c.toNat ≤ 57) : ∀ i : Nat, i ≤ l.length →
    loopN T 0 0 (.norm false [3]) l67_0 ⟨[(0, .s l), (3, .sl (u32s (ofN (rd (l.take i)))) .an), (4, .i .i64 i)], [], 2⟩ = some (.n, ⟨[(3, .sl (u32s (ofN (rd l))) .an)], [], 2⟩) := by
  refine loopN_eq (fun i : Nat => ⟨[(0, .s l), (3, .sl (u32s (ofN (rd (l.take i)))) .an), (4, .i .i64 i)], [], 2⟩) _ (fun i => l.length - i) _ ?_
  intro i hi
  by_cases h0 : i < l.length
  · left
    have hg : l[i]? = some (l[i]'h0) := List.getElem?_eq_getElem h0
    have hw : IntKind.wrap .i64 ((i : Int) + 1) = ((i + 1 : Nat) : Int) := wrap_i64 _ (by omega)
    have hc := hd _ (List.getElem_mem h0)
    have hr := rd_take_succ hg
    have hol : (ofN (rd (l.take i))).length ≤ 60 := by
      refine ofN_length_le' ?_
      have h1 := rd_lt (l := l.take i) fun c hc => hd c (List.mem_of_mem_take hc)
      have h2 : 10 ^ (l.take i).length ≤ 10 ^ 60 := Nat.pow_le_pow_right (by decide) (by simp; omega)
      exact Nat.lt_of_lt_of_le h1 (Nat.le_trans h2 (by decide))
    obtain ⟨c, hcd⟩ : ∃ c, c = (l[i]'h0).toNat := ⟨_, rfl⟩
    obtain ⟨d, hdd⟩ : ∃ d, d = c - 48 := ⟨_, rfl⟩
    rw [← hcd] at hc hr
    rw [← hdd] at hr
    have m1 : c % 4294967296 = c := Nat.mod_eq_of_lt (by omega)
    have m2 : sub32 c 48 = d := by rw [sub32_le (by omega) (by omega), hdd]
    have hml := ref04_mul (T := T) (ofN (rd (l.take i))) [w32 10] (by omega) (by simp)
    have hv10 : val [w32 10] = 10 := by decide
    rw [val_ofN, hv10] at hml
    have hol2 : (ofN (rd (l.take i) * 10)).length ≤ 61 := by
      refine ofN_length_le' ?_
      have := val_lt (ofN (rd (l.take i)))
      rw [val_ofN] at this
      have h2 : 4294967296 ^ (ofN (rd (l.take i))).length ≤ 4294967296 ^ 60 := Nat.pow_le_pow_right (by decide) hol
      rw [Nat.pow_succ]
      exact Nat.lt_of_lt_of_le (Nat.mul_lt_mul_of_lt_of_le (Nat.lt_of_lt_of_le this h2) (Nat.le_refl _) (by decide)) (Nat.mul_le_mul_left _ (by decide))
    have hdl : d < 4294967296 := by omega
    have had := ref02_add (T := T) (ofN (rd (l.take i) * 10)) [w32 d] (by omega) (by simp)
    have hvd : val [w32 d] = d := by simp [w32_of_lt hdl]
    rw [val_ofN, hvd, ← hr] at had
    have e10 : u32s [w32 10] = [[u32 10]] := rfl
    have ed : u32s [w32 d] = [[u32 d]] := by simp [u32s, w32_of_lt hdl]
    rw [e10] at hml
    rw [ed] at had
    refine ⟨i + 1, h0, by show l.length - (i + 1) < l.length - i; omega, ?_, rfl⟩
    simp -implicitDefEqProofs [l67_0, h0, ← hcd, m1, m2, hml, had, hw]
  · right
    have : i = l.length := by omega
    subst this
    rw [List.take_length]
    constructor <;> simp -implicitDefEqProofs [l67_0]

theorem ref07_read (l : List UInt8) (hl : l.length ≤ 60) (hd : ∀ c ∈ l, 48 ≤ c.toNat ∧ c.toNat ≤ 57) : callF T 67 [.s l] = some (.sl (u32s (ofN (rd l))) .an) := by
  have h := rd7_loop (T := T) l hl hd 0 (Nat.zero_le _)
  simp [show rd [] = 0 from rfl] at h
  rw [f67 _ rfl, b67]
  simp -implicitDefEqProofs [h]
end
end Go.Ab
end

section
/-
  Whole numbers: their values, signs, floors and texts; plain laws.
-/
namespace Go.Ab

/-- a number with this sign -/
def sg (n : Bool) (k : Nat) : Int := if n then -(k : Int) else k
/-- a whole number's value -/
def wv (n : Bool) (a : List UInt32) : Int := sg n (val a)
/-- a whole number as a struct -/
abbrev wh (n : Bool) (a : List UInt32) : AV := .agg [.b n, .sl (u32s a) .an]
/-- the right one of this value -/
abbrev ez (z : Int) : AV := wh (decide (z < 0)) (ofN z.natAbs)
def sgI (z : Int) : Int := if z < 0 then -1 else if z = 0 then 0 else 1

theorem sg_neg (n : Bool) (k : Nat) : decide (sg n k < 0) = (n && decide (k ≠ 0)) := by
  cases n
  · simp [sg]
  · by_cases h : k = 0 <;> simp [sg, h]
    omega
theorem sg_abs (n : Bool) (k : Nat) : (sg n k).natAbs = k := by cases n <;> simp [sg]
@[simp] theorem wv_ez (z : Int) : wv (decide (z < 0)) (ofN z.natAbs) = z := by
  unfold wv
  rw [val_ofN]
  by_cases h : z < 0
  · simp [sg, h]; omega
  · simp [sg, h]; omega
theorem wv_val (n : Bool) (a : List UInt32) : (wv n a).natAbs = val a := sg_abs n _
theorem ez_sg (n : Bool) (k : Nat) : ez (sg n k) = wh (n && decide (k ≠ 0)) (ofN k) := by
  unfold ez
  rw [sg_neg, sg_abs]

theorem sg_add_same (n : Bool) (x y : Nat) : sg n (x + y) = sg n x + sg n y := by cases n <;> simp [sg] <;> omega
theorem sg_add_lt {n m : Bool} (h : n ≠ m) {x y : Nat} (hxy : x < y) : sg m (y - x) = sg n x + sg m y := by
  cases n <;> cases m <;> simp [sg] at h ⊢ <;> omega
theorem sg_add_ge {n m : Bool} (h : n ≠ m) {x y : Nat} (hxy : ¬ x < y) : sg n (x - y) = sg n x + sg m y := by
  cases n <;> cases m <;> simp [sg] at h ⊢ <;> omega
theorem sg_not (n : Bool) (x : Nat) : sg (!n) x = - sg n x := by cases n <;> simp [sg]
theorem sg_mul (n m : Bool) (x y : Nat) : sg (n != m) (x * y) = sg n x * sg m y := by cases n <;> cases m <;> simp [sg, Int.mul_neg, Int.neg_mul]
theorem sg_sgI (n : Bool) (x : Nat) : sgI (sg n x) = if x = 0 then 0 else if n then -1 else 1 := by
  unfold sgI
  cases n <;> simp [sg] <;> split <;> (try split) <;> omega

/-- the floor by numbers without a sign -/
theorem floor_unique {a b q r : Int} (hb : b ≠ 0) (h : a = b * q + r) (hr : (0 ≤ r ∧ r < b) ∨ (b < r ∧ r ≤ 0)) : q = a.fdiv b ∧ r = a.fmod b := by
  have h1 := Int.fmod_add_mul_fdiv a b
  have key : q = a.fdiv b := by
    rcases Int.lt_or_gt_of_ne hb with hneg | hpos
    · rw [← Int.neg_fdiv_neg, Int.fdiv_eq_ediv_of_nonneg _ (by omega)]
      refine ((Int.ediv_emod_unique (a := -a) (b := -b) (r := -r) (q := q) (by omega)).2 ⟨?_, by omega, by omega⟩).1.symm
      rw [h, Int.neg_mul]
      omega
    · rw [Int.fdiv_eq_ediv_of_nonneg _ (by omega)]
      refine ((Int.ediv_emod_unique (a := a) (b := b) (r := r) (q := q) hpos).2 ⟨?_, by omega, by omega⟩).1.symm
      omega
  refine ⟨key, ?_⟩
  subst key
  omega

/-- from the quotient of numbers without a sign to the floor -/
theorem floor_of {n m : Bool} {x y : Nat} (hy : y ≠ 0) :
    (sgI (sg n x - sg (n != m) (x / y) * sg m y) * sgI (sg m y) < 0 → sg (n != m) (x / y) - 1 = (sg n x).fdiv (sg m y) ∧ sg n x - sg (n != m) (x / y) * sg m y + sg m y = (sg n x).fmod (sg m y)) ∧
    (¬ sgI (sg n x - sg (n != m) (x / y) * sg m y) * sgI (sg m y) < 0 → sg (n != m) (x / y) = (sg n x).fdiv (sg m y) ∧ sg n x - sg (n != m) (x / y) * sg m y = (sg n x).fmod (sg m y)) := by
  have hd := Nat.div_add_mod x y
  have hlt := Nat.mod_lt x (Nat.pos_of_ne_zero hy)
  have hr : sg n x - sg (n != m) (x / y) * sg m y = sg n (x % y) := by
    have e : sg n x = sg (n != m) (x / y) * sg m y + sg n (x % y) := by
      rw [← sg_mul]
      have e2 : ((n != m) != m) = n := by cases n <;> cases m <;> rfl
      rw [e2, Nat.mul_comm, ← sg_add_same, hd]
    omega
  have hx : sg n x = sg m y * sg (n != m) (x / y) + sg n (x % y) := by rw [Int.mul_comm]; omega
  rw [hr]
  have hb : sg m y ≠ 0 := by cases m <;> simp [sg] <;> omega
  generalize hq : sg (n != m) (x / y) = q at *
  constructor
  · intro h
    refine floor_unique (q := q - 1) (r := sg n (x % y) + sg m y) hb (by rw [hx, Int.mul_sub]; omega) ?_
    revert h
    cases n <;> cases m <;> simp [sg, sgI] <;> (repeat' split) <;> omega
  · intro h
    refine floor_unique (q := q) (r := sg n (x % y)) hb hx ?_
    revert h
    cases n <;> cases m <;> simp [sg, sgI] <;> (repeat' split) <;> omega

/-- a whole number as a text -/
def textZ (z : Int) : List UInt8 := if z < 0 then 45 :: textN z.natAbs else textN z.natAbs

theorem textN_len {n : Nat} : ∀ {k : Nat}, n < 10 ^ (k + 1) → (textN n).length ≤ k + 1 := by
  induction n using Nat.strongRecOn with
  | _ n ih =>
    intro k h
    by_cases h0 : n < 10
    · rw [textN_small h0]; simp
    · rw [textN_big h0]
      cases k with
      | zero => simp at h; omega
      | succ k =>
        have := ih (n / 10) (by omega) (k := k) (Nat.div_lt_of_lt_mul (by rw [Nat.mul_comm, ← Nat.pow_succ]; exact h))
        simp
        omega
theorem textN_words {a : List UInt32} (h : a.length ≤ 1000) : (textN (val a)).length ≤ 10000 := by
  obtain ⟨K, hK⟩ : ∃ K, K = 9999 := ⟨_, rfl⟩
  have h1 := val_lt a
  have h2 : 4294967296 ^ a.length ≤ (10 ^ 10) ^ a.length := Nat.pow_le_pow_left (by decide) _
  rw [← Nat.pow_mul] at h2
  have h3 : 10 ^ (10 * a.length) ≤ 10 ^ (K + 1) := Nat.pow_le_pow_right (by decide) (by omega)
  have h4 := textN_len (k := K) (Nat.lt_of_lt_of_le h1 (Nat.le_trans h2 h3))
  clear h1 h2 h3
  omega

/-- so many words, at the most -/
theorem abs_add_len {x y : Int} {L : Nat} (hx : (ofN x.natAbs).length ≤ L) (hy : (ofN y.natAbs).length ≤ L) : (ofN (x + y).natAbs).length ≤ L + 1 := by
  refine ofN_length_le' ?_
  have h1 := val_lt (ofN x.natAbs)
  have h2 := val_lt (ofN y.natAbs)
  rw [val_ofN] at h1 h2
  have h3 : 4294967296 ^ (ofN x.natAbs).length ≤ 4294967296 ^ L := Nat.pow_le_pow_right (by decide) hx
  have h4 : 4294967296 ^ (ofN y.natAbs).length ≤ 4294967296 ^ L := Nat.pow_le_pow_right (by decide) hy
  rw [Nat.pow_succ]
  generalize 4294967296 ^ L = p at *
  omega
theorem abs_neg_len (x : Int) : ofN (-x).natAbs = ofN x.natAbs := by rw [Int.natAbs_neg]
theorem abs_mul_len {x y : Int} {L M : Nat} (hx : (ofN x.natAbs).length ≤ L) (hy : (ofN y.natAbs).length ≤ M) : (ofN (x * y).natAbs).length ≤ L + M := by
  refine ofN_length_le' ?_
  have h1 := val_lt (ofN x.natAbs)
  have h2 := val_lt (ofN y.natAbs)
  rw [val_ofN] at h1 h2
  rw [Int.natAbs_mul, Nat.pow_add]
  exact Nat.mul_lt_mul'' (Nat.lt_of_lt_of_le h1 (Nat.pow_le_pow_right (by decide) hx)) (Nat.lt_of_lt_of_le h2 (Nat.pow_le_pow_right (by decide) hy))
theorem wv_len (n : Bool) (a : List UInt32) : (ofN (wv n a).natAbs).length ≤ a.length := by rw [wv_val]; exact ofN_length_le a

/-- what is read of any bytes -/
def readZ (l : List UInt8) : Int := sg (l.head? = some 45) (rd (if l.head? = some 45 then l.tail else l))
def wrongZ (l : List UInt8) : Int := wrongI (if l.head? = some 45 then l.tail else l)
def minus (l : List UInt8) : Int := if l.head? = some 45 then 1 else 0


theorem fmod_len {n m : Bool} {a b : List UInt32} (h0 : val b ≠ 0) : (ofN ((wv n a).fmod (wv m b)).natAbs).length ≤ b.length + 1 := by
  obtain ⟨h1, h2⟩ := floor_of (n := n) (m := m) (x := val a) h0
  have hlt := Nat.mod_lt (val a) (Nat.pos_of_ne_zero h0)
  have hr : sg n (val a) - sg (n != m) (val a / val b) * sg m (val b) = sg n (val a % val b) := by
    have e : sg n (val a) = sg (n != m) (val a / val b) * sg m (val b) + sg n (val a % val b) := by
      rw [← sg_mul]
      have e2 : ((n != m) != m) = n := by cases n <;> cases m <;> rfl
      rw [e2, Nat.mul_comm, ← sg_add_same, Nat.div_add_mod]
    omega
  rw [hr] at h1 h2
  have hl : (ofN (sg n (val a % val b)).natAbs).length ≤ b.length := by
    rw [sg_abs]
    exact Nat.le_trans (ofN_len_le (Nat.le_of_lt hlt)) (ofN_length_le b)
  by_cases hc : sgI (sg n (val a % val b)) * sgI (sg m (val b)) < 0
  · have := (h1 hc).2
    change _ = (wv n a).fmod (wv m b) at this
    rw [← this]
    exact abs_add_len hl (wv_len m b)
  · have := (h2 hc).2
    change _ = (wv n a).fmod (wv m b) at this
    rw [← this]
    omega
theorem fdiv_len {n m : Bool} {a b : List UInt32} (h0 : val b ≠ 0) : (ofN ((wv n a).fdiv (wv m b)).natAbs).length ≤ a.length + 1 := by
  obtain ⟨h1, h2⟩ := floor_of (n := n) (m := m) (x := val a) h0
  have hl : (ofN (sg (n != m) (val a / val b)).natAbs).length ≤ a.length := by
    rw [sg_abs]
    exact Nat.le_trans (ofN_len_le (Nat.div_le_self _ _)) (ofN_length_le a)
  by_cases hc : sgI (sg n (val a) - sg (n != m) (val a / val b) * sg m (val b)) * sgI (sg m (val b)) < 0
  · have := (h1 hc).1
    change _ = (wv n a).fdiv (wv m b) at this
    rw [← this, Int.sub_eq_add_neg]
    refine ofN_length_le' ?_
    have h3 := val_lt (ofN (sg (n != m) (val a / val b)).natAbs)
    rw [val_ofN] at h3
    have h4 : 4294967296 ^ (ofN (sg (n != m) (val a / val b)).natAbs).length ≤ 4294967296 ^ a.length := Nat.pow_le_pow_right (by decide) hl
    rw [Nat.pow_succ]
    have hp : 0 < 4294967296 ^ a.length := Nat.pow_pos (by decide)
    generalize 4294967296 ^ a.length = p at *
    generalize 4294967296 ^ (ofN (sg (n != m) (val a / val b)).natAbs).length = p2 at *
    omega
  · have := (h2 hc).1
    change _ = (wv n a).fdiv (wv m b) at this
    rw [← this]
    omega

theorem read_len {l : List UInt8} (h0 : ¬ 0 ≤ wrongZ l) : (ofN (readZ l).natAbs).length ≤ 60 := by
  unfold wrongZ at h0
  unfold readZ
  rw [sg_abs]
  generalize (if l.head? = some 45 then l.tail else l) = l' at *
  have h1 : wrAt 0 l' < 0 := by
    unfold wrongI at h0
    split at h0
    · omega
    · omega
  obtain ⟨h2, h3⟩ := wrAt_neg 0 l' (Nat.zero_le _) h1
  refine ofN_length_le' (k := 60) ?_
  have h4 := rd_lt h3
  have h5 : 10 ^ l'.length ≤ 10 ^ 60 := Nat.pow_le_pow_right (by decide) (by omega)
  exact Nat.lt_of_lt_of_le h4 (Nat.le_trans h5 (by decide))
end Go.Ab
end

section
/-
  Code with remarks of some functions, by program (AxPrint), and the rules to run them.
-/
namespace Go.Ab

/- retrospect/whole.signed -/
def b55 : AX :=
 (.seq
  (.reg [⟨(some 4), none, .alloc [(.b false), (.sl [] .nl)]⟩])
  (.seq
   (.reg [⟨(some 5), none, .mov (.t 0)⟩,
     ⟨(some 6), none, .mov (.t 5)⟩,
     ⟨(some 7), (some (6, true)), .mov (.t 1)⟩,
     ⟨(some 8), (some (6, true)), .len (.t 7)⟩,
     ⟨(some 9), (some (6, true)), .bin .gtr (.t 8) (.c (.i .i64 0))⟩,
     ⟨(some 10), none, .pick (.t 6) (.t 9) (.c (.b false))⟩,
     ⟨(some 11), none, .mov (.t 1)⟩,
     ⟨(some 12), none, .build [(.b false), (.sl [] .nl)] [(0, 1, (.t 10)), (1, 1, (.t 11))]⟩,
     ⟨none, none, .store 2 (.t 4) (.t 12)⟩])
   (.pre (.norm false [4]) .ret)))

/- retrospect/whole.Norm -/
def b38 : AX :=
 (.seq
  (.reg [⟨(some 1), none, .xop (.box 2) [(.t 0)]⟩,
    ⟨(some 2), none, .alloc [(.b false), (.sl [] .nl)]⟩])
  (.seq
   (.drawT [⟨(some 3), none, .fad 0 (.t 1)⟩,
     ⟨(some 4), none, .load none (.t 3)⟩,
     ⟨(some 5), none, .fad 1 (.t 1)⟩,
     ⟨(some 6), none, .load none (.t 5)⟩,
     ⟨(some 7), none, .call 71 [(.t 6)]⟩]
    [⟨(some 8), none, .call 55 [(.t 4), (.t 7)]⟩,
     ⟨none, none, .store 2 (.t 2) (.t 8)⟩])
   (.pre (.norm false [2]) .ret)))

/- retrospect/whole.Neg -/
def b40 : AX :=
 (.seq
  (.reg [⟨(some 1), none, .xop (.box 2) [(.t 0)]⟩,
    ⟨(some 2), none, .alloc [(.b false), (.sl [] .nl)]⟩])
  (.seq
   (.drawT [⟨(some 3), none, .fad 0 (.t 1)⟩,
     ⟨(some 4), none, .load none (.t 3)⟩,
     ⟨(some 5), none, .un .not (.t 4)⟩,
     ⟨(some 6), none, .fad 1 (.t 1)⟩,
     ⟨(some 7), none, .load none (.t 6)⟩,
     ⟨(some 8), none, .call 71 [(.t 7)]⟩]
    [⟨(some 9), none, .call 55 [(.t 5), (.t 8)]⟩,
     ⟨none, none, .store 2 (.t 2) (.t 9)⟩])
   (.pre (.norm false [2]) .ret)))

/- retrospect/whole.Add -/
def b23 : AX :=
 (.seq
  (.reg [⟨(some 2), none, .xop (.box 2) [(.t 0)]⟩,
    ⟨(some 3), none, .xop (.box 2) [(.t 1)]⟩,
    ⟨(some 4), none, .alloc [(.b false), (.sl [] .nl)]⟩])
  (.seq
   (.seq
    (.reg [⟨(some 7), none, .fad 0 (.t 2)⟩,
      ⟨(some 8), none, .load none (.t 7)⟩,
      ⟨(some 9), none, .fad 0 (.t 3)⟩,
      ⟨(some 10), none, .load none (.t 9)⟩,
      ⟨(some 11), none, .eqb false (.t 8) (.t 10)⟩])
    (.cond (.t 11)
     (.seq
      (.drawT [⟨(some 12), none, .fad 0 (.t 2)⟩,
        ⟨(some 13), none, .load none (.t 12)⟩,
        ⟨(some 14), none, .fad 1 (.t 2)⟩,
        ⟨(some 15), none, .load none (.t 14)⟩,
        ⟨(some 16), none, .fad 1 (.t 3)⟩,
        ⟨(some 17), none, .load none (.t 16)⟩,
        ⟨(some 18), none, .bsl 1 [(.sl [] .nl)] 2 [(0, (.t 15)), (1, (.t 17))]⟩,
        ⟨(some 19), none, .call 56 [(.t 18)]⟩]
       [⟨(some 20), none, .call 55 [(.t 13), (.t 19)]⟩,
        ⟨none, none, .store 2 (.t 4) (.t 20)⟩])
      (.pre (.norm false [4]) .ret))
     .skip))
   (.seq
    (.reg [⟨(some 22), none, .fad 1 (.t 2)⟩,
      ⟨(some 23), none, .load none (.t 22)⟩,
      ⟨(some 24), none, .fad 1 (.t 3)⟩,
      ⟨(some 25), none, .load none (.t 24)⟩,
      ⟨(some 26), none, .call 57 [(.t 23), (.t 25)]⟩,
      ⟨(some 21), none, .mov (.t 26)⟩,
      ⟨(some 27), none, .ext (.t 21) 0⟩,
      ⟨(some 28), none, .ext (.t 21) 1⟩,
      ⟨(some 5), none, .mov (.t 27)⟩,
      ⟨(some 6), none, .mov (.t 28)⟩])
    (.seq
     (.seq
      (.reg [⟨(some 29), none, .mov (.t 6)⟩,
        ⟨(some 30), none, .bin .lss (.t 29) (.c (.i .i64 0))⟩])
      (.cond (.t 30)
       (.seq
        (.reg [⟨(some 31), none, .fad 0 (.t 3)⟩,
          ⟨(some 32), none, .load none (.t 31)⟩,
          ⟨(some 33), none, .mov (.t 5)⟩,
          ⟨(some 34), none, .call 55 [(.t 32), (.t 33)]⟩,
          ⟨none, none, .store 2 (.t 4) (.t 34)⟩])
        (.pre (.norm false [4]) .ret))
       .skip))
     (.seq
      (.reg [⟨(some 35), none, .fad 0 (.t 2)⟩,
        ⟨(some 36), none, .load none (.t 35)⟩,
        ⟨(some 37), none, .mov (.t 5)⟩,
        ⟨(some 38), none, .call 55 [(.t 36), (.t 37)]⟩,
        ⟨none, none, .store 2 (.t 4) (.t 38)⟩])
      (.pre (.norm false [4]) .ret))))))

/- retrospect/whole.Sub -/
def b25 : AX :=
 (.seq
  (.reg [⟨(some 2), none, .xop (.box 2) [(.t 0)]⟩,
    ⟨(some 3), none, .xop (.box 2) [(.t 1)]⟩,
    ⟨(some 4), none, .alloc [(.b false), (.sl [] .nl)]⟩])
  (.seq
   (.drawT [⟨(some 5), none, .load (some 2) (.t 2)⟩,
     ⟨(some 6), none, .load (some 2) (.t 3)⟩,
     ⟨(some 7), none, .call 40 [(.t 6)]⟩]
    [⟨(some 8), none, .call 23 [(.t 5), (.t 7)]⟩,
     ⟨none, none, .store 2 (.t 4) (.t 8)⟩])
   (.pre (.norm false [4]) .ret)))

/- retrospect/whole.Mul -/
def b27 : AX :=
 (.seq
  (.reg [⟨(some 2), none, .xop (.box 2) [(.t 0)]⟩,
    ⟨(some 3), none, .xop (.box 2) [(.t 1)]⟩,
    ⟨(some 4), none, .alloc [(.b false), (.sl [] .nl)]⟩])
  (.seq
   (.drawT [⟨(some 5), none, .fad 0 (.t 2)⟩,
     ⟨(some 6), none, .load none (.t 5)⟩,
     ⟨(some 7), none, .fad 0 (.t 3)⟩,
     ⟨(some 8), none, .load none (.t 7)⟩,
     ⟨(some 9), none, .eqb true (.t 6) (.t 8)⟩,
     ⟨(some 10), none, .fad 1 (.t 2)⟩,
     ⟨(some 11), none, .load none (.t 10)⟩,
     ⟨(some 12), none, .fad 1 (.t 3)⟩,
     ⟨(some 13), none, .load none (.t 12)⟩,
     ⟨(some 14), none, .call 60 [(.t 11), (.t 13)]⟩]
    [⟨(some 15), none, .call 55 [(.t 9), (.t 14)]⟩,
     ⟨none, none, .store 2 (.t 4) (.t 15)⟩])
   (.pre (.norm false [4]) .ret)))

/- retrospect/whole.Sign -/
def b37 : AX :=
 (.seq
  (.reg [⟨(some 1), none, .xop (.box 2) [(.t 0)]⟩,
    ⟨(some 2), none, .mov (.c (.i .i64 0))⟩])
  (.seq
   (.block 0
    (.seq
     (.reg [⟨(some 4), none, .fad 1 (.t 1)⟩,
       ⟨(some 5), none, .load none (.t 4)⟩,
       ⟨(some 6), none, .call 70 [(.t 5)]⟩,
       ⟨(some 3), none, .mov (.t 6)⟩])
     (.cond (.t 3)
      (.seq
       (.reg [⟨(some 2), none, .mov (.c (.i .i64 0))⟩])
       (.pre (.norm false [2]) .ret))
      (.seq
       (.reg [⟨(some 8), none, .fad 0 (.t 1)⟩,
         ⟨(some 9), none, .load none (.t 8)⟩,
         ⟨(some 7), none, .mov (.t 9)⟩])
       (.cond (.t 7)
        (.seq
         (.reg [⟨(some 2), none, .mov (.c (.i .i64 (-1)))⟩])
         (.pre (.norm false [2]) .ret))
        .skip)))))
   (.seq
    (.reg [⟨(some 2), none, .mov (.c (.i .i64 1))⟩])
    (.pre (.norm false [2]) .ret))))

/- retrospect/whole.Of -/
def b41 : AX :=
 (.seq
  (.reg [⟨(some 2), none, .alloc [(.b false), (.sl [] .nl)]⟩])
  (.seq
   (.seq
    (.reg [⟨(some 3), none, .mov (.t 0)⟩,
      ⟨(some 4), none, .bin .lss (.t 3) (.c (.i .i64 0))⟩])
    (.cond (.t 4)
     (.seq
      (.reg [⟨(some 5), none, .mov (.t 0)⟩,
        ⟨(some 6), none, .conv .u64 (.t 5)⟩,
        ⟨(some 7), none, .un .neg (.t 6)⟩,
        ⟨(some 8), none, .call 72 [(.t 7)]⟩,
        ⟨(some 9), none, .call 55 [(.c (.b true)), (.t 8)]⟩,
        ⟨none, none, .store 2 (.t 2) (.t 9)⟩])
      (.pre (.norm false [2]) .ret))
     .skip))
   (.seq
    (.reg [⟨(some 10), none, .mov (.t 0)⟩,
      ⟨(some 11), none, .conv .u64 (.t 10)⟩,
      ⟨(some 12), none, .call 72 [(.t 11)]⟩,
      ⟨(some 13), none, .call 55 [(.c (.b false)), (.t 12)]⟩,
      ⟨none, none, .store 2 (.t 2) (.t 13)⟩])
    (.pre (.norm false [2]) .ret))))

/- retrospect/whole.Cmp -/
def b36 : AX :=
 (.seq
  (.reg [⟨(some 2), none, .xop (.box 2) [(.t 0)]⟩,
    ⟨(some 3), none, .xop (.box 2) [(.t 1)]⟩,
    ⟨(some 4), none, .mov (.c (.i .i64 0))⟩])
  (.seq
   (.reg [⟨(some 5), none, .load (some 2) (.t 2)⟩,
     ⟨(some 6), none, .load (some 2) (.t 3)⟩,
     ⟨(some 7), none, .call 25 [(.t 5), (.t 6)]⟩,
     ⟨(some 8), none, .call 37 [(.t 7)]⟩,
     ⟨(some 4), none, .mov (.t 8)⟩])
   (.pre (.norm false [4]) .ret)))

/- retrospect/whole.Floor -/
def b29 : AX :=
 (.seq
  (.reg [⟨(some 2), none, .xop (.box 2) [(.t 0)]⟩,
    ⟨(some 3), none, .xop (.box 2) [(.t 1)]⟩,
    ⟨(some 4), none, .alloc [(.b false), (.sl [] .nl)]⟩,
    ⟨(some 5), none, .alloc [(.b false), (.sl [] .nl)]⟩,
    ⟨(some 6), none, .mov (.c (.b false))⟩])
  (.seq
   (.reg [⟨(some 10), none, .fad 1 (.t 2)⟩,
     ⟨(some 11), none, .load none (.t 10)⟩,
     ⟨(some 12), none, .fad 1 (.t 3)⟩,
     ⟨(some 13), none, .load none (.t 12)⟩,
     ⟨(some 14), none, .call 62 [(.t 11), (.t 13)]⟩,
     ⟨(some 9), none, .mov (.t 14)⟩,
     ⟨(some 15), none, .ext (.t 9) 0⟩,
     ⟨(some 16), none, .ext (.t 9) 1⟩,
     ⟨(some 17), none, .ext (.t 9) 2⟩,
     ⟨(some 7), none, .mov (.t 15)⟩,
     ⟨(some 8), none, .mov (.t 16)⟩,
     ⟨(some 6), none, .mov (.t 17)⟩])
   (.seq
    (.seq
     (.reg [⟨(some 18), none, .mov (.t 6)⟩,
       ⟨(some 19), none, .un .not (.t 18)⟩])
     (.cond (.t 19)
      (.seq
       (.reg [⟨(some 20), none, .build [(.b false), (.sl [] .nl)] []⟩,
         ⟨(some 21), none, .build [(.b false), (.sl [] .nl)] []⟩,
         ⟨none, none, .store 2 (.t 4) (.t 20)⟩,
         ⟨none, none, .store 2 (.t 5) (.t 21)⟩,
         ⟨(some 6), none, .mov (.c (.b false))⟩])
       (.pre (.norm false [4, 5, 6]) .ret))
      .skip))
    (.seq
     (.reg [⟨(some 22), none, .fad 0 (.t 2)⟩,
       ⟨(some 23), none, .load none (.t 22)⟩,
       ⟨(some 24), none, .fad 0 (.t 3)⟩,
       ⟨(some 25), none, .load none (.t 24)⟩,
       ⟨(some 26), none, .eqb true (.t 23) (.t 25)⟩,
       ⟨(some 27), none, .mov (.t 7)⟩,
       ⟨(some 28), none, .call 55 [(.t 26), (.t 27)]⟩,
       ⟨none, none, .store 2 (.t 4) (.t 28)⟩])
     (.seq
      (.drawT [⟨(some 29), none, .load (some 2) (.t 2)⟩,
        ⟨(some 30), none, .load (some 2) (.t 4)⟩,
        ⟨(some 31), none, .load (some 2) (.t 3)⟩,
        ⟨(some 32), none, .call 27 [(.t 30), (.t 31)]⟩]
       [⟨(some 33), none, .call 25 [(.t 29), (.t 32)]⟩,
        ⟨none, none, .store 2 (.t 5) (.t 33)⟩])
      (.seq
       (.seq
        (.drawT [⟨(some 34), none, .load (some 2) (.t 5)⟩,
          ⟨(some 35), none, .call 37 [(.t 34)]⟩,
          ⟨(some 36), none, .load (some 2) (.t 3)⟩]
         [⟨(some 37), none, .call 37 [(.t 36)]⟩,
          ⟨(some 38), none, .bin .mul (.t 35) (.t 37)⟩,
          ⟨(some 39), none, .bin .lss (.t 38) (.c (.i .i64 0))⟩])
        (.cond (.t 39)
         (.seq
          (.drawT [⟨(some 40), none, .load (some 2) (.t 4)⟩,
            ⟨(some 41), none, .call 41 [(.c (.i .i64 1))]⟩]
           [⟨(some 42), none, .call 25 [(.t 40), (.t 41)]⟩,
            ⟨none, none, .store 2 (.t 4) (.t 42)⟩])
          (.reg [⟨(some 43), none, .load (some 2) (.t 5)⟩,
            ⟨(some 44), none, .load (some 2) (.t 3)⟩,
            ⟨(some 45), none, .call 23 [(.t 43), (.t 44)]⟩,
            ⟨none, none, .store 2 (.t 5) (.t 45)⟩]))
         .skip))
       (.seq
        (.draw [⟨⟨(some 46), none, .load (some 2) (.t 4)⟩, 0, 0⟩,
          ⟨⟨(some 47), none, .load (some 2) (.t 5)⟩, 0, 1⟩,
          ⟨⟨none, none, .store 2 (.t 4) (.t 46)⟩, 0, 1⟩,
          ⟨⟨none, none, .store 2 (.t 5) (.t 47)⟩, 1, 2⟩,
          ⟨⟨(some 6), none, .mov (.c (.b true))⟩, 2, 2⟩])
        (.pre (.norm false [4, 5, 6]) .ret))))))))

/- retrospect/whole.Text -/
def b34 : AX :=
 (.seq
  (.reg [⟨(some 1), none, .xop (.box 2) [(.t 0)]⟩,
    ⟨(some 2), none, .mov (.c (.s []))⟩])
  (.seq
   (.reg [⟨(some 4), none, .fad 1 (.t 1)⟩,
     ⟨(some 5), none, .load none (.t 4)⟩,
     ⟨(some 6), none, .call 68 [(.t 5)]⟩,
     ⟨(some 3), none, .mov (.t 6)⟩])
   (.seq
    (.seq
     (.reg [⟨(some 7), none, .load (some 2) (.t 1)⟩,
       ⟨(some 8), none, .call 37 [(.t 7)]⟩,
       ⟨(some 9), none, .bin .lss (.t 8) (.c (.i .i64 0))⟩])
     (.cond (.t 9)
      (.seq
       (.reg [⟨(some 10), none, .mov (.t 3)⟩,
         ⟨(some 11), none, .bin .add (.c (.s [45])) (.t 10)⟩,
         ⟨(some 2), none, .mov (.t 11)⟩])
       (.pre (.norm false [2]) .ret))
      .skip))
    (.seq
     (.reg [⟨(some 12), none, .mov (.t 3)⟩,
       ⟨(some 2), none, .mov (.t 12)⟩])
     (.pre (.norm false [2]) .ret)))))

/- retrospect/whole.Read -/
def b32 : AX :=
 (.seq
  (.reg [⟨(some 2), none, .alloc [(.b false), (.sl [] .nl)]⟩,
    ⟨(some 3), none, .alloc [(.i .i64 0), (.i .i64 0), (.i .i64 0), (.i .i64 0)]⟩])
  (.seq
   (.reg [⟨(some 9), none, .mov (.t 0)⟩,
     ⟨(some 10), none, .call 64 [(.t 9), (.c (.s [45]))]⟩,
     ⟨(some 8), none, .mov (.t 10)⟩,
     ⟨(some 11), none, .ext (.t 8) 0⟩,
     ⟨(some 12), none, .ext (.t 8) 1⟩,
     ⟨(some 4), none, .mov (.t 11)⟩,
     ⟨(some 5), none, .mov (.t 12)⟩])
   (.seq
    (.reg [⟨(some 14), none, .mov (.t 4)⟩,
      ⟨(some 15), none, .call 65 [(.t 14)]⟩,
      ⟨(some 13), none, .mov (.t 15)⟩,
      ⟨(some 16), none, .ext (.t 13) 0⟩,
      ⟨(some 17), none, .ext (.t 13) 1⟩,
      ⟨(some 7), none, .alloc [(.i .i64 0), (.i .i64 0), (.i .i64 0), (.i .i64 0)]⟩,
      ⟨(some 6), none, .mov (.t 16)⟩,
      ⟨none, none, .store 4 (.t 7) (.t 17)⟩])
    (.seq
     (.seq
      (.reg [⟨(some 18), none, .load (some 4) (.t 7)⟩,
        ⟨(some 19), none, .build [(.i .i64 0), (.i .i64 0), (.i .i64 0), (.i .i64 0)] []⟩,
        ⟨(some 20), none, .eqs true [(0, .int), (1, .int), (2, .int), (3, .int)] (.t 18) (.t 19)⟩])
      (.cond (.t 20)
       (.seq
        (.reg [⟨(some 21), none, .fad 3 (.t 7)⟩,
          ⟨(some 22), none, .load none (.t 21)⟩,
          ⟨(some 23), none, .mov (.t 0)⟩,
          ⟨(some 24), none, .lens (.t 23)⟩,
          ⟨(some 25), none, .mov (.t 4)⟩,
          ⟨(some 26), none, .lens (.t 25)⟩,
          ⟨(some 27), none, .bin .sub (.t 24) (.t 26)⟩,
          ⟨(some 28), none, .bin .add (.t 22) (.t 27)⟩,
          ⟨(some 29), none, .fad 3 (.t 7)⟩,
          ⟨none, none, .store 1 (.t 29) (.t 28)⟩])
        (.seq
         (.draw [⟨⟨(some 30), none, .build [(.b false), (.sl [] .nl)] []⟩, 0, 0⟩,
           ⟨⟨(some 31), none, .load (some 4) (.t 7)⟩, 0, 1⟩,
           ⟨⟨none, none, .store 2 (.t 2) (.t 30)⟩, 0, 1⟩,
           ⟨⟨none, none, .store 4 (.t 3) (.t 31)⟩, 1, 2⟩])
         (.pre (.norm false [2, 3]) .ret)))
       .skip))
     (.seq
      (.reg [⟨(some 32), none, .mov (.t 5)⟩,
        ⟨(some 33), none, .mov (.t 6)⟩,
        ⟨(some 34), none, .call 55 [(.t 32), (.t 33)]⟩,
        ⟨(some 35), none, .build [(.i .i64 0), (.i .i64 0), (.i .i64 0), (.i .i64 0)] []⟩,
        ⟨none, none, .store 2 (.t 2) (.t 34)⟩,
        ⟨none, none, .store 4 (.t 3) (.t 35)⟩])
      (.pre (.norm false [2, 3]) .ret))))))

/- retrospect/whole.Int -/
def b42 : AX :=
 (.seq
  (.reg [⟨(some 1), none, .xop (.box 2) [(.t 0)]⟩,
    ⟨(some 2), none, .mov (.c (.i .i64 0))⟩,
    ⟨(some 3), none, .mov (.c (.b false))⟩])
  (.seq
   (.reg [⟨(some 7), none, .fad 1 (.t 1)⟩,
     ⟨(some 8), none, .load none (.t 7)⟩,
     ⟨(some 9), none, .call 73 [(.t 8)]⟩,
     ⟨(some 6), none, .mov (.t 9)⟩,
     ⟨(some 10), none, .ext (.t 6) 0⟩,
     ⟨(some 11), none, .ext (.t 6) 1⟩,
     ⟨(some 4), none, .mov (.t 10)⟩,
     ⟨(some 5), none, .mov (.t 11)⟩])
   (.seq
    (.seq
     (.reg [⟨(some 12), none, .mov (.t 5)⟩,
       ⟨(some 13), none, .un .not (.t 12)⟩,
       ⟨(some 14), none, .mov (.t 13)⟩,
       ⟨(some 15), (some (14, false)), .mov (.t 4)⟩,
       ⟨(some 16), (some (14, false)), .bin .gtr (.t 15) (.c (u64 9223372036854775808))⟩,
       ⟨(some 17), none, .pick (.t 14) (.c (.b true)) (.t 16)⟩,
       ⟨(some 18), none, .mov (.t 17)⟩,
       ⟨(some 19), (some (18, false)), .mov (.t 4)⟩,
       ⟨(some 20), (some (18, false)), .bin .eql (.t 19) (.c (u64 9223372036854775808))⟩,
       ⟨(some 21), (some (18, false)), .mov (.t 20)⟩,
       ⟨(some 22), (some (21, true)), .fad 0 (.t 1)⟩,
       ⟨(some 23), (some (21, true)), .load none (.t 22)⟩,
       ⟨(some 24), (some (21, true)), .un .not (.t 23)⟩,
       ⟨(some 25), (some (18, false)), .pick (.t 21) (.t 24) (.c (.b false))⟩,
       ⟨(some 26), none, .pick (.t 18) (.c (.b true)) (.t 25)⟩])
     (.cond (.t 26)
      (.seq
       (.reg [⟨(some 2), none, .mov (.c (.i .i64 0))⟩,
         ⟨(some 3), none, .mov (.c (.b false))⟩])
       (.pre (.norm false [2, 3]) .ret))
      .skip))
    (.seq
     (.seq
      (.reg [⟨(some 27), none, .fad 0 (.t 1)⟩,
        ⟨(some 28), none, .load none (.t 27)⟩])
      (.cond (.t 28)
       (.reg [⟨(some 29), none, .mov (.t 4)⟩,
         ⟨(some 30), none, .un .neg (.t 29)⟩,
         ⟨(some 4), none, .mov (.t 30)⟩])
       .skip))
     (.seq
      (.reg [⟨(some 31), none, .mov (.t 4)⟩,
        ⟨(some 32), none, .conv .i64 (.t 31)⟩,
        ⟨(some 2), none, .mov (.t 32)⟩,
        ⟨(some 3), none, .mov (.c (.b true))⟩])
      (.pre (.norm false [2, 3]) .ret))))))

class CWhole (T : Tbl) : Prop where
  h55 : T 55 = some ⟨2, 13, [.cell 4 (some 2)], b55, none, false⟩
  h38 : T 38 = some ⟨1, 9, [.cell 2 (some 2)], b38, none, false⟩
  h40 : T 40 = some ⟨1, 10, [.cell 2 (some 2)], b40, none, false⟩
  h23 : T 23 = some ⟨2, 39, [.cell 4 (some 2)], b23, none, false⟩
  h25 : T 25 = some ⟨2, 9, [.cell 4 (some 2)], b25, none, false⟩
  h27 : T 27 = some ⟨2, 16, [.cell 4 (some 2)], b27, none, false⟩
  h37 : T 37 = some ⟨1, 10, [.t 2], b37, none, false⟩
  h41 : T 41 = some ⟨1, 14, [.cell 2 (some 2)], b41, none, false⟩
  h36 : T 36 = some ⟨2, 9, [.t 4], b36, none, false⟩
  h29 : T 29 = some ⟨2, 48, [.cell 4 (some 2), .cell 5 (some 2), .t 6], b29, none, false⟩
  h34 : T 34 = some ⟨1, 13, [.t 2], b34, none, false⟩
  h32 : T 32 = some ⟨1, 36, [.cell 2 (some 2), .cell 3 (some 4)], b32, none, false⟩
  h42 : T 42 = some ⟨1, 33, [.t 2, .t 3], b42, none, false⟩

section
variable {T : Tbl} [CWhole T] {d : Option Nat} {st : St}
@[simp] theorem x55 (xs : List AV) : callX (orc T) T 55 xs d st = bL (frzL st.heap xs) fun ys => cR (callF T 55 (ys.map (wkIf false))) xs d st := callX_pure CWhole.h55
@[simp] theorem y55 {e : Env} {h : Heap} {older : List Heap} (args : List Opd) : opD (orc T) T (.call 55 args) e h older = dR (callF T 55 ((args.map (ev e.get)).map (wkIf false))) (args.map (ev e.get)) := opD_call CWhole.h55
theorem f55 (xs : List AV) (hn : xs.length = 2) : callF T 55 xs = retF [.cell 4 (some 2)] false (evX (orc T) T 0 b55 ⟨argEnv xs, [], 1⟩) := callF_eq CWhole.h55 hn
@[simp] theorem x38 (xs : List AV) : callX (orc T) T 38 xs d st = bL (frzL st.heap xs) fun ys => cR (callF T 38 (ys.map (wkIf false))) xs d st := callX_pure CWhole.h38
@[simp] theorem y38 {e : Env} {h : Heap} {older : List Heap} (args : List Opd) : opD (orc T) T (.call 38 args) e h older = dR (callF T 38 ((args.map (ev e.get)).map (wkIf false))) (args.map (ev e.get)) := opD_call CWhole.h38
theorem f38 (xs : List AV) (hn : xs.length = 1) : callF T 38 xs = retF [.cell 2 (some 2)] false (evX (orc T) T 0 b38 ⟨argEnv xs, [], 1⟩) := callF_eq CWhole.h38 hn
@[simp] theorem x40 (xs : List AV) : callX (orc T) T 40 xs d st = bL (frzL st.heap xs) fun ys => cR (callF T 40 (ys.map (wkIf false))) xs d st := callX_pure CWhole.h40
@[simp] theorem y40 {e : Env} {h : Heap} {older : List Heap} (args : List Opd) : opD (orc T) T (.call 40 args) e h older = dR (callF T 40 ((args.map (ev e.get)).map (wkIf false))) (args.map (ev e.get)) := opD_call CWhole.h40
theorem f40 (xs : List AV) (hn : xs.length = 1) : callF T 40 xs = retF [.cell 2 (some 2)] false (evX (orc T) T 0 b40 ⟨argEnv xs, [], 1⟩) := callF_eq CWhole.h40 hn
@[simp] theorem x23 (xs : List AV) : callX (orc T) T 23 xs d st = bL (frzL st.heap xs) fun ys => cR (callF T 23 (ys.map (wkIf false))) xs d st := callX_pure CWhole.h23
@[simp] theorem y23 {e : Env} {h : Heap} {older : List Heap} (args : List Opd) : opD (orc T) T (.call 23 args) e h older = dR (callF T 23 ((args.map (ev e.get)).map (wkIf false))) (args.map (ev e.get)) := opD_call CWhole.h23
theorem f23 (xs : List AV) (hn : xs.length = 2) : callF T 23 xs = retF [.cell 4 (some 2)] false (evX (orc T) T 0 b23 ⟨argEnv xs, [], 1⟩) := callF_eq CWhole.h23 hn
@[simp] theorem x25 (xs : List AV) : callX (orc T) T 25 xs d st = bL (frzL st.heap xs) fun ys => cR (callF T 25 (ys.map (wkIf false))) xs d st := callX_pure CWhole.h25
@[simp] theorem y25 {e : Env} {h : Heap} {older : List Heap} (args : List Opd) : opD (orc T) T (.call 25 args) e h older = dR (callF T 25 ((args.map (ev e.get)).map (wkIf false))) (args.map (ev e.get)) := opD_call CWhole.h25
theorem f25 (xs : List AV) (hn : xs.length = 2) : callF T 25 xs = retF [.cell 4 (some 2)] false (evX (orc T) T 0 b25 ⟨argEnv xs, [], 1⟩) := callF_eq CWhole.h25 hn
@[simp] theorem x27 (xs : List AV) : callX (orc T) T 27 xs d st = bL (frzL st.heap xs) fun ys => cR (callF T 27 (ys.map (wkIf false))) xs d st := callX_pure CWhole.h27
@[simp] theorem y27 {e : Env} {h : Heap} {older : List Heap} (args : List Opd) : opD (orc T) T (.call 27 args) e h older = dR (callF T 27 ((args.map (ev e.get)).map (wkIf false))) (args.map (ev e.get)) := opD_call CWhole.h27
theorem f27 (xs : List AV) (hn : xs.length = 2) : callF T 27 xs = retF [.cell 4 (some 2)] false (evX (orc T) T 0 b27 ⟨argEnv xs, [], 1⟩) := callF_eq CWhole.h27 hn
@[simp] theorem x37 (xs : List AV) : callX (orc T) T 37 xs d st = bL (frzL st.heap xs) fun ys => cR (callF T 37 (ys.map (wkIf false))) xs d st := callX_pure CWhole.h37
@[simp] theorem y37 {e : Env} {h : Heap} {older : List Heap} (args : List Opd) : opD (orc T) T (.call 37 args) e h older = dR (callF T 37 ((args.map (ev e.get)).map (wkIf false))) (args.map (ev e.get)) := opD_call CWhole.h37
theorem f37 (xs : List AV) (hn : xs.length = 1) : callF T 37 xs = retF [.t 2] false (evX (orc T) T 0 b37 ⟨argEnv xs, [], 1⟩) := callF_eq CWhole.h37 hn
@[simp] theorem x41 (xs : List AV) : callX (orc T) T 41 xs d st = bL (frzL st.heap xs) fun ys => cR (callF T 41 (ys.map (wkIf false))) xs d st := callX_pure CWhole.h41
@[simp] theorem y41 {e : Env} {h : Heap} {older : List Heap} (args : List Opd) : opD (orc T) T (.call 41 args) e h older = dR (callF T 41 ((args.map (ev e.get)).map (wkIf false))) (args.map (ev e.get)) := opD_call CWhole.h41
theorem f41 (xs : List AV) (hn : xs.length = 1) : callF T 41 xs = retF [.cell 2 (some 2)] false (evX (orc T) T 0 b41 ⟨argEnv xs, [], 1⟩) := callF_eq CWhole.h41 hn
@[simp] theorem x36 (xs : List AV) : callX (orc T) T 36 xs d st = bL (frzL st.heap xs) fun ys => cR (callF T 36 (ys.map (wkIf false))) xs d st := callX_pure CWhole.h36
@[simp] theorem y36 {e : Env} {h : Heap} {older : List Heap} (args : List Opd) : opD (orc T) T (.call 36 args) e h older = dR (callF T 36 ((args.map (ev e.get)).map (wkIf false))) (args.map (ev e.get)) := opD_call CWhole.h36
theorem f36 (xs : List AV) (hn : xs.length = 2) : callF T 36 xs = retF [.t 4] false (evX (orc T) T 0 b36 ⟨argEnv xs, [], 1⟩) := callF_eq CWhole.h36 hn
@[simp] theorem x29 (xs : List AV) : callX (orc T) T 29 xs d st = bL (frzL st.heap xs) fun ys => cR (callF T 29 (ys.map (wkIf false))) xs d st := callX_pure CWhole.h29
@[simp] theorem y29 {e : Env} {h : Heap} {older : List Heap} (args : List Opd) : opD (orc T) T (.call 29 args) e h older = dR (callF T 29 ((args.map (ev e.get)).map (wkIf false))) (args.map (ev e.get)) := opD_call CWhole.h29
theorem f29 (xs : List AV) (hn : xs.length = 2) : callF T 29 xs = retF [.cell 4 (some 2), .cell 5 (some 2), .t 6] false (evX (orc T) T 0 b29 ⟨argEnv xs, [], 1⟩) := callF_eq CWhole.h29 hn
@[simp] theorem x34 (xs : List AV) : callX (orc T) T 34 xs d st = bL (frzL st.heap xs) fun ys => cR (callF T 34 (ys.map (wkIf false))) xs d st := callX_pure CWhole.h34
@[simp] theorem y34 {e : Env} {h : Heap} {older : List Heap} (args : List Opd) : opD (orc T) T (.call 34 args) e h older = dR (callF T 34 ((args.map (ev e.get)).map (wkIf false))) (args.map (ev e.get)) := opD_call CWhole.h34
theorem f34 (xs : List AV) (hn : xs.length = 1) : callF T 34 xs = retF [.t 2] false (evX (orc T) T 0 b34 ⟨argEnv xs, [], 1⟩) := callF_eq CWhole.h34 hn
@[simp] theorem x32 (xs : List AV) : callX (orc T) T 32 xs d st = bL (frzL st.heap xs) fun ys => cR (callF T 32 (ys.map (wkIf false))) xs d st := callX_pure CWhole.h32
@[simp] theorem y32 {e : Env} {h : Heap} {older : List Heap} (args : List Opd) : opD (orc T) T (.call 32 args) e h older = dR (callF T 32 ((args.map (ev e.get)).map (wkIf false))) (args.map (ev e.get)) := opD_call CWhole.h32
theorem f32 (xs : List AV) (hn : xs.length = 1) : callF T 32 xs = retF [.cell 2 (some 2), .cell 3 (some 4)] false (evX (orc T) T 0 b32 ⟨argEnv xs, [], 1⟩) := callF_eq CWhole.h32 hn
@[simp] theorem x42 (xs : List AV) : callX (orc T) T 42 xs d st = bL (frzL st.heap xs) fun ys => cR (callF T 42 (ys.map (wkIf false))) xs d st := callX_pure CWhole.h42
@[simp] theorem y42 {e : Env} {h : Heap} {older : List Heap} (args : List Opd) : opD (orc T) T (.call 42 args) e h older = dR (callF T 42 ((args.map (ev e.get)).map (wkIf false))) (args.map (ev e.get)) := opD_call CWhole.h42
theorem f42 (xs : List AV) (hn : xs.length = 1) : callF T 42 xs = retF [.t 2, .t 3] false (evX (orc T) T 0 b42 ⟨argEnv xs, [], 1⟩) := callF_eq CWhole.h42 hn
end
end Go.Ab
end

section
/-
  Whole numbers: what layer 8 computes.
-/
namespace Go.Ab
section
variable {T : Tbl} [CNat T] [CProd T] [CTwos T] [CQuot T] [CQuotD T] [CDigits T] [CText T] [CWhole T]

end
section
variable {T : Tbl} [CWhole T]
theorem whole_signed (n : Bool) (k : Nat) : callF T 55 [.b n, .sl (u32s (ofN k)) .an] = some (ez (sg n k)) := by
  rw [f55 _ rfl, b55, ez_sg]
  have h : (0 < (ofN k).length) = (k ≠ 0) := by
    rw [eq_iff_iff, List.length_pos_iff]
    exact not_congr ofN_eq_nil
  cases n <;> simp -implicitDefEqProofs [h]

end
section
variable {T : Tbl} [CNat T] [CProd T] [CTwos T] [CQuot T] [CQuotD T] [CDigits T] [CText T] [CWhole T]
end
section
variable {T : Tbl} [CNat T] [CWhole T]
theorem whole_norm (n : Bool) (a : List UInt32) (ha : a.length ≤ 1000000) : callF T 38 [wh n a] = some (ez (wv n a)) := by
  have h := nat_norm (T := T) a (by omega)
  have hs := whole_signed (T := T) n (val a)
  rw [f38 _ rfl, b38]
  simp -implicitDefEqProofs [h, hs, wv]

end
section
variable {T : Tbl} [CNat T] [CProd T] [CTwos T] [CQuot T] [CQuotD T] [CDigits T] [CText T] [CWhole T]
end
section
variable {T : Tbl} [CNat T] [CWhole T]
theorem whole_neg (n : Bool) (a : List UInt32) (ha : a.length ≤ 1000000) : callF T 40 [wh n a] = some (ez (-wv n a)) := by
  have h := nat_norm (T := T) a (by omega)
  have hs := whole_signed (T := T) (!n) (val a)
  rw [sg_not] at hs
  rw [f40 _ rfl, b40]
  simp -implicitDefEqProofs [h, hs, wv]

end
section
variable {T : Tbl} [CNat T] [CProd T] [CTwos T] [CQuot T] [CQuotD T] [CDigits T] [CText T] [CWhole T]
end
section
variable {T : Tbl} [CNat T] [CWhole T]
theorem whole_add (n m : Bool) (a b : List UInt32) (ha : a.length ≤ 10000) (hb : b.length ≤ 10000) : callF T 23 [wh n a, wh m b] = some (ez (wv n a + wv m b)) := by
  rw [f23 _ rfl, b23]
  by_cases h : n = m
  · subst h
    have hn := nat_add (T := T) [a, b] (by simp) (by simp; omega)
    have hs := whole_signed (T := T) n (val a + val b)
    rw [sg_add_same] at hs
    have e : lls [a, b] = [[.sl (u32s a) .an], [.sl (u32s b) .an]] := rfl
    have e2 : sumL [a, b] = val a + val b := by simp [sumL]
    rw [e, e2] at hn
    simp -implicitDefEqProofs [hn, hs, wv]
  · have hg := nat_gap (T := T) a b (by omega) (by omega)
    by_cases hlt : val a < val b
    · have hs := whole_signed (T := T) m (val b - val a)
      rw [sg_add_lt h hlt] at hs
      simp -implicitDefEqProofs [h, hg, hlt, cmpN_lt, hs, wv]
    · have hs := whole_signed (T := T) n (val a - val b)
      rw [sg_add_ge h hlt] at hs
      simp -implicitDefEqProofs [h, hg, hlt, cmpN_lt, hs, wv]

end
section
variable {T : Tbl} [CNat T] [CProd T] [CTwos T] [CQuot T] [CQuotD T] [CDigits T] [CText T] [CWhole T]
end
section
variable {T : Tbl} [CNat T] [CWhole T]
theorem whole_sub (n m : Bool) (a b : List UInt32) (ha : a.length ≤ 10000) (hb : b.length ≤ 10000) : callF T 25 [wh n a, wh m b] = some (ez (wv n a - wv m b)) := by
  obtain ⟨z, hz⟩ : ∃ z, z = -wv m b := ⟨_, rfl⟩
  have h1 := whole_neg (T := T) m b (by omega)
  have hl := wv_len m b
  rw [← abs_neg_len, ← hz] at hl
  have h2 := whole_add (T := T) n (decide (z < 0)) a (ofN z.natAbs) (by omega) (by omega)
  have e : wv n a - wv m b = wv n a + z := by omega
  rw [wv_ez, ← e] at h2
  rw [← hz] at h1
  rw [f25 _ rfl, b25]
  simp -implicitDefEqProofs [h1, h2]

end
section
variable {T : Tbl} [CNat T] [CProd T] [CTwos T] [CQuot T] [CQuotD T] [CDigits T] [CText T] [CWhole T]
end
section
variable {T : Tbl} [CProd T] [CWhole T]
theorem whole_mul (n m : Bool) (a b : List UInt32) (ha : a.length ≤ 100000) (hb : b.length ≤ 100000) : callF T 27 [wh n a, wh m b] = some (ez (wv n a * wv m b)) := by
  have h1 := prod_mul (T := T) a b ha hb
  have hs := whole_signed (T := T) (n != m) (val a * val b)
  rw [sg_mul] at hs
  rw [f27 _ rfl, b27]
  simp -implicitDefEqProofs [h1, hs, wv]

end
section
variable {T : Tbl} [CNat T] [CProd T] [CTwos T] [CQuot T] [CQuotD T] [CDigits T] [CText T] [CWhole T]
end
section
variable {T : Tbl} [CNat T] [CWhole T]
theorem whole_sign (n : Bool) (a : List UInt32) (ha : a.length ≤ 1000000) : callF T 37 [wh n a] = some (.i .i64 (sgI (wv n a))) := by
  have h1 := nat_zero (T := T) a (by omega)
  rw [f37 _ rfl, b37]
  unfold wv
  rw [sg_sgI]
  by_cases h : val a = 0
  · simp -implicitDefEqProofs [h1, h]
  · cases n <;> simp -implicitDefEqProofs [h1, h]

end
section
variable {T : Tbl} [CNat T] [CWhole T]
theorem whole_cmp (n m : Bool) (a b : List UInt32) (ha : a.length ≤ 10000) (hb : b.length ≤ 10000) : callF T 36 [wh n a, wh m b] = some (.i .i64 (sgI (wv n a - wv m b))) := by
  have h1 := whole_sub (T := T) n m a b ha hb
  have hl := abs_add_len (x := wv n a) (y := -wv m b) (L := 10000) (by have := wv_len n a; omega) (by rw [abs_neg_len]; have := wv_len m b; omega)
  rw [← Int.sub_eq_add_neg] at hl
  have h2 := whole_sign (T := T) (decide (wv n a - wv m b < 0)) (ofN (wv n a - wv m b).natAbs) (show (ofN (wv n a - wv m b).natAbs).length ≤ 1000000 by omega)
  rw [wv_ez] at h2
  rw [f36 _ rfl, b36]
  simp -implicitDefEqProofs [h1, h2]

end
section
variable {T : Tbl} [CNat T] [CWhole T]
theorem whole_of (k : Int) (h1 : -9223372036854775808 ≤ k) (h2 : k < 9223372036854775808) : callF T 41 [.i .i64 k] = some (ez k) := by
  rw [f41 _ rfl, b41]
  by_cases h : k < 0
  · have hn := nat_of (T := T) k.natAbs (by omega)
    have hs := whole_signed (T := T) true k.natAbs
    have e : sg true k.natAbs = k := by simp [sg]; omega
    have e2 : sub64 0 (k % 18446744073709551616).toNat = k.natAbs := by unfold sub64; omega
    rw [e] at hs
    simp -implicitDefEqProofs [h, e2, hn, hs]
  · have hn := nat_of (T := T) k.natAbs (by omega)
    have hs := whole_signed (T := T) false k.natAbs
    have e : sg false k.natAbs = k := by simp [sg]; omega
    have e2 : (k % 18446744073709551616).toNat = k.natAbs := by omega
    rw [e] at hs
    simp -implicitDefEqProofs [h, e2, hn, hs]

end
section
variable {T : Tbl} [CNat T] [CProd T] [CTwos T] [CQuot T] [CQuotD T] [CDigits T] [CText T] [CWhole T]
end
section
variable {T : Tbl} [CNat T] [CWhole T]
theorem whole_int (n : Bool) (a : List UInt32) (ha : a.length ≤ 1000000) : callF T 42 [wh n a] =
    some (if -9223372036854775808 ≤ wv n a ∧ wv n a < 9223372036854775808 then .tup [.i .i64 (wv n a), .b true] else .tup [.i .i64 0, .b false]) := by
  have h1 := nat_small (T := T) a ha
  rw [f42 _ rfl, b42]
  have hv : wv n a = sg n (val a) := rfl
  rw [hv]
  generalize val a = x at *
  by_cases h : x < 18446744073709551616
  · by_cases h3 : 9223372036854775808 < x
    · have h4 : ¬ (-9223372036854775808 ≤ sg n x ∧ sg n x < 9223372036854775808) := by cases n <;> simp [sg] <;> omega
      simp -implicitDefEqProofs [h1, h, h3, h4]
    · by_cases h5 : x = 9223372036854775808
      · subst h5
        have hw : IntKind.wrap .i64 ((sub64 0 9223372036854775808 : Nat) : Int) = -9223372036854775808 := by decide
        cases n <;> simp -implicitDefEqProofs [h1, sg, hw]
      · have h4 : (-9223372036854775808 ≤ sg n x ∧ sg n x < 9223372036854775808) := by cases n <;> simp [sg] <;> omega
        cases n
        · have hw : IntKind.wrap .i64 (x : Int) = x := wrap_i64 _ (by omega)
          simp -implicitDefEqProofs [h1, h, h3, h4, h5, hw]
          simp [sg]
        · have hw : IntKind.wrap .i64 ((sub64 0 x : Nat) : Int) = -(x : Int) := by
            unfold sub64
            simp [IntKind.wrap, IntKind.signed, IntKind.bits]
            omega
          simp -implicitDefEqProofs [h1, h, h3, h4, h5, hw]
          simp [sg]
  · have h4 : ¬ (-9223372036854775808 ≤ sg n x ∧ sg n x < 9223372036854775808) := by cases n <;> simp [sg] <;> omega
    simp -implicitDefEqProofs [h1, h, h4]
end
section
variable {T : Tbl} [CNat T] [CProd T] [CTwos T] [CQuot T] [CQuotD T] [CWhole T]
theorem whole_floor (n m : Bool) (a b : List UInt32) (ha : a.length ≤ 1000) (hb : b.length ≤ 1000) : callF T 29 [wh n a, wh m b] =
    some (if val b = 0 then .tup [wh false [], wh false [], .b false] else .tup [ez ((wv n a).fdiv (wv m b)), ez ((wv n a).fmod (wv m b)), .b true]) := by
  have hd := quot_div (T := T) a b (by omega) (by omega)
  rw [f29 _ rfl, b29]
  by_cases h0 : val b = 0
  · simp -implicitDefEqProofs [hd, h0]
  · have hs := whole_signed (T := T) (n != m) (val a / val b)
    obtain ⟨q, hq⟩ : ∃ q, q = sg (n != m) (val a / val b) := ⟨_, rfl⟩
    obtain ⟨hf1, hf2⟩ := floor_of (n := n) (m := m) (x := val a) h0
    rw [← hq] at hs hf1 hf2
    have hql : (ofN q.natAbs).length ≤ 1000 := by
      rw [hq, sg_abs]
      have h1 := ofN_length_le a
      have h2 := ofN_len_le (Nat.div_le_self (val a) (val b))
      omega
    have hml := whole_mul (T := T) (decide (q < 0)) m (ofN q.natAbs) b (by omega) (by omega)
    rw [wv_ez] at hml
    obtain ⟨p, hp⟩ : ∃ p, p = q * wv m b := ⟨_, rfl⟩
    have hpl : (ofN p.natAbs).length ≤ 2000 := by
      rw [hp]
      have := abs_mul_len (x := q) (y := wv m b) (L := 1000) (M := 1000) hql (by have := wv_len m b; omega)
      omega
    rw [← hp] at hml
    have hsb := whole_sub (T := T) n (decide (p < 0)) a (ofN p.natAbs) (by omega) (by omega)
    rw [wv_ez] at hsb
    obtain ⟨r, hr⟩ : ∃ r, r = wv n a - p := ⟨_, rfl⟩
    have hrl : (ofN r.natAbs).length ≤ 2001 := by
      rw [hr, Int.sub_eq_add_neg]
      exact abs_add_len (by have := wv_len n a; omega) (by rw [abs_neg_len]; exact hpl)
    rw [← hr] at hsb
    have h1 := whole_sign (T := T) (decide (r < 0)) (ofN r.natAbs) (by omega)
    have h2 := whole_sign (T := T) m b (by omega)
    rw [wv_ez] at h1
    have ew : sg n (val a) - q * sg m (val b) = r := by rw [hr, hp]; rfl
    rw [ew] at hf1 hf2
    change sgI r * sgI (wv m b) < 0 → q - 1 = (wv n a).fdiv (wv m b) ∧ r + wv m b = (wv n a).fmod (wv m b) at hf1
    change ¬ sgI r * sgI (wv m b) < 0 → q = (wv n a).fdiv (wv m b) ∧ r = (wv n a).fmod (wv m b) at hf2
    have hsg : ∀ z, -1 ≤ sgI z ∧ sgI z ≤ 1 := by
      intro z
      unfold sgI
      split
      · omega
      · split <;> omega
    have hm1 : -1 ≤ sgI r * sgI (wv m b) ∧ sgI r * sgI (wv m b) ≤ 1 := by
      have b1 := hsg r
      have b2 := hsg (wv m b)
      rcases (show sgI r = -1 ∨ sgI r = 0 ∨ sgI r = 1 by omega) with e | e | e <;> rw [e] <;> omega
    have hw : IntKind.wrap .i64 (sgI r * sgI (wv m b)) = sgI r * sgI (wv m b) := wrap_i64 _ (by omega)
    by_cases hc : sgI r * sgI (wv m b) < 0
    · obtain ⟨e1, e2⟩ := hf1 hc
      have h3 := whole_of (T := T) 1 (by decide) (by decide)
      have h4 := whole_sub (T := T) (decide (q < 0)) (decide ((1 : Int) < 0)) (ofN q.natAbs) (ofN (1 : Int).natAbs) (by omega) (by rw [show (1 : Int).natAbs = 1 from rfl, ofN_pos (by decide)]; simp)
      have h5 := whole_add (T := T) (decide (r < 0)) m (ofN r.natAbs) b (by omega) (by omega)
      rw [wv_ez, wv_ez, e1] at h4
      rw [wv_ez, e2] at h5
      simp at h3 h4
      simp -implicitDefEqProofs [hd, h0, hs, hml, hsb, h1, h2, hw, hc, h3, h4, h5, pendOk_cons]
    · obtain ⟨e1, e2⟩ := hf2 hc
      rw [← e1, ← e2]
      simp -implicitDefEqProofs [hd, h0, hs, hml, hsb, h1, h2, hw, hc, pendOk_cons]

end
section
variable {T : Tbl} [CNat T] [CText T] [CWhole T]
theorem whole_text (n : Bool) (a : List UInt32) (ha : a.length ≤ 1000) : callF T 34 [wh n a] = some (.s (textZ (wv n a))) := by
  have h1 : callF T 68 [.sl (u32s a) .an] = some (.s (textN (val a))) := by rw [p68, prim68_eq a ha]
  have h2 := whole_sign (T := T) n a (by omega)
  have h3 := textN_words ha
  have h4 : 1 + (textN (val a)).length ≤ 9223372036854775807 := by omega
  rw [f34 _ rfl, b34]
  unfold textZ
  rw [wv_val]
  by_cases h : wv n a < 0
  · have h5 : sgI (wv n a) = -1 := by unfold sgI; rw [if_pos h]
    simp -implicitDefEqProofs [h1, h2, h, h5, h4]
  · have h5 : ¬ sgI (wv n a) < 0 := by unfold sgI; rw [if_neg h]; split <;> omega
    simp -implicitDefEqProofs [h1, h2, h, h5]

end
section
variable {T : Tbl} [CNat T] [CProd T] [CTwos T] [CQuot T] [CQuotD T] [CDigits T] [CText T] [CWhole T]
end
section
variable {T : Tbl} [CNat T] [CProd T] [CDigits T] [CWhole T]
end
section
variable {T : Tbl} [CProd T] [CDigits T] [CWhole T]
theorem whole_read (l : List UInt8) (hl : l.length ≤ 1000000) : callF T 32 [.s l] = some (.tup (if 0 ≤ wrongZ l then [wh false [], .agg [.i .i64 1, .i .i64 0, .i .i64 0, .i .i64 (wrongZ l + minus l)]]
    else [ez (readZ l), .agg [.i .i64 0, .i .i64 0, .i .i64 0, .i .i64 0]])) := by
  have h1 := cut_minus (T := T) l hl
  obtain ⟨l', hl'⟩ : ∃ l', l' = if l.head? = some 45 then l.tail else l := ⟨_, rfl⟩
  have hl2 : l'.length ≤ 1000000 := by rw [hl']; split; · simp; omega
                                       · exact hl
  have h2 := digits_read (T := T) l' hl2
  have hs := whole_signed (T := T) (l.head? = some 45) (rd l')
  have hm : (l.length : Int) - l'.length = minus l := by
    rw [hl']
    unfold minus
    split
    · rename_i h
      cases l with
      | nil => cases h
      | cons c r => simp; omega
    · omega
  unfold wrongZ readZ
  rw [← hl'] at h1 ⊢
  have hw1 : IntKind.wrap .i64 ((l.length : Int) - l'.length) = minus l := by rw [hm]; exact wrap_i64 _ (by unfold minus; split <;> omega)
  rw [f32 _ rfl, b32]
  have hwb : wrongI l' ≤ 60 := by
    unfold wrongI
    split
    · omega
    · exact wrAt_le 0 l' (by omega)
  by_cases h0 : 0 ≤ wrongI l'
  · have hw2 : IntKind.wrap .i64 (wrongI l' + minus l) = wrongI l' + minus l := wrap_i64 _ (by unfold minus; split <;> omega)
    simp -implicitDefEqProofs [h1, h2, h0, hw1, hw2, pendOk_cons]
  · simp -implicitDefEqProofs [h1, h2, h0, hs]
end
section
variable {T : Tbl} [CNat T] [CProd T] [CDigits T] [CWhole T]
end
section
variable {T : Tbl} [CNat T] [CProd T] [CTwos T] [CQuot T] [CQuotD T] [CDigits T] [CText T] [CWhole T]
end
end Go.Ab
end

section
/-
  Code with remarks of some functions, by program (AxPrint), and the rules to run them.
-/
namespace Go.Ab

/- retrospect/retrospectref08.Norm -/
def b39 : AX :=
 (.seq
  (.reg [⟨(some 1), none, .xop (.box 2) [(.t 0)]⟩,
    ⟨(some 2), none, .alloc [(.b false), (.sl [] .nl)]⟩])
  (.seq
   (.reg [⟨(some 4), none, .fad 1 (.t 1)⟩,
     ⟨(some 5), none, .load none (.t 4)⟩,
     ⟨(some 6), none, .call 43 [(.t 5)]⟩,
     ⟨(some 3), none, .mov (.t 6)⟩])
   (.seq
    (.reg [⟨(some 7), none, .fad 0 (.t 1)⟩,
      ⟨(some 8), none, .load none (.t 7)⟩,
      ⟨(some 9), none, .mov (.t 8)⟩,
      ⟨(some 10), (some (9, true)), .mov (.t 3)⟩,
      ⟨(some 11), (some (9, true)), .len (.t 10)⟩,
      ⟨(some 12), (some (9, true)), .bin .gtr (.t 11) (.c (.i .i64 0))⟩,
      ⟨(some 13), none, .pick (.t 9) (.t 12) (.c (.b false))⟩,
      ⟨(some 14), none, .mov (.t 3)⟩,
      ⟨(some 15), none, .build [(.b false), (.sl [] .nl)] [(0, 1, (.t 13)), (1, 1, (.t 14))]⟩,
      ⟨none, none, .store 2 (.t 2) (.t 15)⟩])
    (.pre (.norm false [2]) .ret))))

/- retrospect/retrospectref08.Same -/
def b21 : AX :=
 (.seq
  (.reg [⟨(some 2), none, .xop (.box 2) [(.t 0)]⟩,
    ⟨(some 3), none, .xop (.box 2) [(.t 1)]⟩,
    ⟨(some 4), none, .mov (.c (.b false))⟩])
  (.seq
   (.reg [⟨(some 5), none, .fad 0 (.t 2)⟩,
     ⟨(some 6), none, .load none (.t 5)⟩,
     ⟨(some 7), none, .fad 0 (.t 3)⟩,
     ⟨(some 8), none, .load none (.t 7)⟩,
     ⟨(some 9), none, .eqb false (.t 6) (.t 8)⟩,
     ⟨(some 10), none, .mov (.t 9)⟩,
     ⟨(some 11), (some (10, true)), .fad 1 (.t 2)⟩,
     ⟨(some 12), (some (10, true)), .load none (.t 11)⟩,
     ⟨(some 13), (some (10, true)), .fad 1 (.t 3)⟩,
     ⟨(some 14), (some (10, true)), .load none (.t 13)⟩,
     ⟨(some 15), (some (10, true)), .call 54 [(.t 12), (.t 14)]⟩,
     ⟨(some 16), none, .pick (.t 10) (.t 15) (.c (.b false))⟩,
     ⟨(some 4), none, .mov (.t 16)⟩])
   (.pre (.norm false [4]) .ret)))

/- retrospect/retrospectref08.Sign -/
def b30 : AX :=
 (.seq
  (.reg [⟨(some 1), none, .xop (.box 2) [(.t 0)]⟩,
    ⟨(some 2), none, .mov (.c (.i .i64 0))⟩])
  (.seq
   (.reg [⟨(some 4), none, .load (some 2) (.t 1)⟩,
     ⟨(some 5), none, .call 39 [(.t 4)]⟩,
     ⟨(some 3), none, .alloc [(.b false), (.sl [] .nl)]⟩,
     ⟨none, none, .store 2 (.t 3) (.t 5)⟩])
   (.seq
    (.seq
     (.reg [⟨(some 6), none, .fad 1 (.t 3)⟩,
       ⟨(some 7), none, .load none (.t 6)⟩,
       ⟨(some 8), none, .len (.t 7)⟩,
       ⟨(some 9), none, .bin .eql (.t 8) (.c (.i .i64 0))⟩])
     (.cond (.t 9)
      (.seq
       (.reg [⟨(some 2), none, .mov (.c (.i .i64 0))⟩])
       (.pre (.norm false [2]) .ret))
      .skip))
    (.seq
     (.seq
      (.reg [⟨(some 10), none, .fad 0 (.t 3)⟩,
        ⟨(some 11), none, .load none (.t 10)⟩])
      (.cond (.t 11)
       (.seq
        (.reg [⟨(some 2), none, .mov (.c (.i .i64 (-1)))⟩])
        (.pre (.norm false [2]) .ret))
       .skip))
     (.seq
      (.reg [⟨(some 2), none, .mov (.c (.i .i64 1))⟩])
      (.pre (.norm false [2]) .ret))))))

/- retrospect/retrospectref08.Neg -/
def b26 : AX :=
 (.seq
  (.reg [⟨(some 1), none, .xop (.box 2) [(.t 0)]⟩,
    ⟨(some 2), none, .alloc [(.b false), (.sl [] .nl)]⟩])
  (.seq
   (.reg [⟨(some 3), none, .fad 0 (.t 1)⟩,
     ⟨(some 4), none, .load none (.t 3)⟩,
     ⟨(some 5), none, .un .not (.t 4)⟩,
     ⟨(some 6), none, .fad 1 (.t 1)⟩,
     ⟨(some 7), none, .load none (.t 6)⟩,
     ⟨(some 8), none, .build [(.b false), (.sl [] .nl)] [(0, 1, (.t 5)), (1, 1, (.t 7))]⟩,
     ⟨(some 9), none, .call 39 [(.t 8)]⟩,
     ⟨none, none, .store 2 (.t 2) (.t 9)⟩])
   (.pre (.norm false [2]) .ret)))

/- retrospect/retrospectref08.Add -/
def b24 : AX :=
 (.seq
  (.reg [⟨(some 2), none, .xop (.box 2) [(.t 0)]⟩,
    ⟨(some 3), none, .xop (.box 2) [(.t 1)]⟩,
    ⟨(some 4), none, .alloc [(.b false), (.sl [] .nl)]⟩])
  (.seq
   (.seq
    (.reg [⟨(some 5), none, .fad 0 (.t 2)⟩,
      ⟨(some 6), none, .load none (.t 5)⟩,
      ⟨(some 7), none, .fad 0 (.t 3)⟩,
      ⟨(some 8), none, .load none (.t 7)⟩,
      ⟨(some 9), none, .eqb false (.t 6) (.t 8)⟩])
    (.cond (.t 9)
     (.seq
      (.drawT [⟨(some 10), none, .fad 0 (.t 2)⟩,
        ⟨(some 11), none, .load none (.t 10)⟩,
        ⟨(some 12), none, .fad 1 (.t 2)⟩,
        ⟨(some 13), none, .load none (.t 12)⟩,
        ⟨(some 14), none, .fad 1 (.t 3)⟩,
        ⟨(some 15), none, .load none (.t 14)⟩,
        ⟨(some 16), none, .call 58 [(.t 13), (.t 15)]⟩]
       [⟨(some 17), none, .build [(.b false), (.sl [] .nl)] [(0, 1, (.t 11)), (1, 1, (.t 16))]⟩,
        ⟨(some 18), none, .call 39 [(.t 17)]⟩,
        ⟨none, none, .store 2 (.t 4) (.t 18)⟩])
      (.pre (.norm false [4]) .ret))
     .skip))
   (.seq
    (.seq
     (.reg [⟨(some 19), none, .fad 1 (.t 2)⟩,
       ⟨(some 20), none, .load none (.t 19)⟩,
       ⟨(some 21), none, .fad 1 (.t 3)⟩,
       ⟨(some 22), none, .load none (.t 21)⟩,
       ⟨(some 23), none, .call 52 [(.t 20), (.t 22)]⟩,
       ⟨(some 24), none, .bin .lss (.t 23) (.c (.i .i64 0))⟩])
     (.cond (.t 24)
      (.seq
       (.drawT [⟨(some 25), none, .fad 0 (.t 3)⟩,
         ⟨(some 26), none, .load none (.t 25)⟩,
         ⟨(some 27), none, .fad 1 (.t 3)⟩,
         ⟨(some 28), none, .load none (.t 27)⟩,
         ⟨(some 29), none, .fad 1 (.t 2)⟩,
         ⟨(some 30), none, .load none (.t 29)⟩,
         ⟨(some 31), none, .call 59 [(.t 28), (.t 30)]⟩]
        [⟨(some 32), none, .build [(.b false), (.sl [] .nl)] [(0, 1, (.t 26)), (1, 1, (.t 31))]⟩,
         ⟨(some 33), none, .call 39 [(.t 32)]⟩,
         ⟨none, none, .store 2 (.t 4) (.t 33)⟩])
       (.pre (.norm false [4]) .ret))
      .skip))
    (.seq
     (.drawT [⟨(some 34), none, .fad 0 (.t 2)⟩,
       ⟨(some 35), none, .load none (.t 34)⟩,
       ⟨(some 36), none, .fad 1 (.t 2)⟩,
       ⟨(some 37), none, .load none (.t 36)⟩,
       ⟨(some 38), none, .fad 1 (.t 3)⟩,
       ⟨(some 39), none, .load none (.t 38)⟩,
       ⟨(some 40), none, .call 59 [(.t 37), (.t 39)]⟩]
      [⟨(some 41), none, .build [(.b false), (.sl [] .nl)] [(0, 1, (.t 35)), (1, 1, (.t 40))]⟩,
       ⟨(some 42), none, .call 39 [(.t 41)]⟩,
       ⟨none, none, .store 2 (.t 4) (.t 42)⟩])
     (.pre (.norm false [4]) .ret)))))

/- retrospect/retrospectref08.Mul -/
def b28 : AX :=
 (.seq
  (.reg [⟨(some 2), none, .xop (.box 2) [(.t 0)]⟩,
    ⟨(some 3), none, .xop (.box 2) [(.t 1)]⟩,
    ⟨(some 4), none, .alloc [(.b false), (.sl [] .nl)]⟩])
  (.seq
   (.drawT [⟨(some 5), none, .fad 0 (.t 2)⟩,
     ⟨(some 6), none, .load none (.t 5)⟩,
     ⟨(some 7), none, .fad 0 (.t 3)⟩,
     ⟨(some 8), none, .load none (.t 7)⟩,
     ⟨(some 9), none, .eqb true (.t 6) (.t 8)⟩,
     ⟨(some 10), none, .fad 1 (.t 2)⟩,
     ⟨(some 11), none, .load none (.t 10)⟩,
     ⟨(some 12), none, .fad 1 (.t 3)⟩,
     ⟨(some 13), none, .load none (.t 12)⟩,
     ⟨(some 14), none, .call 61 [(.t 11), (.t 13)]⟩]
    [⟨(some 15), none, .build [(.b false), (.sl [] .nl)] [(0, 1, (.t 9)), (1, 1, (.t 14))]⟩,
     ⟨(some 16), none, .call 39 [(.t 15)]⟩,
     ⟨none, none, .store 2 (.t 4) (.t 16)⟩])
   (.pre (.norm false [4]) .ret)))

/- retrospect/retrospectref08.Floor -/
def b31 : AX :=
 (.seq
  (.reg [⟨(some 2), none, .xop (.box 2) [(.t 0)]⟩,
    ⟨(some 3), none, .xop (.box 2) [(.t 1)]⟩,
    ⟨(some 4), none, .alloc [(.b false), (.sl [] .nl)]⟩,
    ⟨(some 5), none, .alloc [(.b false), (.sl [] .nl)]⟩])
  (.seq
   (.reg [⟨(some 10), none, .fad 1 (.t 2)⟩,
     ⟨(some 11), none, .load none (.t 10)⟩,
     ⟨(some 12), none, .fad 1 (.t 3)⟩,
     ⟨(some 13), none, .load none (.t 12)⟩,
     ⟨(some 14), none, .call 63 [(.t 11), (.t 13)]⟩,
     ⟨(some 9), none, .mov (.t 14)⟩,
     ⟨(some 15), none, .ext (.t 9) 0⟩,
     ⟨(some 16), none, .ext (.t 9) 1⟩,
     ⟨(some 6), none, .mov (.t 15)⟩,
     ⟨(some 7), none, .mov (.t 16)⟩])
   (.seq
    (.seq
     (.reg [⟨(some 17), none, .fad 0 (.t 2)⟩,
       ⟨(some 18), none, .load none (.t 17)⟩,
       ⟨(some 19), none, .fad 0 (.t 3)⟩,
       ⟨(some 20), none, .load none (.t 19)⟩,
       ⟨(some 21), none, .eqb true (.t 18) (.t 20)⟩,
       ⟨(some 22), none, .mov (.t 21)⟩,
       ⟨(some 23), (some (22, true)), .mov (.t 7)⟩,
       ⟨(some 24), (some (22, true)), .len (.t 23)⟩,
       ⟨(some 25), (some (22, true)), .bin .gtr (.t 24) (.c (.i .i64 0))⟩,
       ⟨(some 26), none, .pick (.t 22) (.t 25) (.c (.b false))⟩])
     (.cond (.t 26)
      (.reg [⟨(some 27), none, .mov (.t 6)⟩,
        ⟨(some 28), none, .bsl 1 [(u32 0)] 1 [(0, (.c (u32 1)))]⟩,
        ⟨(some 29), none, .call 58 [(.t 27), (.t 28)]⟩,
        ⟨(some 6), none, .mov (.t 29)⟩])
      .skip))
    (.seq
     (.reg [⟨(some 30), none, .fad 0 (.t 2)⟩,
       ⟨(some 31), none, .load none (.t 30)⟩,
       ⟨(some 32), none, .fad 0 (.t 3)⟩,
       ⟨(some 33), none, .load none (.t 32)⟩,
       ⟨(some 34), none, .eqb true (.t 31) (.t 33)⟩,
       ⟨(some 35), none, .mov (.t 6)⟩,
       ⟨(some 36), none, .build [(.b false), (.sl [] .nl)] [(0, 1, (.t 34)), (1, 1, (.t 35))]⟩,
       ⟨(some 37), none, .call 39 [(.t 36)]⟩,
       ⟨(some 8), none, .alloc [(.b false), (.sl [] .nl)]⟩,
       ⟨none, none, .store 2 (.t 8) (.t 37)⟩])
     (.seq
      (.drawT [⟨(some 38), none, .load (some 2) (.t 8)⟩,
        ⟨(some 39), none, .load (some 2) (.t 2)⟩,
        ⟨(some 40), none, .load (some 2) (.t 8)⟩,
        ⟨(some 41), none, .load (some 2) (.t 3)⟩,
        ⟨(some 42), none, .call 28 [(.t 40), (.t 41)]⟩,
        ⟨(some 43), none, .call 26 [(.t 42)]⟩,
        ⟨(some 44), none, .call 24 [(.t 39), (.t 43)]⟩]
       [⟨none, none, .store 2 (.t 4) (.t 38)⟩,
        ⟨none, none, .store 2 (.t 5) (.t 44)⟩])
      (.pre (.norm false [4, 5]) .ret))))))

/- retrospect/retrospectref08.Text -/
def b35 : AX :=
 (.seq
  (.reg [⟨(some 1), none, .xop (.box 2) [(.t 0)]⟩,
    ⟨(some 2), none, .mov (.c (.s []))⟩])
  (.seq
   (.reg [⟨(some 4), none, .fad 1 (.t 1)⟩,
     ⟨(some 5), none, .load none (.t 4)⟩,
     ⟨(some 6), none, .call 69 [(.t 5)]⟩,
     ⟨(some 3), none, .mov (.t 6)⟩])
   (.seq
    (.seq
     (.reg [⟨(some 7), none, .load (some 2) (.t 1)⟩,
       ⟨(some 8), none, .call 30 [(.t 7)]⟩,
       ⟨(some 9), none, .bin .lss (.t 8) (.c (.i .i64 0))⟩])
     (.cond (.t 9)
      (.reg [⟨(some 10), none, .mov (.t 3)⟩,
        ⟨(some 11), none, .bin .add (.c (.s [45])) (.t 10)⟩,
        ⟨(some 3), none, .mov (.t 11)⟩])
      .skip))
    (.seq
     (.reg [⟨(some 12), none, .mov (.t 3)⟩,
       ⟨(some 2), none, .mov (.t 12)⟩])
     (.pre (.norm false [2]) .ret)))))

/- retrospect/retrospectref08.Read -/
def b33 : AX :=
 (.seq
  (.reg [⟨(some 2), none, .alloc [(.b false), (.sl [] .nl)]⟩,
    ⟨(some 3), none, .mov (.c (.i .i64 0))⟩])
  (.seq
   (.reg [⟨(some 7), none, .mov (.t 0)⟩,
     ⟨(some 8), none, .lens (.t 7)⟩,
     ⟨(some 9), none, .bin .gtr (.t 8) (.c (.i .i64 0))⟩,
     ⟨(some 10), none, .mov (.t 9)⟩,
     ⟨(some 11), (some (10, true)), .mov (.t 0)⟩,
     ⟨(some 12), (some (10, true)), .ixs (.t 11) (.c (.i .i64 0))⟩,
     ⟨(some 13), (some (10, true)), .bin .eql (.t 12) (.c (u8 45))⟩,
     ⟨(some 14), none, .pick (.t 10) (.t 13) (.c (.b false))⟩,
     ⟨(some 4), none, .mov (.t 14)⟩])
   (.seq
    (.reg [⟨(some 5), none, .mov (.c (.i .i64 0))⟩])
    (.seq
     (.seq
      (.reg [⟨(some 15), none, .mov (.t 4)⟩])
      (.cond (.t 15)
       (.reg [⟨(some 5), none, .mov (.c (.i .i64 1))⟩])
       .skip))
     (.seq
      (.reg [⟨(some 16), none, .mov (.t 0)⟩,
        ⟨(some 17), none, .mov (.t 5)⟩,
        ⟨(some 18), none, .slstr (.t 16) (some (.t 17)) none⟩,
        ⟨(some 19), none, .call 66 [(.t 18)]⟩,
        ⟨(some 6), none, .mov (.t 19)⟩])
      (.seq
       (.seq
        (.reg [⟨(some 20), none, .mov (.t 6)⟩,
          ⟨(some 21), none, .bin .geq (.t 20) (.c (.i .i64 0))⟩])
        (.cond (.t 21)
         (.seq
          (.reg [⟨(some 22), none, .build [(.b false), (.sl [] .nl)] []⟩,
            ⟨(some 23), none, .mov (.t 5)⟩,
            ⟨(some 24), none, .mov (.t 6)⟩,
            ⟨(some 25), none, .bin .add (.t 23) (.t 24)⟩,
            ⟨none, none, .store 2 (.t 2) (.t 22)⟩,
            ⟨(some 3), none, .mov (.t 25)⟩])
          (.pre (.norm false [2, 3]) .ret))
         .skip))
       (.seq
        (.reg [⟨(some 26), none, .mov (.t 4)⟩,
          ⟨(some 27), none, .mov (.t 0)⟩,
          ⟨(some 28), none, .mov (.t 5)⟩,
          ⟨(some 29), none, .slstr (.t 27) (some (.t 28)) none⟩,
          ⟨(some 30), none, .call 67 [(.t 29)]⟩,
          ⟨(some 31), none, .build [(.b false), (.sl [] .nl)] [(0, 1, (.t 26)), (1, 1, (.t 30))]⟩,
          ⟨(some 32), none, .call 39 [(.t 31)]⟩,
          ⟨none, none, .store 2 (.t 2) (.t 32)⟩,
          ⟨(some 3), none, .mov (.c (.i .i64 (-1)))⟩])
        (.pre (.norm false [2, 3]) .ret))))))))

class CRef08 (T : Tbl) : Prop extends CRef07 T where
  h39 : T 39 = some ⟨1, 16, [.cell 2 (some 2)], b39, none, false⟩
  h21 : T 21 = some ⟨2, 17, [.t 4], b21, none, false⟩
  h30 : T 30 = some ⟨1, 12, [.t 2], b30, none, false⟩
  h26 : T 26 = some ⟨1, 10, [.cell 2 (some 2)], b26, none, false⟩
  h24 : T 24 = some ⟨2, 43, [.cell 4 (some 2)], b24, none, false⟩
  h28 : T 28 = some ⟨2, 17, [.cell 4 (some 2)], b28, none, false⟩
  h31 : T 31 = some ⟨2, 45, [.cell 4 (some 2), .cell 5 (some 2)], b31, none, false⟩
  h35 : T 35 = some ⟨1, 13, [.t 2], b35, none, false⟩
  h33 : T 33 = some ⟨1, 33, [.cell 2 (some 2), .t 3], b33, none, false⟩

section
variable {T : Tbl} [CRef08 T] {d : Option Nat} {st : St}
@[simp] theorem x39 (xs : List AV) : callX (orc T) T 39 xs d st = bL (frzL st.heap xs) fun ys => cR (callF T 39 (ys.map (wkIf false))) xs d st := callX_pure CRef08.h39
@[simp] theorem y39 {e : Env} {h : Heap} {older : List Heap} (args : List Opd) : opD (orc T) T (.call 39 args) e h older = dR (callF T 39 ((args.map (ev e.get)).map (wkIf false))) (args.map (ev e.get)) := opD_call CRef08.h39
theorem f39 (xs : List AV) (hn : xs.length = 1) : callF T 39 xs = retF [.cell 2 (some 2)] false (evX (orc T) T 0 b39 ⟨argEnv xs, [], 1⟩) := callF_eq CRef08.h39 hn
@[simp] theorem x21 (xs : List AV) : callX (orc T) T 21 xs d st = bL (frzL st.heap xs) fun ys => cR (callF T 21 (ys.map (wkIf false))) xs d st := callX_pure CRef08.h21
@[simp] theorem y21 {e : Env} {h : Heap} {older : List Heap} (args : List Opd) : opD (orc T) T (.call 21 args) e h older = dR (callF T 21 ((args.map (ev e.get)).map (wkIf false))) (args.map (ev e.get)) := opD_call CRef08.h21
theorem f21 (xs : List AV) (hn : xs.length = 2) : callF T 21 xs = retF [.t 4] false (evX (orc T) T 0 b21 ⟨argEnv xs, [], 1⟩) := callF_eq CRef08.h21 hn
@[simp] theorem x30 (xs : List AV) : callX (orc T) T 30 xs d st = bL (frzL st.heap xs) fun ys => cR (callF T 30 (ys.map (wkIf false))) xs d st := callX_pure CRef08.h30
@[simp] theorem y30 {e : Env} {h : Heap} {older : List Heap} (args : List Opd) : opD (orc T) T (.call 30 args) e h older = dR (callF T 30 ((args.map (ev e.get)).map (wkIf false))) (args.map (ev e.get)) := opD_call CRef08.h30
theorem f30 (xs : List AV) (hn : xs.length = 1) : callF T 30 xs = retF [.t 2] false (evX (orc T) T 0 b30 ⟨argEnv xs, [], 1⟩) := callF_eq CRef08.h30 hn
@[simp] theorem x26 (xs : List AV) : callX (orc T) T 26 xs d st = bL (frzL st.heap xs) fun ys => cR (callF T 26 (ys.map (wkIf false))) xs d st := callX_pure CRef08.h26
@[simp] theorem y26 {e : Env} {h : Heap} {older : List Heap} (args : List Opd) : opD (orc T) T (.call 26 args) e h older = dR (callF T 26 ((args.map (ev e.get)).map (wkIf false))) (args.map (ev e.get)) := opD_call CRef08.h26
theorem f26 (xs : List AV) (hn : xs.length = 1) : callF T 26 xs = retF [.cell 2 (some 2)] false (evX (orc T) T 0 b26 ⟨argEnv xs, [], 1⟩) := callF_eq CRef08.h26 hn
@[simp] theorem x24 (xs : List AV) : callX (orc T) T 24 xs d st = bL (frzL st.heap xs) fun ys => cR (callF T 24 (ys.map (wkIf false))) xs d st := callX_pure CRef08.h24
@[simp] theorem y24 {e : Env} {h : Heap} {older : List Heap} (args : List Opd) : opD (orc T) T (.call 24 args) e h older = dR (callF T 24 ((args.map (ev e.get)).map (wkIf false))) (args.map (ev e.get)) := opD_call CRef08.h24
theorem f24 (xs : List AV) (hn : xs.length = 2) : callF T 24 xs = retF [.cell 4 (some 2)] false (evX (orc T) T 0 b24 ⟨argEnv xs, [], 1⟩) := callF_eq CRef08.h24 hn
@[simp] theorem x28 (xs : List AV) : callX (orc T) T 28 xs d st = bL (frzL st.heap xs) fun ys => cR (callF T 28 (ys.map (wkIf false))) xs d st := callX_pure CRef08.h28
@[simp] theorem y28 {e : Env} {h : Heap} {older : List Heap} (args : List Opd) : opD (orc T) T (.call 28 args) e h older = dR (callF T 28 ((args.map (ev e.get)).map (wkIf false))) (args.map (ev e.get)) := opD_call CRef08.h28
theorem f28 (xs : List AV) (hn : xs.length = 2) : callF T 28 xs = retF [.cell 4 (some 2)] false (evX (orc T) T 0 b28 ⟨argEnv xs, [], 1⟩) := callF_eq CRef08.h28 hn
@[simp] theorem x31 (xs : List AV) : callX (orc T) T 31 xs d st = bL (frzL st.heap xs) fun ys => cR (callF T 31 (ys.map (wkIf false))) xs d st := callX_pure CRef08.h31
@[simp] theorem y31 {e : Env} {h : Heap} {older : List Heap} (args : List Opd) : opD (orc T) T (.call 31 args) e h older = dR (callF T 31 ((args.map (ev e.get)).map (wkIf false))) (args.map (ev e.get)) := opD_call CRef08.h31
theorem f31 (xs : List AV) (hn : xs.length = 2) : callF T 31 xs = retF [.cell 4 (some 2), .cell 5 (some 2)] false (evX (orc T) T 0 b31 ⟨argEnv xs, [], 1⟩) := callF_eq CRef08.h31 hn
@[simp] theorem x35 (xs : List AV) : callX (orc T) T 35 xs d st = bL (frzL st.heap xs) fun ys => cR (callF T 35 (ys.map (wkIf false))) xs d st := callX_pure CRef08.h35
@[simp] theorem y35 {e : Env} {h : Heap} {older : List Heap} (args : List Opd) : opD (orc T) T (.call 35 args) e h older = dR (callF T 35 ((args.map (ev e.get)).map (wkIf false))) (args.map (ev e.get)) := opD_call CRef08.h35
theorem f35 (xs : List AV) (hn : xs.length = 1) : callF T 35 xs = retF [.t 2] false (evX (orc T) T 0 b35 ⟨argEnv xs, [], 1⟩) := callF_eq CRef08.h35 hn
@[simp] theorem x33 (xs : List AV) : callX (orc T) T 33 xs d st = bL (frzL st.heap xs) fun ys => cR (callF T 33 (ys.map (wkIf false))) xs d st := callX_pure CRef08.h33
@[simp] theorem y33 {e : Env} {h : Heap} {older : List Heap} (args : List Opd) : opD (orc T) T (.call 33 args) e h older = dR (callF T 33 ((args.map (ev e.get)).map (wkIf false))) (args.map (ev e.get)) := opD_call CRef08.h33
theorem f33 (xs : List AV) (hn : xs.length = 1) : callF T 33 xs = retF [.cell 2 (some 2), .t 3] false (evX (orc T) T 0 b33 ⟨argEnv xs, [], 1⟩) := callF_eq CRef08.h33 hn
end
end Go.Ab
end

section
/-
  Whole numbers: what the document's layer 8 computes.
-/
namespace Go.Ab

/-- the floor by numbers without a sign, and one more, if something is left where both signs aren't alike -/
theorem floor_up {n m : Bool} {x y : Nat} (hy : y ≠ 0) : sg (n != m) (if (n != m) = true ∧ x % y ≠ 0 then x / y + 1 else x / y) = (sg n x).fdiv (sg m y) := by
  have hd := Nat.div_add_mod x y
  have hlt := Nat.mod_lt x (Nat.pos_of_ne_zero hy)
  have hb : sg m y ≠ 0 := by cases m <;> simp [sg] <;> omega
  have hd' : (x : Int) = y * (x / y : Nat) + (x % y : Nat) := by exact_mod_cast hd.symm
  have hlt' : ((x % y : Nat) : Int) < y := by exact_mod_cast hlt
  generalize x / y = q at *
  generalize x % y = r at *
  refine (floor_unique (r := sg n x - sg m y * sg (n != m) (if (n != m) = true ∧ r ≠ 0 then q + 1 else q)) hb (by omega) ?_).1
  cases n <;> cases m <;> simp [sg]
  · left; rw [hd']; omega
  · split
    · rename_i h; subst h; simp [Int.neg_mul, Int.mul_neg]; rw [hd']; right; simp; omega
    · right; simp [Int.neg_mul, Int.mul_neg, Int.mul_add]; rw [hd']; omega
  · split
    · rename_i h; subst h; simp [Int.mul_neg]; rw [hd']; left; simp; omega
    · left; simp [Int.mul_neg, Int.mul_add]; rw [hd']; omega
  · right; simp [Int.neg_mul]; rw [hd']; omega

section
variable {T : Tbl} [CRef08 T]

theorem ref08_norm (n : Bool) (a : List UInt32) (ha : a.length ≤ 1000000) : callF T 39 [wh n a] = some (ez (wv n a)) := by
  have h := ref02_norm (T := T) a ha
  have hl : (0 < (ofN (val a)).length) = (val a ≠ 0) := by
    rw [eq_iff_iff, List.length_pos_iff]
    exact not_congr ofN_eq_nil
  rw [f39 _ rfl, b39]
  unfold wv
  rw [ez_sg]
  cases n <;> simp -implicitDefEqProofs [h, hl]

theorem ref08_same (n m : Bool) (a b : List UInt32) (ha : a.length ≤ 1000000) : callF T 21 [wh n a, wh m b] = some (.b (decide (n = m ∧ a = b))) := by
  have h := ref02_same (T := T) a b ha
  rw [f21 _ rfl, b21]
  by_cases h0 : n = m
  · subst h0
    simp -implicitDefEqProofs [h]
  · simp -implicitDefEqProofs [h0]

theorem ez_inj {x y : Int} : (decide (x < 0) = decide (y < 0) ∧ ofN x.natAbs = ofN y.natAbs) ↔ x = y := by
  constructor
  · rintro ⟨h1, h2⟩
    have := congrArg val h2
    rw [val_ofN, val_ofN] at this
    by_cases hx : x < 0 <;> by_cases hy : y < 0 <;> simp [hx, hy] at h1 <;> omega
  · rintro rfl; exact ⟨rfl, rfl⟩

theorem ref08_same_ez (x y : Int) (hx : (ofN x.natAbs).length ≤ 1000000) : callF T 21 [ez x, ez y] = some (.b (decide (x = y))) := by
  rw [ref08_same (T := T) _ _ _ _ hx]
  simp only [ez_inj]

theorem ref08_sign (n : Bool) (a : List UInt32) (ha : a.length ≤ 1000000) : callF T 30 [wh n a] = some (.i .i64 (sgI (wv n a))) := by
  have h := ref08_norm (T := T) n a ha
  obtain ⟨z, hz⟩ : ∃ z, z = wv n a := ⟨_, rfl⟩
  rw [← hz] at h ⊢
  rw [f30 _ rfl, b30]
  have hl : ((((ofN z.natAbs).length : Int) == 0)) = decide (z = 0) := by
    rw [Bool.eq_iff_iff]
    simp [ofN_eq_nil]
  unfold sgI
  by_cases h0 : z = 0
  · subst h0
    simp -implicitDefEqProofs [h]
  · have h1 : ofN z.natAbs ≠ [] := fun h => h0 (by have := ofN_eq_nil.1 h; omega)
    by_cases h2 : z < 0
    · simp -implicitDefEqProofs [h, h1, h2]
    · simp -implicitDefEqProofs [h, h0, h1, h2]

theorem ref08_neg (n : Bool) (a : List UInt32) (ha : a.length ≤ 1000000) : callF T 26 [wh n a] = some (ez (-wv n a)) := by
  have h := ref08_norm (T := T) (!n) a ha
  obtain ⟨z, hz⟩ : ∃ z, z = -wv n a := ⟨_, rfl⟩
  have e : wv (!n) a = z := by rw [hz]; exact sg_not n _
  rw [e] at h
  rw [← hz, f26 _ rfl, b26]
  simp -implicitDefEqProofs [h]

theorem ref08_add (n m : Bool) (a b : List UInt32) (ha : a.length ≤ 10000) (hb : b.length ≤ 10000) : callF T 24 [wh n a, wh m b] = some (ez (wv n a + wv m b)) := by
  have hc := ref02_cmp (T := T) a b (by omega) (by omega)
  rw [f24 _ rfl, b24]
  have fin : ∀ (s : Bool) (k : Nat), sg s k = wv n a + wv m b → (ofN k).length ≤ 1000000 → callF T 39 [wh s (ofN k)] = some (ez (wv n a + wv m b)) := by
    intro s k h1 h2
    rw [ref08_norm (T := T) s (ofN k) h2]
    have : wv s (ofN k) = sg s k := by unfold wv; rw [val_ofN]
    rw [this, h1]
  have hla := ofN_length_le a
  have hlb := ofN_length_le b
  obtain ⟨z, hz⟩ : ∃ z, z = wv n a + wv m b := ⟨_, rfl⟩
  by_cases h : n = m
  · subst h
    have h1 := ref02_add (T := T) a b (by omega) (by omega)
    have h2 := fin n (val a + val b) (sg_add_same _ _ _) (by
      have := abs_add_len (x := (val a : Int)) (y := val b) (L := 10000) (by simpa using Nat.le_trans hla ha) (by simpa using Nat.le_trans hlb hb)
      have e : ((val a : Int) + val b).natAbs = val a + val b := by omega
      rw [e] at this
      omega)
    rw [← hz] at h2 ⊢
    simp -implicitDefEqProofs [h1, h2]
  · by_cases hlt : val a < val b
    · have h1 := ref02_sub (T := T) b a (by omega) (by omega) (by omega)
      have h2 := fin m (val b - val a) (sg_add_lt h hlt) (by have := ofN_len_le (Nat.sub_le (val b) (val a)); omega)
      rw [← hz] at h2 ⊢
      simp -implicitDefEqProofs [h, hc, cmpN_lt, hlt, h1, h2]
    · have h1 := ref02_sub (T := T) a b (by omega) (by omega) (by omega)
      have h2 := fin n (val a - val b) (sg_add_ge h hlt) (by have := ofN_len_le (Nat.sub_le (val a) (val b)); omega)
      rw [← hz] at h2 ⊢
      simp -implicitDefEqProofs [h, hc, cmpN_lt, hlt, h1, h2]

theorem ref08_mul (n m : Bool) (a b : List UInt32) (ha : a.length ≤ 100000) (hb : b.length ≤ 100000) : callF T 28 [wh n a, wh m b] = some (ez (wv n a * wv m b)) := by
  have h1 := ref04_mul (T := T) a b ha hb
  have hl := abs_mul_len (x := wv n a) (y := wv m b) (wv_len n a) (wv_len m b)
  have h2 := ref08_norm (T := T) (n != m) (ofN (val a * val b)) (by rw [Int.natAbs_mul, wv_val, wv_val] at hl; omega)
  have e : wv (n != m) (ofN (val a * val b)) = wv n a * wv m b := by unfold wv; rw [val_ofN, sg_mul]
  rw [e] at h2
  obtain ⟨z, hz⟩ : ∃ z, z = wv n a * wv m b := ⟨_, rfl⟩
  rw [← hz] at h2 ⊢
  rw [f28 _ rfl, b28]
  simp -implicitDefEqProofs [h1, h2]
theorem ref08_floor (n m : Bool) (a b : List UInt32) (ha : a.length ≤ 1000) (hb : b.length ≤ 1000) (h0 : val b ≠ 0) : callF T 31 [wh n a, wh m b] =
    some (.tup [ez ((wv n a).fdiv (wv m b)), ez ((wv n a).fmod (wv m b))]) := by
  have hd := ref05_div (T := T) a b (by omega) (by omega) (by omega)
  have hup := floor_up (n := n) (m := m) (x := val a) h0
  change _ = (wv n a).fdiv (wv m b) at hup
  have hla := ofN_length_le a
  have hl1 := ofN_len_le (Nat.div_le_self (val a) (val b))
  have had := ref02_add (T := T) (ofN (val a / val b)) [w32 1] (by omega) (by simp)
  have e1 : u32s [w32 1] = [[u32 1]] := rfl
  have hv1 : val [w32 1] = 1 := by decide
  rw [val_ofN, hv1, e1] at had
  obtain ⟨k, hk⟩ : ∃ k, k = if (n != m) = true ∧ val a % val b ≠ 0 then val a / val b + 1 else val a / val b := ⟨_, rfl⟩
  rw [← hk] at hup
  obtain ⟨K, hK⟩ : ∃ K, K = 1000 := ⟨_, rfl⟩
  have hkl : (ofN k).length ≤ K + 1 := by
    refine ofN_length_le' ?_
    have h1 := val_lt a
    have h2 : 4294967296 ^ a.length ≤ 4294967296 ^ K := Nat.pow_le_pow_right (by decide) (by omega)
    have h3 := Nat.div_le_self (val a) (val b)
    rw [Nat.pow_succ]
    rw [hk]
    generalize 4294967296 ^ K = p at *
    generalize val a / val b = q at *
    generalize 4294967296 ^ a.length = p2 at *
    split <;> omega
  have hno := ref08_norm (T := T) (n != m) (ofN k) (by omega)
  have ew : wv (n != m) (ofN k) = (wv n a).fdiv (wv m b) := by rw [← hup]; unfold wv; rw [val_ofN]
  rw [ew] at hno
  have hr : (wv n a).fmod (wv m b) = wv n a + -((wv n a).fdiv (wv m b) * wv m b) := by
    have := Int.fmod_add_mul_fdiv (wv n a) (wv m b)
    rw [Int.mul_comm]
    omega
  rw [hr]
  have hql : (ofN ((wv n a).fdiv (wv m b)).natAbs).length ≤ 1001 := by rw [← hup, sg_abs]; omega
  obtain ⟨q, hq⟩ : ∃ q, q = (wv n a).fdiv (wv m b) := ⟨_, rfl⟩
  rw [← hq] at hno hql ⊢
  have hml := ref08_mul (T := T) (decide (q < 0)) m (ofN q.natAbs) b (by omega) (by omega)
  rw [wv_ez] at hml
  have hpl := abs_mul_len (x := q) (y := wv m b) hql (wv_len m b)
  obtain ⟨p, hp⟩ : ∃ p, p = q * wv m b := ⟨_, rfl⟩
  rw [← hp] at hml hpl ⊢
  have hng := ref08_neg (T := T) (decide (p < 0)) (ofN p.natAbs) (by omega)
  rw [wv_ez] at hng
  rw [← abs_neg_len] at hpl
  obtain ⟨t, ht⟩ : ∃ t, t = -p := ⟨_, rfl⟩
  rw [← ht] at hng hpl ⊢
  have hfin := ref08_add (T := T) n (decide (t < 0)) a (ofN t.natAbs) (by omega) (by omega)
  rw [wv_ez] at hfin
  obtain ⟨z, hz⟩ : ∃ z, z = wv n a + t := ⟨_, rfl⟩
  rw [← hz] at hfin ⊢
  have hmd : (0 < (ofN (val a % val b)).length) = (val a % val b ≠ 0) := by
    rw [eq_iff_iff, List.length_pos_iff]
    exact not_congr ofN_eq_nil
  rw [f31 _ rfl, b31]
  by_cases h1 : n = m
  · subst h1
    have hk2 : k = val a / val b := by rw [hk]; simp
    rw [hk2] at hno
    simp at hno
    simp -implicitDefEqProofs [hd, hno, hml, hng, hfin]
  · have hnm : (n != m) = true := by cases n <;> cases m <;> simp at h1 ⊢
    by_cases h2 : val a % val b = 0
    · have hk2 : k = val a / val b := by rw [hk, if_neg (by simp [h2])]
      rw [hk2, hnm] at hno
      simp -implicitDefEqProofs [hd, hnm, h2, hno, hml, hng, hfin]
    · have hk2 : k = val a / val b + 1 := by rw [hk, if_pos ⟨hnm, h2⟩]
      rw [hk2, hnm] at hno
      simp -implicitDefEqProofs [hd, hnm, hmd, h2, had, hno, hml, hng, hfin]

theorem ref08_text (n : Bool) (a : List UInt32) (ha : a.length ≤ 1000) : callF T 35 [wh n a] = some (.s (textZ (wv n a))) := by
  have h1 := ref07_text (T := T) a ha
  have h2 := ref08_sign (T := T) n a (by omega)
  have h3 := textN_words ha
  have h4 : 1 + (textN (val a)).length ≤ 9223372036854775807 := by omega
  rw [f35 _ rfl, b35]
  unfold textZ
  rw [wv_val]
  by_cases h : wv n a < 0
  · have h5 : sgI (wv n a) = -1 := by unfold sgI; rw [if_pos h]
    simp -implicitDefEqProofs [h1, h2, h, h5, h4]
  · have h5 : ¬ sgI (wv n a) < 0 := by unfold sgI; rw [if_neg h]; split <;> omega
    simp -implicitDefEqProofs [h1, h2, h, h5]

theorem ref08_read (l : List UInt8) (hl : l.length ≤ 1000000) : callF T 33 [.s l] = some (.tup (if 0 ≤ wrongZ l then [wh false [], .i .i64 (wrongZ l + minus l)] else [ez (readZ l), .i .i64 (-1)])) := by
  obtain ⟨l', hl'⟩ : ∃ l', l' = if l.head? = some 45 then l.tail else l := ⟨_, rfl⟩
  have hl2 : l'.length ≤ 1000000 := by
    rw [hl']
    split
    · simp; omega
    · exact hl
  have h1 := ref07_wrong (T := T) l' hl2
  have hwb : wrongI l' ≤ 60 := by
    unfold wrongI
    split
    · omega
    · exact wrAt_le 0 l' (by omega)
  have hdr : ∀ c r, l = c :: r → c = 45 → l' = r := by rintro c r rfl rfl; rw [hl']; rfl
  have hdn : l.head? ≠ some 45 → l' = l := by intro h; rw [hl', if_neg h]
  unfold wrongZ readZ
  rw [← hl', f33 _ rfl, b33]
  have hrd : ¬ 0 ≤ wrongI l' → callF T 67 [.s l'] = some (.sl (u32s (ofN (rd l'))) .an) := by
    intro h0
    have h1 : wrAt 0 l' < 0 := by
      unfold wrongI at h0
      split at h0
      · omega
      · omega
    obtain ⟨h2, h3⟩ := wrAt_neg 0 l' (Nat.zero_le _) h1
    exact ref07_read (T := T) l' (by omega) h3
  have hrl : ¬ 0 ≤ wrongI l' → (ofN (rd l')).length ≤ 1000000 := by
    intro h0
    have h1 : wrAt 0 l' < 0 := by
      unfold wrongI at h0
      split at h0
      · omega
      · omega
    obtain ⟨h2, h3⟩ := wrAt_neg 0 l' (Nat.zero_le _) h1
    refine Nat.le_trans (ofN_length_le' (k := 60) ?_) (by decide)
    have h4 := rd_lt h3
    have h5 : 10 ^ l'.length ≤ 10 ^ 60 := Nat.pow_le_pow_right (by decide) (by omega)
    exact Nat.lt_of_lt_of_le h4 (Nat.le_trans h5 (by decide))
  have hno : ∀ n, ¬ 0 ≤ wrongI l' → callF T 39 [wh n (ofN (rd l'))] = some (ez (sg n (rd l'))) := by
    intro n h0
    rw [ref08_norm (T := T) n _ (hrl h0)]
    unfold wv
    rw [val_ofN]
  by_cases h45 : l.head? = some 45
  · cases l with
    | nil => cases h45
    | cons c r =>
      have hc : c = 45 := by simpa using h45
      have hr := hdr c r rfl hc
      subst hc
      subst hr
      have b1 : (1 : Int) ≤ (l'.length : Int) + 1 := by omega
      have b2 : (0 : Int) < (l'.length : Int) + 1 := by omega
      by_cases h0 : 0 ≤ wrongI l'
      · have hw : IntKind.wrap .i64 (1 + wrongI l') = wrongI l' + 1 := by rw [wrap_i64 _ (by omega)]; omega
        simp -implicitDefEqProofs [h1, h0, hw, b1, b2, minus]
      · have h5 := hrd h0
        have h6 := hno true h0
        obtain ⟨z, hz⟩ : ∃ z, z = sg true (rd l') := ⟨_, rfl⟩
        rw [← hz] at h6
        simp -implicitDefEqProofs [h1, h0, b1, b2, h5, h6, ← hz]
  · have hr := hdn h45
    rw [hr] at h1 hwb hrd hno ⊢
    clear hdr hdn hl' hr hrl hl2
    have hw : 0 ≤ wrongI l → IntKind.wrap .i64 (wrongI l) = wrongI l := fun _ => wrap_i64 _ (by omega)
    cases l with
    | nil =>
      have e : wrongI [] = 0 := rfl
      rw [e] at h1
      simp -implicitDefEqProofs [h1, e, minus]
    | cons c r =>
      have hc : c ≠ 45 := by simpa using h45
      have hc2 : ¬ c.toNat = 45 := fun h => hc (by rw [← UInt8.toNat_inj]; exact h)
      by_cases h0 : 0 ≤ wrongI (c :: r)
      · have hw1 := hw h0
        simp -implicitDefEqProofs [h1, h0, hw1, hc, hc2, minus]
      · have h5 := hrd h0
        have h6 := hno false h0
        obtain ⟨z, hz⟩ : ∃ z, z = sg false (rd (c :: r)) := ⟨_, rfl⟩
        rw [← hz] at h6
        simp -implicitDefEqProofs [h1, h0, hc, hc2, h5, h6, ← hz]
end
end Go.Ab
end

section
/-
  Code with remarks of some functions, by program (AxPrint), and the rules to run them.
-/
namespace Go.Ab

/- retrospect/retrospectlaw08.To -/
def b20 : AX :=
 (.seq
  (.reg [⟨(some 1), none, .xop (.box 2) [(.t 0)]⟩,
    ⟨(some 2), none, .alloc [(.b false), (.sl [] .nl)]⟩])
  (.seq
   (.reg [⟨(some 3), none, .fad 0 (.t 1)⟩,
     ⟨(some 4), none, .load none (.t 3)⟩,
     ⟨(some 5), none, .fad 1 (.t 1)⟩,
     ⟨(some 6), none, .load none (.t 5)⟩,
     ⟨(some 7), none, .build [(.b false), (.sl [] .nl)] [(0, 1, (.t 4)), (1, 1, (.t 6))]⟩,
     ⟨none, none, .store 2 (.t 2) (.t 7)⟩])
   (.pre (.norm false [2]) .ret)))

/- retrospect/retrospectlaw08.Of -/
def b22 : AX :=
 (.seq
  (.reg [⟨(some 1), none, .xop (.box 2) [(.t 0)]⟩,
    ⟨(some 2), none, .alloc [(.b false), (.sl [] .nl)]⟩])
  (.seq
   (.reg [⟨(some 3), none, .fad 0 (.t 1)⟩,
     ⟨(some 4), none, .load none (.t 3)⟩,
     ⟨(some 5), none, .fad 1 (.t 1)⟩,
     ⟨(some 6), none, .load none (.t 5)⟩,
     ⟨(some 7), none, .build [(.b false), (.sl [] .nl)] [(0, 1, (.t 4)), (1, 1, (.t 6))]⟩,
     ⟨none, none, .store 2 (.t 2) (.t 7)⟩])
   (.pre (.norm false [2]) .ret)))

/- retrospect/retrospectlaw08.works -/
def b19 : AX :=
 (.seq
  (.reg [⟨(some 0), none, .mov (.c (.b false))⟩])
  (.seq
   (.reg [⟨(some 7), none, .call 41 [(.c (.i .i64 (-7)))]⟩,
     ⟨(some 8), none, .call 41 [(.c (.i .i64 2))]⟩,
     ⟨(some 9), none, .call 29 [(.t 7), (.t 8)]⟩,
     ⟨(some 6), none, .mov (.t 9)⟩,
     ⟨(some 10), none, .ext (.t 6) 0⟩,
     ⟨(some 11), none, .ext (.t 6) 1⟩,
     ⟨(some 12), none, .ext (.t 6) 2⟩,
     ⟨(some 1), none, .alloc [(.b false), (.sl [] .nl)]⟩,
     ⟨(some 2), none, .alloc [(.b false), (.sl [] .nl)]⟩,
     ⟨none, none, .store 2 (.t 1) (.t 10)⟩,
     ⟨none, none, .store 2 (.t 2) (.t 11)⟩,
     ⟨(some 3), none, .mov (.t 12)⟩])
   (.seq
    (.reg [⟨(some 14), none, .call 32 [(.c (.s [45]))]⟩,
      ⟨(some 13), none, .mov (.t 14)⟩,
      ⟨(some 15), none, .ext (.t 13) 0⟩,
      ⟨(some 16), none, .ext (.t 13) 1⟩,
      ⟨(some 4), none, .alloc [(.b false), (.sl [] .nl)]⟩,
      ⟨(some 5), none, .alloc [(.i .i64 0), (.i .i64 0), (.i .i64 0), (.i .i64 0)]⟩,
      ⟨none, none, .store 2 (.t 4) (.t 15)⟩,
      ⟨none, none, .store 4 (.t 5) (.t 16)⟩])
    (.seq
     (.reg [⟨(some 17), none, .mov (.t 3)⟩,
       ⟨(some 18), none, .mov (.t 17)⟩,
       ⟨(some 19), (some (18, true)), .load (some 2) (.t 1)⟩,
       ⟨(some 20), (some (18, true)), .call 34 [(.t 19)]⟩,
       ⟨(some 21), (some (18, true)), .bin .eql (.t 20) (.c (.s [45, 52]))⟩,
       ⟨(some 22), none, .pick (.t 18) (.t 21) (.c (.b false))⟩,
       ⟨(some 23), none, .mov (.t 22)⟩,
       ⟨(some 24), (some (23, true)), .load (some 2) (.t 2)⟩,
       ⟨(some 25), (some (23, true)), .call 34 [(.t 24)]⟩,
       ⟨(some 26), (some (23, true)), .bin .eql (.t 25) (.c (.s [49]))⟩,
       ⟨(some 27), none, .pick (.t 23) (.t 26) (.c (.b false))⟩,
       ⟨(some 28), none, .mov (.t 27)⟩,
       ⟨(some 29), (some (28, true)), .load (some 4) (.t 5)⟩,
       ⟨(some 30), (some (28, true)), .build [(.i .i64 0), (.i .i64 0), (.i .i64 0), (.i .i64 0)] [(0, 1, (.c (.i .i64 1))), (3, 1, (.c (.i .i64 1)))]⟩,
       ⟨(some 31), (some (28, true)), .eqs false [(0, .int), (1, .int), (2, .int), (3, .int)] (.t 29) (.t 30)⟩,
       ⟨(some 32), none, .pick (.t 28) (.t 31) (.c (.b false))⟩,
       ⟨(some 0), none, .mov (.t 32)⟩])
     (.pre (.norm false [0]) .ret)))))

/- retrospect/retrospectlaw08.WholeSums -/
def b5 : AX :=
 (.seq
  (.reg [⟨(some 2), none, .xop (.box 2) [(.t 0)]⟩,
    ⟨(some 3), none, .xop (.box 2) [(.t 1)]⟩,
    ⟨(some 4), none, .mov (.c (.b false))⟩])
  (.seq
   (.seq
    (.reg [⟨(some 12), none, .fad 1 (.t 2)⟩,
      ⟨(some 13), none, .load none (.t 12)⟩,
      ⟨(some 14), none, .len (.t 13)⟩,
      ⟨(some 15), none, .bin .gtr (.t 14) (.c (.i .i64 40))⟩,
      ⟨(some 16), none, .mov (.t 15)⟩,
      ⟨(some 17), (some (16, false)), .fad 1 (.t 3)⟩,
      ⟨(some 18), (some (16, false)), .load none (.t 17)⟩,
      ⟨(some 19), (some (16, false)), .len (.t 18)⟩,
      ⟨(some 20), (some (16, false)), .bin .gtr (.t 19) (.c (.i .i64 40))⟩,
      ⟨(some 21), none, .pick (.t 16) (.c (.b true)) (.t 20)⟩])
    (.cond (.t 21)
     (.seq
      (.reg [⟨(some 22), none, .call 19 []⟩,
        ⟨(some 4), none, .mov (.t 22)⟩])
      (.pre (.norm false [4]) .ret))
     .skip))
   (.seq
    (.reg [⟨(some 23), none, .load (some 2) (.t 2)⟩,
      ⟨(some 24), none, .call 20 [(.t 23)]⟩,
      ⟨(some 5), none, .alloc [(.b false), (.sl [] .nl)]⟩,
      ⟨none, none, .store 2 (.t 5) (.t 24)⟩])
    (.seq
     (.reg [⟨(some 25), none, .load (some 2) (.t 3)⟩,
       ⟨(some 26), none, .call 20 [(.t 25)]⟩,
       ⟨(some 6), none, .alloc [(.b false), (.sl [] .nl)]⟩,
       ⟨none, none, .store 2 (.t 6) (.t 26)⟩])
     (.seq
      (.seq
       (.drawT [⟨(some 27), none, .load (some 2) (.t 5)⟩,
         ⟨(some 28), none, .load (some 2) (.t 6)⟩,
         ⟨(some 29), none, .call 23 [(.t 27), (.t 28)]⟩,
         ⟨(some 30), none, .call 22 [(.t 29)]⟩,
         ⟨(some 31), none, .load (some 2) (.t 2)⟩,
         ⟨(some 32), none, .load (some 2) (.t 3)⟩,
         ⟨(some 33), none, .call 24 [(.t 31), (.t 32)]⟩,
         ⟨(some 34), none, .call 21 [(.t 30), (.t 33)]⟩,
         ⟨(some 35), none, .un .not (.t 34)⟩,
         ⟨(some 36), none, .mov (.t 35)⟩,
         ⟨(some 37), (some (36, false)), .load (some 2) (.t 5)⟩,
         ⟨(some 38), (some (36, false)), .load (some 2) (.t 6)⟩,
         ⟨(some 39), (some (36, false)), .call 25 [(.t 37), (.t 38)]⟩,
         ⟨(some 40), (some (36, false)), .call 22 [(.t 39)]⟩,
         ⟨(some 41), (some (36, false)), .load (some 2) (.t 2)⟩,
         ⟨(some 42), (some (36, false)), .load (some 2) (.t 3)⟩,
         ⟨(some 43), (some (36, false)), .call 26 [(.t 42)]⟩,
         ⟨(some 44), (some (36, false)), .call 24 [(.t 41), (.t 43)]⟩,
         ⟨(some 45), (some (36, false)), .call 21 [(.t 40), (.t 44)]⟩,
         ⟨(some 46), (some (36, false)), .un .not (.t 45)⟩,
         ⟨(some 47), none, .pick (.t 36) (.c (.b true)) (.t 46)⟩,
         ⟨(some 48), none, .mov (.t 47)⟩,
         ⟨(some 49), (some (48, false)), .load (some 2) (.t 5)⟩,
         ⟨(some 50), (some (48, false)), .load (some 2) (.t 6)⟩,
         ⟨(some 51), (some (48, false)), .call 27 [(.t 49), (.t 50)]⟩,
         ⟨(some 52), (some (48, false)), .call 22 [(.t 51)]⟩,
         ⟨(some 53), (some (48, false)), .load (some 2) (.t 2)⟩,
         ⟨(some 54), (some (48, false)), .load (some 2) (.t 3)⟩]
        [⟨(some 55), (some (48, false)), .call 28 [(.t 53), (.t 54)]⟩,
         ⟨(some 56), (some (48, false)), .call 21 [(.t 52), (.t 55)]⟩,
         ⟨(some 57), (some (48, false)), .un .not (.t 56)⟩,
         ⟨(some 58), none, .pick (.t 48) (.c (.b true)) (.t 57)⟩])
       (.cond (.t 58)
        (.seq
         (.reg [⟨(some 4), none, .mov (.c (.b false))⟩])
         (.pre (.norm false [4]) .ret))
        .skip))
      (.seq
       (.reg [⟨(some 60), none, .load (some 2) (.t 5)⟩,
         ⟨(some 61), none, .load (some 2) (.t 6)⟩,
         ⟨(some 62), none, .call 29 [(.t 60), (.t 61)]⟩,
         ⟨(some 59), none, .mov (.t 62)⟩,
         ⟨(some 63), none, .ext (.t 59) 0⟩,
         ⟨(some 64), none, .ext (.t 59) 1⟩,
         ⟨(some 65), none, .ext (.t 59) 2⟩,
         ⟨(some 7), none, .alloc [(.b false), (.sl [] .nl)]⟩,
         ⟨(some 8), none, .alloc [(.b false), (.sl [] .nl)]⟩,
         ⟨none, none, .store 2 (.t 7) (.t 63)⟩,
         ⟨none, none, .store 2 (.t 8) (.t 64)⟩,
         ⟨(some 9), none, .mov (.t 65)⟩])
       (.seq
        (.seq
         (.reg [⟨(some 66), none, .load (some 2) (.t 3)⟩,
           ⟨(some 67), none, .call 30 [(.t 66)]⟩,
           ⟨(some 68), none, .bin .eql (.t 67) (.c (.i .i64 0))⟩])
         (.cond (.t 68)
          (.seq
           (.reg [⟨(some 69), none, .load (some 2) (.t 7)⟩,
             ⟨(some 70), none, .call 22 [(.t 69)]⟩,
             ⟨(some 71), none, .build [(.b false), (.sl [] .nl)] []⟩,
             ⟨(some 72), none, .call 21 [(.t 70), (.t 71)]⟩,
             ⟨(some 73), none, .mov (.t 72)⟩,
             ⟨(some 74), (some (73, true)), .load (some 2) (.t 8)⟩,
             ⟨(some 75), (some (73, true)), .call 22 [(.t 74)]⟩,
             ⟨(some 76), (some (73, true)), .build [(.b false), (.sl [] .nl)] []⟩,
             ⟨(some 77), (some (73, true)), .call 21 [(.t 75), (.t 76)]⟩,
             ⟨(some 78), none, .pick (.t 73) (.t 77) (.c (.b false))⟩,
             ⟨(some 79), none, .mov (.t 78)⟩,
             ⟨(some 80), (some (79, true)), .mov (.t 9)⟩,
             ⟨(some 81), (some (79, true)), .un .not (.t 80)⟩,
             ⟨(some 82), none, .pick (.t 79) (.t 81) (.c (.b false))⟩,
             ⟨(some 83), none, .mov (.t 82)⟩,
             ⟨(some 84), (some (83, true)), .call 19 []⟩,
             ⟨(some 85), none, .pick (.t 83) (.t 84) (.c (.b false))⟩,
             ⟨(some 4), none, .mov (.t 85)⟩])
           (.pre (.norm false [4]) .ret))
          .skip))
        (.seq
         (.reg [⟨(some 87), none, .load (some 2) (.t 2)⟩,
           ⟨(some 88), none, .load (some 2) (.t 3)⟩,
           ⟨(some 89), none, .call 31 [(.t 87), (.t 88)]⟩,
           ⟨(some 86), none, .mov (.t 89)⟩,
           ⟨(some 90), none, .ext (.t 86) 0⟩,
           ⟨(some 91), none, .ext (.t 86) 1⟩,
           ⟨(some 10), none, .alloc [(.b false), (.sl [] .nl)]⟩,
           ⟨(some 11), none, .alloc [(.b false), (.sl [] .nl)]⟩,
           ⟨none, none, .store 2 (.t 10) (.t 90)⟩,
           ⟨none, none, .store 2 (.t 11) (.t 91)⟩])
         (.seq
          (.drawT [⟨(some 92), none, .load (some 2) (.t 7)⟩,
            ⟨(some 93), none, .call 22 [(.t 92)]⟩,
            ⟨(some 94), none, .load (some 2) (.t 10)⟩,
            ⟨(some 95), none, .call 21 [(.t 93), (.t 94)]⟩,
            ⟨(some 96), none, .mov (.t 95)⟩,
            ⟨(some 97), (some (96, true)), .load (some 2) (.t 8)⟩,
            ⟨(some 98), (some (96, true)), .call 22 [(.t 97)]⟩,
            ⟨(some 99), (some (96, true)), .load (some 2) (.t 11)⟩]
           [⟨(some 100), (some (96, true)), .call 21 [(.t 98), (.t 99)]⟩,
            ⟨(some 101), none, .pick (.t 96) (.t 100) (.c (.b false))⟩,
            ⟨(some 102), none, .mov (.t 101)⟩,
            ⟨(some 103), (some (102, true)), .mov (.t 9)⟩,
            ⟨(some 104), none, .pick (.t 102) (.t 103) (.c (.b false))⟩,
            ⟨(some 105), none, .mov (.t 104)⟩,
            ⟨(some 106), (some (105, true)), .call 19 []⟩,
            ⟨(some 107), none, .pick (.t 105) (.t 106) (.c (.b false))⟩,
            ⟨(some 4), none, .mov (.t 107)⟩])
          (.pre (.norm false [4]) .ret))))))))))

/- retrospect/retrospectlaw08.WholeTexts -/
def b6 : AX :=
 (.seq
  (.reg [⟨(some 2), none, .xop (.box 2) [(.t 0)]⟩,
    ⟨(some 4), none, .mov (.c (.b false))⟩])
  (.seq
   (.seq
    (.reg [⟨(some 9), none, .fad 1 (.t 2)⟩,
      ⟨(some 10), none, .load none (.t 9)⟩,
      ⟨(some 11), none, .len (.t 10)⟩,
      ⟨(some 12), none, .bin .gtr (.t 11) (.c (.i .i64 40))⟩,
      ⟨(some 13), none, .mov (.t 12)⟩,
      ⟨(some 14), (some (13, false)), .mov (.t 1)⟩,
      ⟨(some 15), (some (13, false)), .lens (.t 14)⟩,
      ⟨(some 16), (some (13, false)), .bin .gtr (.t 15) (.c (.i .i64 500))⟩,
      ⟨(some 17), none, .pick (.t 13) (.c (.b true)) (.t 16)⟩])
    (.cond (.t 17)
     (.seq
      (.reg [⟨(some 18), none, .call 19 []⟩,
        ⟨(some 4), none, .mov (.t 18)⟩])
      (.pre (.norm false [4]) .ret))
     .skip))
   (.seq
    (.reg [⟨(some 20), none, .mov (.t 1)⟩,
      ⟨(some 21), none, .call 32 [(.t 20)]⟩,
      ⟨(some 19), none, .mov (.t 21)⟩,
      ⟨(some 22), none, .ext (.t 19) 0⟩,
      ⟨(some 23), none, .ext (.t 19) 1⟩,
      ⟨(some 5), none, .alloc [(.b false), (.sl [] .nl)]⟩,
      ⟨(some 6), none, .alloc [(.i .i64 0), (.i .i64 0), (.i .i64 0), (.i .i64 0)]⟩,
      ⟨none, none, .store 2 (.t 5) (.t 22)⟩,
      ⟨none, none, .store 4 (.t 6) (.t 23)⟩])
    (.seq
     (.reg [⟨(some 25), none, .mov (.t 1)⟩,
       ⟨(some 26), none, .call 33 [(.t 25)]⟩,
       ⟨(some 24), none, .mov (.t 26)⟩,
       ⟨(some 27), none, .ext (.t 24) 0⟩,
       ⟨(some 28), none, .ext (.t 24) 1⟩,
       ⟨(some 7), none, .alloc [(.b false), (.sl [] .nl)]⟩,
       ⟨none, none, .store 2 (.t 7) (.t 27)⟩,
       ⟨(some 8), none, .mov (.t 28)⟩])
     (.seq
      (.seq
       (.reg [⟨(some 29), none, .mov (.t 8)⟩,
         ⟨(some 30), none, .bin .geq (.t 29) (.c (.i .i64 0))⟩,
         ⟨(some 31), none, .mov (.t 30)⟩,
         ⟨(some 32), (some (31, true)), .load (some 4) (.t 6)⟩,
         ⟨(some 33), (some (31, true)), .mov (.t 8)⟩,
         ⟨(some 34), (some (31, true)), .build [(.i .i64 0), (.i .i64 0), (.i .i64 0), (.i .i64 0)] [(0, 1, (.c (.i .i64 1))), (3, 1, (.t 33))]⟩,
         ⟨(some 35), (some (31, true)), .eqs true [(0, .int), (1, .int), (2, .int), (3, .int)] (.t 32) (.t 34)⟩,
         ⟨(some 36), none, .pick (.t 31) (.t 35) (.c (.b false))⟩,
         ⟨(some 37), none, .mov (.t 36)⟩,
         ⟨(some 38), (some (37, false)), .mov (.t 8)⟩,
         ⟨(some 39), (some (37, false)), .bin .lss (.t 38) (.c (.i .i64 0))⟩,
         ⟨(some 40), (some (37, false)), .mov (.t 39)⟩,
         ⟨(some 41), (some (40, true)), .load (some 4) (.t 6)⟩,
         ⟨(some 42), (some (40, true)), .build [(.i .i64 0), (.i .i64 0), (.i .i64 0), (.i .i64 0)] []⟩,
         ⟨(some 43), (some (40, true)), .eqs true [(0, .int), (1, .int), (2, .int), (3, .int)] (.t 41) (.t 42)⟩,
         ⟨(some 44), (some (37, false)), .pick (.t 40) (.t 43) (.c (.b false))⟩,
         ⟨(some 45), none, .pick (.t 37) (.c (.b true)) (.t 44)⟩])
       (.cond (.t 45)
        (.seq
         (.reg [⟨(some 4), none, .mov (.c (.b false))⟩])
         (.pre (.norm false [4]) .ret))
        .skip))
      (.seq
       (.drawT [⟨(some 46), none, .load (some 2) (.t 2)⟩,
         ⟨(some 47), none, .call 20 [(.t 46)]⟩,
         ⟨(some 48), none, .call 34 [(.t 47)]⟩,
         ⟨(some 49), none, .load (some 2) (.t 2)⟩,
         ⟨(some 50), none, .call 35 [(.t 49)]⟩,
         ⟨(some 51), none, .bin .eql (.t 48) (.t 50)⟩,
         ⟨(some 52), none, .mov (.t 51)⟩,
         ⟨(some 53), (some (52, true)), .load (some 2) (.t 5)⟩,
         ⟨(some 54), (some (52, true)), .call 22 [(.t 53)]⟩,
         ⟨(some 55), (some (52, true)), .load (some 2) (.t 7)⟩]
        [⟨(some 56), (some (52, true)), .call 21 [(.t 54), (.t 55)]⟩,
         ⟨(some 57), none, .pick (.t 52) (.t 56) (.c (.b false))⟩,
         ⟨(some 58), none, .mov (.t 57)⟩,
         ⟨(some 59), (some (58, true)), .call 19 []⟩,
         ⟨(some 60), none, .pick (.t 58) (.t 59) (.c (.b false))⟩,
         ⟨(some 4), none, .mov (.t 60)⟩])
       (.pre (.norm false [4]) .ret)))))))

/- retrospect/retrospectlaw08.WholeFloors -/
def b7 : AX :=
 (.seq
  (.reg [⟨(some 2), none, .xop (.box 2) [(.t 0)]⟩,
    ⟨(some 3), none, .xop (.box 2) [(.t 1)]⟩,
    ⟨(some 4), none, .mov (.c (.b false))⟩])
  (.seq
   (.seq
    (.reg [⟨(some 10), none, .fad 1 (.t 2)⟩,
      ⟨(some 11), none, .load none (.t 10)⟩,
      ⟨(some 12), none, .len (.t 11)⟩,
      ⟨(some 13), none, .bin .gtr (.t 12) (.c (.i .i64 40))⟩,
      ⟨(some 14), none, .mov (.t 13)⟩,
      ⟨(some 15), (some (14, false)), .fad 1 (.t 3)⟩,
      ⟨(some 16), (some (14, false)), .load none (.t 15)⟩,
      ⟨(some 17), (some (14, false)), .len (.t 16)⟩,
      ⟨(some 18), (some (14, false)), .bin .gtr (.t 17) (.c (.i .i64 40))⟩,
      ⟨(some 19), none, .pick (.t 14) (.c (.b true)) (.t 18)⟩,
      ⟨(some 20), none, .mov (.t 19)⟩,
      ⟨(some 21), (some (20, false)), .load (some 2) (.t 3)⟩,
      ⟨(some 22), (some (20, false)), .call 30 [(.t 21)]⟩,
      ⟨(some 23), (some (20, false)), .bin .eql (.t 22) (.c (.i .i64 0))⟩,
      ⟨(some 24), none, .pick (.t 20) (.c (.b true)) (.t 23)⟩])
    (.cond (.t 24)
     (.seq
      (.reg [⟨(some 25), none, .call 19 []⟩,
        ⟨(some 4), none, .mov (.t 25)⟩])
      (.pre (.norm false [4]) .ret))
     .skip))
   (.seq
    (.reg [⟨(some 26), none, .load (some 2) (.t 2)⟩,
      ⟨(some 27), none, .call 20 [(.t 26)]⟩,
      ⟨(some 5), none, .alloc [(.b false), (.sl [] .nl)]⟩,
      ⟨none, none, .store 2 (.t 5) (.t 27)⟩])
    (.seq
     (.reg [⟨(some 28), none, .load (some 2) (.t 3)⟩,
       ⟨(some 29), none, .call 20 [(.t 28)]⟩,
       ⟨(some 6), none, .alloc [(.b false), (.sl [] .nl)]⟩,
       ⟨none, none, .store 2 (.t 6) (.t 29)⟩])
     (.seq
      (.reg [⟨(some 31), none, .load (some 2) (.t 5)⟩,
        ⟨(some 32), none, .load (some 2) (.t 6)⟩,
        ⟨(some 33), none, .call 29 [(.t 31), (.t 32)]⟩,
        ⟨(some 30), none, .mov (.t 33)⟩,
        ⟨(some 34), none, .ext (.t 30) 0⟩,
        ⟨(some 35), none, .ext (.t 30) 1⟩,
        ⟨(some 36), none, .ext (.t 30) 2⟩,
        ⟨(some 7), none, .alloc [(.b false), (.sl [] .nl)]⟩,
        ⟨(some 8), none, .alloc [(.b false), (.sl [] .nl)]⟩,
        ⟨none, none, .store 2 (.t 7) (.t 34)⟩,
        ⟨none, none, .store 2 (.t 8) (.t 35)⟩,
        ⟨(some 9), none, .mov (.t 36)⟩])
      (.seq
       (.drawT [⟨(some 37), none, .mov (.t 9)⟩,
         ⟨(some 38), none, .mov (.t 37)⟩,
         ⟨(some 39), (some (38, true)), .load (some 2) (.t 7)⟩,
         ⟨(some 40), (some (38, true)), .load (some 2) (.t 6)⟩,
         ⟨(some 41), (some (38, true)), .call 27 [(.t 39), (.t 40)]⟩,
         ⟨(some 42), (some (38, true)), .load (some 2) (.t 8)⟩,
         ⟨(some 43), (some (38, true)), .call 23 [(.t 41), (.t 42)]⟩,
         ⟨(some 44), (some (38, true)), .load (some 2) (.t 5)⟩,
         ⟨(some 45), (some (38, true)), .call 36 [(.t 43), (.t 44)]⟩,
         ⟨(some 46), (some (38, true)), .bin .eql (.t 45) (.c (.i .i64 0))⟩,
         ⟨(some 47), none, .pick (.t 38) (.t 46) (.c (.b false))⟩,
         ⟨(some 48), none, .mov (.t 47)⟩,
         ⟨(some 49), (some (48, true)), .load (some 2) (.t 8)⟩,
         ⟨(some 50), (some (48, true)), .call 37 [(.t 49)]⟩,
         ⟨(some 51), (some (48, true)), .load (some 2) (.t 6)⟩,
         ⟨(some 52), (some (48, true)), .call 37 [(.t 51)]⟩,
         ⟨(some 53), (some (48, true)), .bin .mul (.t 50) (.t 52)⟩,
         ⟨(some 54), (some (48, true)), .bin .geq (.t 53) (.c (.i .i64 0))⟩,
         ⟨(some 55), none, .pick (.t 48) (.t 54) (.c (.b false))⟩,
         ⟨(some 56), none, .mov (.t 55)⟩,
         ⟨(some 57), (some (56, true)), .load (some 2) (.t 6)⟩,
         ⟨(some 58), (some (56, true)), .load (some 2) (.t 6)⟩,
         ⟨(some 59), (some (56, true)), .call 27 [(.t 57), (.t 58)]⟩,
         ⟨(some 60), (some (56, true)), .load (some 2) (.t 8)⟩,
         ⟨(some 61), (some (56, true)), .load (some 2) (.t 8)⟩]
        [⟨(some 62), (some (56, true)), .call 27 [(.t 60), (.t 61)]⟩,
         ⟨(some 63), (some (56, true)), .call 25 [(.t 59), (.t 62)]⟩,
         ⟨(some 64), (some (56, true)), .call 37 [(.t 63)]⟩,
         ⟨(some 65), (some (56, true)), .bin .gtr (.t 64) (.c (.i .i64 0))⟩,
         ⟨(some 66), none, .pick (.t 56) (.t 65) (.c (.b false))⟩,
         ⟨(some 67), none, .mov (.t 66)⟩,
         ⟨(some 68), (some (67, true)), .call 19 []⟩,
         ⟨(some 69), none, .pick (.t 67) (.t 68) (.c (.b false))⟩,
         ⟨(some 4), none, .mov (.t 69)⟩])
       (.pre (.norm false [4]) .ret)))))))

/- retrospect/retrospectlaw08.WholeTells -/
def b8 : AX :=
 (.seq
  (.reg [⟨(some 2), none, .xop (.box 2) [(.t 0)]⟩,
    ⟨(some 3), none, .xop (.box 2) [(.t 1)]⟩,
    ⟨(some 4), none, .mov (.c (.b false))⟩])
  (.seq
   (.seq
    (.reg [⟨(some 6), none, .fad 1 (.t 2)⟩,
      ⟨(some 7), none, .load none (.t 6)⟩,
      ⟨(some 8), none, .len (.t 7)⟩,
      ⟨(some 9), none, .bin .gtr (.t 8) (.c (.i .i64 60))⟩,
      ⟨(some 10), none, .mov (.t 9)⟩,
      ⟨(some 11), (some (10, false)), .fad 1 (.t 3)⟩,
      ⟨(some 12), (some (10, false)), .load none (.t 11)⟩,
      ⟨(some 13), (some (10, false)), .len (.t 12)⟩,
      ⟨(some 14), (some (10, false)), .bin .gtr (.t 13) (.c (.i .i64 60))⟩,
      ⟨(some 15), none, .pick (.t 10) (.c (.b true)) (.t 14)⟩])
    (.cond (.t 15)
     (.seq
      (.reg [⟨(some 16), none, .call 19 []⟩,
        ⟨(some 4), none, .mov (.t 16)⟩])
      (.pre (.norm false [4]) .ret))
     .skip))
   (.seq
    (.draw [⟨⟨(some 17), none, .load (some 2) (.t 2)⟩, 0, 1⟩,
      ⟨⟨(some 18), none, .load (some 2) (.t 3)⟩, 0, 1⟩,
      ⟨⟨(some 19), none, .call 26 [(.t 18)]⟩, 0, 1⟩,
      ⟨⟨(some 20), none, .call 24 [(.t 17), (.t 19)]⟩, 0, 1⟩,
      ⟨⟨(some 5), none, .alloc [(.b false), (.sl [] .nl)]⟩, 0, 1⟩,
      ⟨⟨none, none, .store 2 (.t 5) (.t 20)⟩, 1, 2⟩])
    (.seq
     (.drawT [⟨(some 21), none, .load (some 2) (.t 2)⟩,
       ⟨(some 22), none, .call 20 [(.t 21)]⟩,
       ⟨(some 23), none, .call 38 [(.t 22)]⟩,
       ⟨(some 24), none, .call 22 [(.t 23)]⟩,
       ⟨(some 25), none, .load (some 2) (.t 2)⟩,
       ⟨(some 26), none, .call 39 [(.t 25)]⟩,
       ⟨(some 27), none, .call 21 [(.t 24), (.t 26)]⟩,
       ⟨(some 28), none, .mov (.t 27)⟩,
       ⟨(some 29), (some (28, true)), .load (some 2) (.t 2)⟩,
       ⟨(some 30), (some (28, true)), .call 20 [(.t 29)]⟩,
       ⟨(some 31), (some (28, true)), .call 37 [(.t 30)]⟩,
       ⟨(some 32), (some (28, true)), .load (some 2) (.t 2)⟩,
       ⟨(some 33), (some (28, true)), .call 30 [(.t 32)]⟩,
       ⟨(some 34), (some (28, true)), .bin .eql (.t 31) (.t 33)⟩,
       ⟨(some 35), none, .pick (.t 28) (.t 34) (.c (.b false))⟩,
       ⟨(some 36), none, .mov (.t 35)⟩,
       ⟨(some 37), (some (36, true)), .load (some 2) (.t 2)⟩,
       ⟨(some 38), (some (36, true)), .call 20 [(.t 37)]⟩,
       ⟨(some 39), (some (36, true)), .load (some 2) (.t 3)⟩,
       ⟨(some 40), (some (36, true)), .call 20 [(.t 39)]⟩,
       ⟨(some 41), (some (36, true)), .call 36 [(.t 38), (.t 40)]⟩,
       ⟨(some 42), (some (36, true)), .load (some 2) (.t 5)⟩,
       ⟨(some 43), (some (36, true)), .call 30 [(.t 42)]⟩,
       ⟨(some 44), (some (36, true)), .bin .eql (.t 41) (.t 43)⟩,
       ⟨(some 45), none, .pick (.t 36) (.t 44) (.c (.b false))⟩,
       ⟨(some 46), none, .mov (.t 45)⟩,
       ⟨(some 47), (some (46, true)), .load (some 2) (.t 2)⟩,
       ⟨(some 48), (some (46, true)), .call 20 [(.t 47)]⟩,
       ⟨(some 49), (some (46, true)), .call 40 [(.t 48)]⟩,
       ⟨(some 50), (some (46, true)), .call 22 [(.t 49)]⟩,
       ⟨(some 51), (some (46, true)), .load (some 2) (.t 2)⟩]
      [⟨(some 52), (some (46, true)), .call 26 [(.t 51)]⟩,
       ⟨(some 53), (some (46, true)), .call 21 [(.t 50), (.t 52)]⟩,
       ⟨(some 54), none, .pick (.t 46) (.t 53) (.c (.b false))⟩,
       ⟨(some 55), none, .mov (.t 54)⟩,
       ⟨(some 56), (some (55, true)), .call 19 []⟩,
       ⟨(some 57), none, .pick (.t 55) (.t 56) (.c (.b false))⟩,
       ⟨(some 4), none, .mov (.t 57)⟩])
     (.pre (.norm false [4]) .ret)))))

/- retrospect/retrospectlaw08.WholeInts -/
def b9 : AX :=
 (.seq
  (.reg [⟨(some 5), none, .xop (.box 2) [(.t 2)]⟩,
    ⟨(some 6), none, .mov (.c (.b false))⟩])
  (.seq
   (.seq
    (.reg [⟨(some 16), none, .fad 1 (.t 5)⟩,
      ⟨(some 17), none, .load none (.t 16)⟩,
      ⟨(some 18), none, .len (.t 17)⟩,
      ⟨(some 19), none, .bin .gtr (.t 18) (.c (.i .i64 60))⟩])
    (.cond (.t 19)
     (.seq
      (.reg [⟨(some 20), none, .call 19 []⟩,
        ⟨(some 6), none, .mov (.t 20)⟩])
      (.pre (.norm false [6]) .ret))
     .skip))
   (.seq
    (.reg [⟨(some 21), none, .mov (.t 0)⟩,
      ⟨(some 22), none, .call 41 [(.t 21)]⟩,
      ⟨(some 7), none, .alloc [(.b false), (.sl [] .nl)]⟩,
      ⟨none, none, .store 2 (.t 7) (.t 22)⟩])
    (.seq
     (.reg [⟨(some 24), none, .load (some 2) (.t 7)⟩,
       ⟨(some 25), none, .call 42 [(.t 24)]⟩,
       ⟨(some 23), none, .mov (.t 25)⟩,
       ⟨(some 26), none, .ext (.t 23) 0⟩,
       ⟨(some 27), none, .ext (.t 23) 1⟩,
       ⟨(some 8), none, .mov (.t 26)⟩,
       ⟨(some 9), none, .mov (.t 27)⟩])
     (.seq
      (.reg [⟨(some 28), none, .mov (.t 0)⟩,
        ⟨(some 29), none, .bin .quo (.t 28) (.c (.i .i64 2))⟩,
        ⟨(some 30), none, .call 41 [(.t 29)]⟩,
        ⟨(some 31), none, .mov (.t 1)⟩,
        ⟨(some 32), none, .bin .quo (.t 31) (.c (.i .i64 2))⟩,
        ⟨(some 33), none, .call 41 [(.t 32)]⟩,
        ⟨(some 34), none, .call 23 [(.t 30), (.t 33)]⟩,
        ⟨(some 10), none, .alloc [(.b false), (.sl [] .nl)]⟩,
        ⟨none, none, .store 2 (.t 10) (.t 34)⟩])
      (.seq
       (.reg [⟨(some 36), none, .load (some 2) (.t 10)⟩,
         ⟨(some 37), none, .call 42 [(.t 36)]⟩,
         ⟨(some 35), none, .mov (.t 37)⟩,
         ⟨(some 38), none, .ext (.t 35) 0⟩,
         ⟨(some 39), none, .ext (.t 35) 1⟩,
         ⟨(some 11), none, .mov (.t 38)⟩,
         ⟨(some 12), none, .mov (.t 39)⟩])
       (.seq
        (.reg [⟨(some 41), none, .load (some 2) (.t 5)⟩,
          ⟨(some 42), none, .call 20 [(.t 41)]⟩,
          ⟨(some 43), none, .call 42 [(.t 42)]⟩,
          ⟨(some 40), none, .mov (.t 43)⟩,
          ⟨(some 44), none, .ext (.t 40) 0⟩,
          ⟨(some 45), none, .ext (.t 40) 1⟩,
          ⟨(some 13), none, .mov (.t 44)⟩,
          ⟨(some 14), none, .mov (.t 45)⟩])
        (.seq
         (.reg [⟨(some 46), none, .fad 1 (.t 5)⟩,
           ⟨(some 47), none, .load none (.t 46)⟩,
           ⟨(some 48), none, .call 43 [(.t 47)]⟩,
           ⟨(some 49), none, .len (.t 48)⟩,
           ⟨(some 50), none, .bin .leq (.t 49) (.c (.i .i64 2))⟩,
           ⟨(some 15), none, .mov (.t 50)⟩])
         (.seq
          (.seq
           (.reg [⟨(some 51), none, .mov (.t 8)⟩,
             ⟨(some 52), none, .mov (.t 0)⟩,
             ⟨(some 53), none, .bin .neq (.t 51) (.t 52)⟩,
             ⟨(some 54), none, .mov (.t 53)⟩,
             ⟨(some 55), (some (54, false)), .mov (.t 9)⟩,
             ⟨(some 56), (some (54, false)), .un .not (.t 55)⟩,
             ⟨(some 57), none, .pick (.t 54) (.c (.b true)) (.t 56)⟩,
             ⟨(some 58), none, .mov (.t 57)⟩,
             ⟨(some 59), (some (58, false)), .mov (.t 11)⟩,
             ⟨(some 60), (some (58, false)), .mov (.t 0)⟩,
             ⟨(some 61), (some (58, false)), .bin .quo (.t 60) (.c (.i .i64 2))⟩,
             ⟨(some 62), (some (58, false)), .mov (.t 1)⟩,
             ⟨(some 63), (some (58, false)), .bin .quo (.t 62) (.c (.i .i64 2))⟩,
             ⟨(some 64), (some (58, false)), .bin .add (.t 61) (.t 63)⟩,
             ⟨(some 65), (some (58, false)), .bin .neq (.t 59) (.t 64)⟩,
             ⟨(some 66), none, .pick (.t 58) (.c (.b true)) (.t 65)⟩,
             ⟨(some 67), none, .mov (.t 66)⟩,
             ⟨(some 68), (some (67, false)), .mov (.t 12)⟩,
             ⟨(some 69), (some (67, false)), .un .not (.t 68)⟩,
             ⟨(some 70), none, .pick (.t 67) (.c (.b true)) (.t 69)⟩,
             ⟨(some 71), none, .mov (.t 70)⟩,
             ⟨(some 72), (some (71, false)), .mov (.t 15)⟩,
             ⟨(some 73), (some (71, false)), .un .not (.t 72)⟩,
             ⟨(some 74), (some (71, false)), .mov (.t 73)⟩,
             ⟨(some 75), (some (74, true)), .mov (.t 14)⟩,
             ⟨(some 76), (some (71, false)), .pick (.t 74) (.t 75) (.c (.b false))⟩,
             ⟨(some 77), none, .pick (.t 71) (.c (.b true)) (.t 76)⟩,
             ⟨(some 78), none, .mov (.t 77)⟩,
             ⟨(some 79), (some (78, false)), .mov (.t 14)⟩,
             ⟨(some 80), (some (78, false)), .un .not (.t 79)⟩,
             ⟨(some 81), (some (78, false)), .mov (.t 80)⟩,
             ⟨(some 82), (some (81, true)), .mov (.t 13)⟩,
             ⟨(some 83), (some (81, true)), .bin .neq (.t 82) (.c (.i .i64 0))⟩,
             ⟨(some 84), (some (78, false)), .pick (.t 81) (.t 83) (.c (.b false))⟩,
             ⟨(some 85), none, .pick (.t 78) (.c (.b true)) (.t 84)⟩])
           (.cond (.t 85)
            (.seq
             (.reg [⟨(some 6), none, .mov (.c (.b false))⟩])
             (.pre (.norm false [6]) .ret))
            .skip))
          (.seq
           (.drawT [⟨(some 86), none, .mov (.t 14)⟩,
             ⟨(some 87), none, .un .not (.t 86)⟩,
             ⟨(some 88), none, .mov (.t 87)⟩,
             ⟨(some 89), (some (88, false)), .mov (.t 13)⟩,
             ⟨(some 90), (some (88, false)), .call 41 [(.t 89)]⟩,
             ⟨(some 91), (some (88, false)), .load (some 2) (.t 5)⟩]
            [⟨(some 92), (some (88, false)), .call 20 [(.t 91)]⟩,
             ⟨(some 93), (some (88, false)), .call 36 [(.t 90), (.t 92)]⟩,
             ⟨(some 94), (some (88, false)), .bin .eql (.t 93) (.c (.i .i64 0))⟩,
             ⟨(some 95), none, .pick (.t 88) (.c (.b true)) (.t 94)⟩,
             ⟨(some 96), none, .mov (.t 95)⟩,
             ⟨(some 97), (some (96, true)), .mov (.t 14)⟩,
             ⟨(some 98), (some (96, true)), .mov (.t 97)⟩,
             ⟨(some 99), (some (98, false)), .load (some 2) (.t 5)⟩,
             ⟨(some 100), (some (98, false)), .call 20 [(.t 99)]⟩,
             ⟨(some 101), (some (98, false)), .call 41 [(.c (.i .i64 9223372036854775807))]⟩,
             ⟨(some 102), (some (98, false)), .call 36 [(.t 100), (.t 101)]⟩,
             ⟨(some 103), (some (98, false)), .bin .gtr (.t 102) (.c (.i .i64 0))⟩,
             ⟨(some 104), (some (96, true)), .pick (.t 98) (.c (.b true)) (.t 103)⟩,
             ⟨(some 105), (some (96, true)), .mov (.t 104)⟩,
             ⟨(some 106), (some (105, false)), .load (some 2) (.t 5)⟩,
             ⟨(some 107), (some (105, false)), .call 20 [(.t 106)]⟩,
             ⟨(some 108), (some (105, false)), .call 41 [(.c (.i .i64 (-9223372036854775808)))]⟩,
             ⟨(some 109), (some (105, false)), .call 36 [(.t 107), (.t 108)]⟩,
             ⟨(some 110), (some (105, false)), .bin .lss (.t 109) (.c (.i .i64 0))⟩,
             ⟨(some 111), (some (96, true)), .pick (.t 105) (.c (.b true)) (.t 110)⟩,
             ⟨(some 112), none, .pick (.t 96) (.t 111) (.c (.b false))⟩,
             ⟨(some 113), none, .mov (.t 112)⟩,
             ⟨(some 114), (some (113, true)), .call 19 []⟩,
             ⟨(some 115), none, .pick (.t 113) (.t 114) (.c (.b false))⟩,
             ⟨(some 6), none, .mov (.t 115)⟩])
           (.pre (.norm false [6]) .ret)))))))))))

class CLaw08 (T : Tbl) : Prop where
  h20 : T 20 = some ⟨1, 8, [.cell 2 (some 2)], b20, none, false⟩
  h22 : T 22 = some ⟨1, 8, [.cell 2 (some 2)], b22, none, false⟩
  h19 : T 19 = some ⟨0, 33, [.t 0], b19, none, false⟩
  h5 : T 5 = some ⟨2, 108, [.t 4], b5, none, false⟩
  h6 : T 6 = some ⟨2, 61, [.t 4], b6, none, false⟩
  h7 : T 7 = some ⟨2, 70, [.t 4], b7, none, false⟩
  h8 : T 8 = some ⟨2, 58, [.t 4], b8, none, false⟩
  h9 : T 9 = some ⟨3, 116, [.t 6], b9, none, false⟩

section
variable {T : Tbl} [CLaw08 T] {d : Option Nat} {st : St}
@[simp] theorem x20 (xs : List AV) : callX (orc T) T 20 xs d st = bL (frzL st.heap xs) fun ys => cR (callF T 20 (ys.map (wkIf false))) xs d st := callX_pure CLaw08.h20
@[simp] theorem y20 {e : Env} {h : Heap} {older : List Heap} (args : List Opd) : opD (orc T) T (.call 20 args) e h older = dR (callF T 20 ((args.map (ev e.get)).map (wkIf false))) (args.map (ev e.get)) := opD_call CLaw08.h20
theorem f20 (xs : List AV) (hn : xs.length = 1) : callF T 20 xs = retF [.cell 2 (some 2)] false (evX (orc T) T 0 b20 ⟨argEnv xs, [], 1⟩) := callF_eq CLaw08.h20 hn
@[simp] theorem x22 (xs : List AV) : callX (orc T) T 22 xs d st = bL (frzL st.heap xs) fun ys => cR (callF T 22 (ys.map (wkIf false))) xs d st := callX_pure CLaw08.h22
@[simp] theorem y22 {e : Env} {h : Heap} {older : List Heap} (args : List Opd) : opD (orc T) T (.call 22 args) e h older = dR (callF T 22 ((args.map (ev e.get)).map (wkIf false))) (args.map (ev e.get)) := opD_call CLaw08.h22
theorem f22 (xs : List AV) (hn : xs.length = 1) : callF T 22 xs = retF [.cell 2 (some 2)] false (evX (orc T) T 0 b22 ⟨argEnv xs, [], 1⟩) := callF_eq CLaw08.h22 hn
@[simp] theorem x19 (xs : List AV) : callX (orc T) T 19 xs d st = bL (frzL st.heap xs) fun ys => cR (callF T 19 (ys.map (wkIf false))) xs d st := callX_pure CLaw08.h19
@[simp] theorem y19 {e : Env} {h : Heap} {older : List Heap} (args : List Opd) : opD (orc T) T (.call 19 args) e h older = dR (callF T 19 ((args.map (ev e.get)).map (wkIf false))) (args.map (ev e.get)) := opD_call CLaw08.h19
theorem f19 (xs : List AV) (hn : xs.length = 0) : callF T 19 xs = retF [.t 0] false (evX (orc T) T 0 b19 ⟨argEnv xs, [], 1⟩) := callF_eq CLaw08.h19 hn
@[simp] theorem x5 (xs : List AV) : callX (orc T) T 5 xs d st = bL (frzL st.heap xs) fun ys => cR (callF T 5 (ys.map (wkIf false))) xs d st := callX_pure CLaw08.h5
@[simp] theorem y5 {e : Env} {h : Heap} {older : List Heap} (args : List Opd) : opD (orc T) T (.call 5 args) e h older = dR (callF T 5 ((args.map (ev e.get)).map (wkIf false))) (args.map (ev e.get)) := opD_call CLaw08.h5
theorem f5 (xs : List AV) (hn : xs.length = 2) : callF T 5 xs = retF [.t 4] false (evX (orc T) T 0 b5 ⟨argEnv xs, [], 1⟩) := callF_eq CLaw08.h5 hn
@[simp] theorem x6 (xs : List AV) : callX (orc T) T 6 xs d st = bL (frzL st.heap xs) fun ys => cR (callF T 6 (ys.map (wkIf false))) xs d st := callX_pure CLaw08.h6
@[simp] theorem y6 {e : Env} {h : Heap} {older : List Heap} (args : List Opd) : opD (orc T) T (.call 6 args) e h older = dR (callF T 6 ((args.map (ev e.get)).map (wkIf false))) (args.map (ev e.get)) := opD_call CLaw08.h6
theorem f6 (xs : List AV) (hn : xs.length = 2) : callF T 6 xs = retF [.t 4] false (evX (orc T) T 0 b6 ⟨argEnv xs, [], 1⟩) := callF_eq CLaw08.h6 hn
@[simp] theorem x7 (xs : List AV) : callX (orc T) T 7 xs d st = bL (frzL st.heap xs) fun ys => cR (callF T 7 (ys.map (wkIf false))) xs d st := callX_pure CLaw08.h7
@[simp] theorem y7 {e : Env} {h : Heap} {older : List Heap} (args : List Opd) : opD (orc T) T (.call 7 args) e h older = dR (callF T 7 ((args.map (ev e.get)).map (wkIf false))) (args.map (ev e.get)) := opD_call CLaw08.h7
theorem f7 (xs : List AV) (hn : xs.length = 2) : callF T 7 xs = retF [.t 4] false (evX (orc T) T 0 b7 ⟨argEnv xs, [], 1⟩) := callF_eq CLaw08.h7 hn
@[simp] theorem x8 (xs : List AV) : callX (orc T) T 8 xs d st = bL (frzL st.heap xs) fun ys => cR (callF T 8 (ys.map (wkIf false))) xs d st := callX_pure CLaw08.h8
@[simp] theorem y8 {e : Env} {h : Heap} {older : List Heap} (args : List Opd) : opD (orc T) T (.call 8 args) e h older = dR (callF T 8 ((args.map (ev e.get)).map (wkIf false))) (args.map (ev e.get)) := opD_call CLaw08.h8
theorem f8 (xs : List AV) (hn : xs.length = 2) : callF T 8 xs = retF [.t 4] false (evX (orc T) T 0 b8 ⟨argEnv xs, [], 1⟩) := callF_eq CLaw08.h8 hn
@[simp] theorem x9 (xs : List AV) : callX (orc T) T 9 xs d st = bL (frzL st.heap xs) fun ys => cR (callF T 9 (ys.map (wkIf false))) xs d st := callX_pure CLaw08.h9
@[simp] theorem y9 {e : Env} {h : Heap} {older : List Heap} (args : List Opd) : opD (orc T) T (.call 9 args) e h older = dR (callF T 9 ((args.map (ev e.get)).map (wkIf false))) (args.map (ev e.get)) := opD_call CLaw08.h9
theorem f9 (xs : List AV) (hn : xs.length = 3) : callF T 9 xs = retF [.t 6] false (evX (orc T) T 0 b9 ⟨argEnv xs, [], 1⟩) := callF_eq CLaw08.h9 hn
end
end Go.Ab
end
